import PyProof.Rows.All
import Wide.All
import OpenK.AllK
import Wide.FinOn
import HandS.ForMost
import HandS.IsInst
import HandS.Style
import HandS.Zip
import HandS.Walk
import HandS.Conv
import HandS.Star
import HandS.ReplaceLit
import HandS.ReplaceDef
import HandS.Wide
import HandS.TupAny
import HandS.WordsDict
import KE.DataEq
import KE.GoesMore
import HandS.ExcField
import HandS.ExcIs
import HandS.ExcInit
import HandS.SetFor
import KE.KExcIs
import HandS.Defaults
import HandS.WordsExc
import HandS.ExcOwn
import HandS.WideBits
import KE.IntTextLaws
import PySem.Challenge.RW_comestoend_k88_whole_torn_texts_of_thing
set_option Elab.async false
set_option linter.all false
set_option maxRecDepth 100000
set_option maxHeartbeats 2000000
namespace Pu
open PySem PySem.Spec PyProof.Rows L2

/-! ### pure values in the heap -/
def keyD : Key → PyData
  | .inl i => .int i
  | .inr x => .str x
mutual
inductive Rp (H : Hp) : PyData → V → Prop
  | non : Rp H .none .non
  | bl (b : Bool) : Rp H (.bool b) (.bl b)
  | int (i : Int) : Rp H (.int i) (.int i)
  | str (x : Str) : Rp H (.str x) (.str x)
  | lst {a : Addr} {xs : List V} {ds : List PyData} : H a = some (.lst xs) → RpAll H ds xs → Rp H (.list ds) (.ref a)
  | tup {a : Addr} {xs : List V} {ds : List PyData} : H a = some (.tup xs) → RpAll H ds xs → Rp H (.tuple ds) (.ref a)
  | dic {a : Addr} {kvs : List (Key × V)} {ps : List (PyData × PyData)} : H a = some (.dK kvs) → RpKV H ps kvs → Rp H (.dict ps) (.ref a)
  /-- an object, by some of its attributes (a dict whose first key is nothing) -/
  | ob {a C dx : Addr} {fs : List (Str × V)} {ps : List (PyData × PyData)} : H a = some (.ins C dx fs) → RpF H ps fs → Rp H (.dict ((.none, .int (C : Nat)) :: ps)) (.ref a)
inductive RpAll (H : Hp) : List PyData → List V → Prop
  | nil : RpAll H [] []
  | cons {d : PyData} {v : V} {ds : List PyData} {vs : List V} : Rp H d v → RpAll H ds vs → RpAll H (d :: ds) (v :: vs)
inductive RpKV (H : Hp) : List (PyData × PyData) → List (Key × V) → Prop
  | nil : RpKV H [] []
  | cons {k : Key} {d : PyData} {v : V} {ps : List (PyData × PyData)} {kvs : List (Key × V)} : Rp H d v → RpKV H ps kvs → RpKV H ((keyD k, d) :: ps) ((k, v) :: kvs)
inductive RpF (H : Hp) : List (PyData × PyData) → List (Str × V) → Prop
  | nil {fs : List (Str × V)} : RpF H [] fs
  | cons {f : Str} {d : PyData} {v : V} {ps : List (PyData × PyData)} {fs : List (Str × V)} : fs.lookup f = some v → Rp H d v → RpF H ps fs → RpF H ((.str f, d) :: ps) fs
end
def isOb : List (PyData × PyData) → Bool
  | (.none, _) :: _ => true
  | _ => false
mutual
theorem Rp.mono {H H' : Hp} (s : Same H H') : ∀ {d : PyData} {v : V}, Rp H d v → Rp H' d v
  | _, _, .non => .non
  | _, _, .bl b => .bl b
  | _, _, .int i => .int i
  | _, _, .str x => .str x
  | _, _, .lst h r => .lst (s _ _ h) (RpAll.mono s r)
  | _, _, .tup h r => .tup (s _ _ h) (RpAll.mono s r)
  | _, _, .dic h r => .dic (s _ _ h) (RpKV.mono s r)
  | _, _, .ob h r => .ob (s _ _ h) (RpF.mono s r)
theorem RpAll.mono {H H' : Hp} (s : Same H H') : ∀ {ds : List PyData} {vs : List V}, RpAll H ds vs → RpAll H' ds vs
  | _, _, .nil => .nil
  | _, _, .cons r t => .cons (Rp.mono s r) (RpAll.mono s t)
theorem RpKV.mono {H H' : Hp} (s : Same H H') : ∀ {ps : List (PyData × PyData)} {kvs : List (Key × V)}, RpKV H ps kvs → RpKV H' ps kvs
  | _, _, .nil => .nil
  | _, _, .cons r t => .cons (Rp.mono s r) (RpKV.mono s t)
theorem RpF.mono {H H' : Hp} (s : Same H H') : ∀ {ps : List (PyData × PyData)} {fs : List (Str × V)}, RpF H ps fs → RpF H' ps fs
  | _, _, .nil => .nil
  | _, _, .cons l r t => .cons l (Rp.mono s r) (RpF.mono s t)
end
theorem RpAll.len {H : Hp} : ∀ {ds : List PyData} {vs : List V}, RpAll H ds vs → ds.length = vs.length
  | _, _, .nil => rfl
  | _, _, .cons _ t => by rw [List.length_cons, List.length_cons, t.len]
theorem RpAll.get {H : Hp} : ∀ {ds : List PyData} {vs : List V} {i : Nat} {d : PyData}, RpAll H ds vs → ds[i]? = some d → ∃ v, vs[i]? = some v ∧ Rp H d v
  | _, _, _, _, .nil, e => by simp at e
  | _, _, 0, _, .cons r _, e => by simp at e; subst e; exact ⟨_, rfl, r⟩
  | _, _, i + 1, d, .cons _ t, e => by
    obtain ⟨u, h1, h2⟩ := RpAll.get (i := i) (d := d) t (by simpa using e)
    exact ⟨u, by simpa using h1, h2⟩
theorem RpAll.get' {H : Hp} : ∀ {ds : List PyData} {vs : List V} {i : Nat} {v : V}, RpAll H ds vs → vs[i]? = some v → ∃ d, ds[i]? = some d ∧ Rp H d v
  | _, _, _, _, .nil, e => by simp at e
  | _, _, 0, _, .cons r _, e => by simp at e; subst e; exact ⟨_, rfl, r⟩
  | _, _, i + 1, d, .cons _ t, e => by
    obtain ⟨u, h1, h2⟩ := RpAll.get' (i := i) t (by simpa using e)
    exact ⟨u, by simpa using h1, h2⟩
theorem RpAll.append {H : Hp} : ∀ {ds es : List PyData} {vs us : List V}, RpAll H ds vs → RpAll H es us → RpAll H (ds ++ es) (vs ++ us)
  | _, _, _, _, .nil, s => s
  | _, _, _, _, .cons r t, s => .cons r (RpAll.append t s)
theorem RpAll.take {H : Hp} : ∀ {ds : List PyData} {vs : List V} (n : Nat), RpAll H ds vs → RpAll H (ds.take n) (vs.take n)
  | _, _, 0, _ => .nil
  | _, _, _ + 1, .nil => .nil
  | _, _, n + 1, .cons r t => .cons r (RpAll.take n t)
theorem RpAll.drop {H : Hp} : ∀ {ds : List PyData} {vs : List V} (n : Nat), RpAll H ds vs → RpAll H (ds.drop n) (vs.drop n)
  | _, _, 0, r => r
  | _, _, _ + 1, .nil => .nil
  | _, _, n + 1, .cons _ t => RpAll.drop n t

/-- all of the heap that grows, and the part Hs that pure values stand in -/
structure Ext (H Hs H' Hs' : Hp) : Prop where
  big : Same H H'
  small : Same Hs Hs'
  sub : Same Hs' H'
  new : ∀ b, Hs b = none → H b ≠ none → Hs' b = none
theorem Ext.refl {H Hs : Hp} (s : Same Hs H) : Ext H Hs H Hs := ⟨Same.refl _, Same.refl _, s, fun _ h _ => h⟩
theorem Ext.trans {H Hs H1 Hs1 H2 Hs2 : Hp} (a : Ext H Hs H1 Hs1) (b : Ext H1 Hs1 H2 Hs2) : Ext H Hs H2 Hs2 :=
  ⟨a.big.trans b.big, a.small.trans b.small, b.sub, fun x h h' => b.new x (a.new x h h') fun z => h' (a.big.free z)⟩
/-- a new object -/
theorem Ext.laid {H Hs H1 Hs1 : Hp} (a : Ext H Hs H1 Hs1) {p : Addr} (hp : H1 p = none) (o : HO) : Ext H Hs (upd H1 p o) (upd Hs1 p o) := by
  have hs : Hs1 p = none := a.sub.free hp
  refine ⟨a.big.trans fun b u e => ?_, a.small.trans fun b u e => ?_, fun b u e => ?_, fun b h h' => ?_⟩
  · rw [upd_ne (ne_of_none e hp)]; exact e
  · rw [upd_ne (ne_of_none e hs)]; exact e
  · by_cases q : b = p
    · subst q; rw [upd_same] at e ⊢; exact e
    · rw [upd_ne q] at e ⊢; exact a.sub _ _ e
  · have q : b ≠ p := fun z => by subst z; exact h' (a.big.free hp)
    rw [upd_ne q]; exact a.new b h h'

/-! ### slots -/
abbrev Ev := List (Option PyData)
structure REnv (Hs : Hp) (σ : L2.St) (ev : Ev) : Prop where
  le : ev.length ≤ σ.length
  at_ : ∀ (i : Nat) (w : PyData), ev[i]? = some (some w) → ∃ v, σ[i]? = some (some v) ∧ Rp Hs w v
theorem REnv.mono {Hs Hs' : Hp} {σ : L2.St} {ev : Ev} (s : Same Hs Hs') (h : REnv Hs σ ev) : REnv Hs' σ ev := ⟨h.le, fun i w e =>
  let ⟨v, h1, h2⟩ := h.at_ i w e
  ⟨v, h1, h2.mono s⟩⟩
theorem REnv.set {Hs : Hp} {σ : L2.St} {ev : Ev} (h : REnv Hs σ ev) {i : Nat} {w : PyData} {v : V} (r : Rp Hs w v) : REnv Hs (σ.set i (some v)) (ev.set i (some w)) := ⟨by rw [List.length_set, List.length_set]; exact h.le, fun j u e => by
  have hl := h.le
  by_cases q : i = j
  · subst q
    by_cases hi : i < ev.length
    · rw [List.getElem?_set_self hi] at e
      cases e
      exact ⟨v, List.getElem?_set_self (by omega), r⟩
    · rw [List.getElem?_eq_none (by simpa using hi)] at e
      cases e
  · rw [List.getElem?_set_ne q] at e
    obtain ⟨x, h1, h2⟩ := h.at_ j u e
    exact ⟨x, by rw [List.getElem?_set_ne q]; exact h1, h2⟩⟩
theorem REnv.unset {Hs : Hp} {σ : L2.St} {ev : Ev} (h : REnv Hs σ ev) {i : Nat} {o : Option V} : REnv Hs (σ.set i o) (ev.set i none) := ⟨by rw [List.length_set, List.length_set]; exact h.le, fun j u e => by
  by_cases q : i = j
  · subst q
    by_cases hi : i < ev.length
    · rw [List.getElem?_set_self hi] at e
      cases e
    · rw [List.getElem?_eq_none (by simpa using hi)] at e
      cases e
  · rw [List.getElem?_set_ne q] at e
    obtain ⟨x, h1, h2⟩ := h.at_ j u e
    exact ⟨x, by rw [List.getElem?_set_ne q]; exact h1, h2⟩⟩

/-! ### judgements -/
def tPu (f : Ev → Option PyData) : TE := fun σ H Q => ∃ (Hs : Hp) (ev : Ev) (w : PyData), Same Hs H ∧ REnv Hs σ ev ∧ f ev = some w ∧ ∀ v H' Hs', Ext H Hs H' Hs' → Rp Hs' w v → Q v H'
def tPuT (f : Ev → Option Bool) : TT := fun σ H Q => ∃ (Hs : Hp) (ev : Ev) (b : Bool), Same Hs H ∧ REnv Hs σ ev ∧ f ev = some b ∧ ∀ H' Hs', Ext H Hs H' Hs' → Q b H'
def tPuA (f : Ev → Option (List PyData)) : TA := fun σ H Q => ∃ (Hs : Hp) (ev : Ev) (ws : List PyData), Same Hs H ∧ REnv Hs σ ev ∧ f ev = some ws ∧ ∀ vs H' Hs', Ext H Hs H' Hs' → RpAll Hs' ws vs → Q vs H'
structure PU (X : Cx) (e : Expr) (f : Ev → Option PyData) : Prop where
  pe : PE X e (tPu f)
structure PUT (X : Cx) (e : Expr) (f : Ev → Option Bool) : Prop where
  pt : PT X e (tPuT f)
structure PUW (X : Cx) (e : Expr) (f : Ev → Option Bool) : Prop where
  pw : PW X e (tPuT f)
structure PUA (X : Cx) (es : List Expr) (f : Ev → Option (List PyData)) : Prop where
  pa : PA X es (tPuA f)
theorem conv {X : Cx} {e : Expr} {t t' : TE} (h : PE X e t) (k : ∀ σ H Q, t' σ H Q → t σ H Q) : PE X e t' := ⟨fun pins s σ H Q I q => h.run pins s σ H Q I (k σ H Q q)⟩
theorem convT {X : Cx} {e : Expr} {t t' : TT} (h : PT X e t) (k : ∀ σ H Q, t' σ H Q → t σ H Q) : PT X e t' := ⟨fun pins s σ H Q I q => h.run pins s σ H Q I (k σ H Q q)⟩
theorem convW {X : Cx} {e : Expr} {t t' : TT} (h : PW X e t) (k : ∀ σ H Q, t' σ H Q → t σ H Q) : PW X e t' := ⟨fun wh pins s σ H Q I q => h.run wh pins s σ H Q I (k σ H Q q)⟩
theorem convA {X : Cx} {es : List Expr} {t t' : TA} (h : PA X es t) (k : ∀ σ H Q, t' σ H Q → t σ H Q) : PA X es t' := ⟨fun pos pins s σ H Q I q => h.run pos pins s σ H Q I (k σ H Q q)⟩
theorem bindS {α β : Type} {o : Option α} {f : α → Option β} {b : β} (h : o.bind f = some b) : ∃ a, o = some a ∧ f a = some b := by
  cases o with
  | none => cases h
  | some a => exact ⟨a, rfl, h⟩

/-! ### names, constants -/
def fVar (i : Nat) : Ev → Option PyData := fun ev => (ev[i]?).bind id
def fC (w : PyData) : Ev → Option PyData := fun _ => some w
section
variable {X : Cx}
theorem fVar_some {i : Nat} {ev : Ev} {w : PyData} (h : fVar i ev = some w) : ev[i]? = some (some w) := by
  unfold fVar at h
  cases e : ev[i]? with
  | none => rw [e] at h; cases h
  | some o =>
    rw [e] at h
    have h' : o = some w := h
    rw [h']
theorem pu_var (i : Nat) {x : Str} {pos : Pos} (hN : X.N[i]? = some x := by rfl) (hv : Vis X.env.scope x := by first | exact Or.inl rfl | exact Or.inr (Or.inl rfl) | exact Or.inr (Or.inr rfl)) (hd : (x == ("__debug__" : Str)) = false := by decide)
    (hcd : (x == ("__classdict__" : Str)) = false := by decide) : PU X (.Name x pos) (fVar i) := ⟨conv (pe_var hN hv hd hcd) fun σ H Q ⟨Hs, ev, w, s, r, e, q⟩ => by
  obtain ⟨v, h1, h2⟩ := r.at_ i w (fVar_some e)
  exact ⟨v, h1, q v H Hs (.refl s) h2⟩⟩
theorem pu_c {e : Expr} {v : V} {w : PyData} (h : PE X e (tC v)) (r : ∀ Hs, Rp Hs w v) : PU X e (fC w) := ⟨conv h fun σ H Q ⟨Hs, ev, w', s, _, e, q⟩ => by
  cases e
  exact q v H Hs (.refl s) (r Hs)⟩
theorem pu_int {i j pos} : PU X (.Constant (.int i) j pos) (fC (.int i)) := pu_c pe_int fun _ => .int i
theorem pu_bl {i j pos} : PU X (.Constant (.bool i) j pos) (fC (.bool i)) := pu_c pe_bl fun _ => .bl i
theorem pu_non {j pos} : PU X (.Constant .none j pos) (fC .none) := pu_c pe_non fun _ => .non
theorem pu_str {x j pos} : PU X (.Constant (.str x) j pos) (fC (.str x)) := pu_c pe_str fun _ => .str x

/-! ### operators -/
def GOp (r : R2) (g : PyData → PyData → Option PyData) : Prop := ∀ (a b w : PyData) (x y : V) (H Hs : Hp) (Q : VK), Same Hs H → Rp Hs a x → Rp Hs b y → g a b = some w → (∀ v H' Hs', Ext H Hs H' Hs' → Rp Hs' w v → Q v H') → r x y H Q
def GCmp (r : R2) (g : PyData → PyData → Option Bool) : Prop := ∀ (a b : PyData) (k : Bool) (x y : V) (H Hs : Hp) (Q : VK), Same Hs H → Rp Hs a x → Rp Hs b y → g a b = some k → Q (.bl k) H → r x y H Q
def f2 (g : PyData → PyData → Option PyData) (f1 f2 : Ev → Option PyData) : Ev → Option PyData := fun ev => (f1 ev).bind fun a => (f2 ev).bind fun b => g a b
def f2T (g : PyData → PyData → Option Bool) (f1 f2 : Ev → Option PyData) : Ev → Option Bool := fun ev => (f1 ev).bind fun a => (f2 ev).bind fun b => g a b
theorem use2 {f1 f2 : Ev → Option PyData} {σ : L2.St} {H Hs : Hp} {ev : Ev} {a b : PyData} {R : V → V → Hp → Prop} (s : Same Hs H) (r : REnv Hs σ ev) (h1 : f1 ev = some a) (h2 : f2 ev = some b)
    (k : ∀ x y H' Hs', Ext H Hs H' Hs' → Rp Hs' a x → Rp Hs' b y → R x y H') : tPu f1 σ H fun x H1 => tPu f2 σ H1 fun y H2 => R x y H2 :=
  ⟨Hs, ev, a, s, r, h1, fun x H1 Hs1 e1 r1 => ⟨Hs1, ev, b, e1.sub, r.mono e1.small, h2, fun y H2 Hs2 e2 r2 => k x y H2 Hs2 (e1.trans e2) (r1.mono e2.small) r2⟩⟩
theorem pu_op {op : Operator} {r : R2} {g : PyData → PyData → Option PyData} {a b : Expr} {fa fb : Ev → Option PyData} {pos : Pos} (ho : OpR X (binaryOp op) r) (hg : GOp r g) (ha : PU X a fa) (hb : PU X b fb) : PU X (.BinOp a op b pos) (f2 g fa fb) :=
  ⟨conv (pe_op ho ha.pe hb.pe) fun σ H Q ⟨Hs, ev, w, s, re, e, q⟩ => by
    obtain ⟨wa, e1, e⟩ := bindS e
    obtain ⟨wb, e2, e⟩ := bindS e
    exact use2 s re e1 e2 fun x y H' Hs' ex rx ry => hg wa wb w x y H' Hs' Q ex.sub rx ry e fun v H2 Hs2 ex2 r2 => q v H2 Hs2 (ex.trans ex2) r2⟩
def fB (f : Ev → Option Bool) : Ev → Option PyData := fun ev => (f ev).map .bool
theorem fB_some {f : Ev → Option Bool} {ev : Ev} {w : PyData} (h : fB f ev = some w) : ∃ b, f ev = some b ∧ w = .bool b := by
  unfold fB at h
  cases e : f ev with
  | none => rw [e] at h; cases h
  | some b =>
    rw [e] at h
    cases h
    exact ⟨b, rfl, rfl⟩
theorem pu_cmp {op : CmpOp} {r : R2} {g : PyData → PyData → Option Bool} {a b : Expr} {fa fb : Ev → Option PyData} {pos : Pos} (ho : OpR X (compareOp op) r) (hg : GCmp r g) (ha : PU X a fa) (hb : PU X b fb) (hm : behindInMarks op b = false) : PU X (.Compare a [op] [b] pos) (fB (f2T g fa fb)) :=
  ⟨conv (pe_cmpR ho ha.pe hb.pe hm) fun σ H Q ⟨Hs, ev, w, s, re, e, q⟩ => by
    obtain ⟨k, e0, rfl⟩ := fB_some e
    obtain ⟨wa, e1, e⟩ := bindS e0
    obtain ⟨wb, e2, e⟩ := bindS e
    exact use2 s re e1 e2 fun x y H' Hs' ex rx ry => hg wa wb k x y H' Hs' Q ex.sub rx ry e (q _ H' Hs' ex (.bl k))⟩
theorem put_cmp {op : CmpOp} {r : R2} {g : PyData → PyData → Option Bool} {a b : Expr} {fa fb : Ev → Option PyData} {pos : Pos} (ho : OpR X (compareOp op) r) (hg : GCmp r g) (ha : PU X a fa) (hb : PU X b fb) (hm : behindInMarks op b = false) : PUT X (.Compare a [op] [b] pos) (f2T g fa fb) :=
  ⟨convT (pt_cmpR ho ha.pe hb.pe hm) fun σ H Q ⟨Hs, ev, k, s, re, e, q⟩ => by
    obtain ⟨wa, e1, e⟩ := bindS e
    obtain ⟨wb, e2, e⟩ := bindS e
    exact use2 (R := fun x y H2 => r x y H2 fun x H' => ∃ k, x = .bl k ∧ Q k H') s re e1 e2 fun x y H' Hs' ex rx ry => hg wa wb k x y H' Hs' _ ex.sub rx ry e ⟨k, rfl, q H' Hs' ex⟩⟩
/-- a op1 b op2 c -/
def fChain (g g' : PyData → PyData → Option Bool) (f1 f2 f3 : Ev → Option PyData) : Ev → Option Bool := fun ev => (f1 ev).bind fun a => (f2 ev).bind fun b => (g a b).bind fun k => if k = true then (f3 ev).bind fun c => g' b c else some false
theorem chain_use {r r' : R2} {g g' : PyData → PyData → Option Bool} {fa fb fc : Ev → Option PyData} {σ : L2.St} {H Hs : Hp} {ev : Ev} {k : Bool} {Q : VK} (hg : GCmp r g) (hg' : GCmp r' g') (s : Same Hs H) (re : REnv Hs σ ev) (e : fChain g g' fa fb fc ev = some k)
    (q : ∀ H' Hs', Ext H Hs H' Hs' → Q (.bl k) H') : tChain r r' (tPu fa) (tPu fb) (tPu fc) σ H Q := by
  obtain ⟨wa, e1, e⟩ := bindS e
  obtain ⟨wb, e2, e⟩ := bindS e
  obtain ⟨k1, e3, e⟩ := bindS e
  refine use2 (R := fun x y H2 => r x y H2 fun z H3 => ∃ k, z = .bl k ∧ (if k = true then tPu fc σ H3 fun w' H4 => r' y w' H4 Q else Q (.bl false) H3)) s re e1 e2 fun x y H' Hs' ex rx ry => ?_
  refine hg wa wb k1 x y H' Hs' _ ex.sub rx ry e3 ⟨k1, rfl, ?_⟩
  cases k1 with
  | false =>
    rw [if_neg Bool.false_ne_true] at e ⊢
    cases e
    exact q H' Hs' ex
  | true =>
    rw [if_pos rfl] at e ⊢
    obtain ⟨wc, e4, e⟩ := bindS e
    exact ⟨Hs', ev, wc, ex.sub, re.mono ex.small, e4, fun z H2 Hs2 ex2 r2 => hg' wb wc k y z H2 Hs2 Q ex2.sub (ry.mono ex2.small) r2 e (q H2 Hs2 (ex.trans ex2))⟩
theorem pu_chain {op op' : CmpOp} {r r' : R2} {g g' : PyData → PyData → Option Bool} {a b c : Expr} {fa fb fc : Ev → Option PyData} {pos : Pos} (ho : OpR X (compareOp op) r) (hg : GCmp r g) (ho' : OpR X (compareOp op') r') (hg' : GCmp r' g') (ha : PU X a fa) (hb : PU X b fb) (hc : PU X c fc)
    (hm : lastMarks [op, op'] [b, c] = false := by with_unfolding_all rfl) : PU X (.Compare a [op, op'] [b, c] pos) (fB (fChain g g' fa fb fc)) :=
  ⟨conv (pe_chain ho ho' ha.pe hb.pe hc.pe hm) fun σ H Q ⟨Hs, ev, w, s, re, e, q⟩ => by
    obtain ⟨k, e0, rfl⟩ := fB_some e
    exact chain_use hg hg' s re e0 fun H' Hs' ex => q _ H' Hs' ex (.bl k)⟩
theorem put_chain {op op' : CmpOp} {r r' : R2} {g g' : PyData → PyData → Option Bool} {a b c : Expr} {fa fb fc : Ev → Option PyData} {pos : Pos} (ho : OpR X (compareOp op) r) (hg : GCmp r g) (ho' : OpR X (compareOp op') r') (hg' : GCmp r' g') (ha : PU X a fa) (hb : PU X b fb) (hc : PU X c fc)
    (hm : lastMarks [op, op'] [b, c] = false := by with_unfolding_all rfl) : PUT X (.Compare a [op, op'] [b, c] pos) (fChain g g' fa fb fc) :=
  ⟨convT (pt_chain ho ho' ha.pe hb.pe hc.pe hm) fun σ H Q ⟨Hs, ev, k, s, re, e, q⟩ => chain_use (Q := fun x H' => ∃ k, x = .bl k ∧ Q k H') hg hg' s re e fun H' Hs' ex => ⟨k, rfl, q H' Hs' ex⟩⟩

/-! ### bools -/
def asB : PyData → Option Bool
  | .bool b => some b
  | _ => none
theorem asB_some {w : PyData} {b : Bool} (h : asB w = some b) : w = .bool b := by
  cases w <;> first | (cases h; rfl) | cases h
def fT (f : Ev → Option PyData) : Ev → Option Bool := fun ev => (f ev).bind asB
theorem Rp.bl_of {Hs : Hp} {b : Bool} {v : V} (r : Rp Hs (.bool b) v) : v = .bl b := by cases r; rfl
theorem put_val {e : Expr} {f : Ev → Option PyData} (h : PU X e f) (he : ∀ whole, isTrue e X.env whole = (do let v ← whole; standAt e.pos; holding [v] (truthy v)) := by intro _; rfl) : PUT X e (fT f) :=
  ⟨convT (pt_val h.pe he) fun σ H Q ⟨Hs, ev, k, s, re, e, q⟩ => by
    obtain ⟨w, e1, e⟩ := bindS e
    have ew := asB_some e
    subst ew
    exact ⟨Hs, ev, _, s, re, e1, fun v H' Hs' ex rv => ⟨k, rv.bl_of, q H' Hs' ex⟩⟩⟩
def fNot (f : Ev → Option Bool) : Ev → Option Bool := fun ev => (f ev).map (! ·)
def fAnd (f g : Ev → Option Bool) : Ev → Option Bool := fun ev => (f ev).bind fun b => if b = true then g ev else some false
def fOr (f g : Ev → Option Bool) : Ev → Option Bool := fun ev => (f ev).bind fun b => if b = true then some true else g ev
theorem map_not {o : Option Bool} {b : Bool} (h : o.map (! ·) = some b) : o = some (!b) := by
  cases o with
  | none => cases h
  | some a => cases h; simp
theorem put_not {a : Expr} {fa : Ev → Option Bool} {pos : Pos} (ha : PUT X a fa) : PUT X (.UnaryOp .Not a pos) (fNot fa) :=
  ⟨convT (pt_not ha.pt) fun σ H Q ⟨Hs, ev, k, s, re, e, q⟩ => ⟨Hs, ev, !k, s, re, map_not e, fun H' Hs' ex => by
    show Q (!(!k)) H'
    rw [Bool.not_not]; exact q H' Hs' ex⟩⟩
theorem pu_not {a : Expr} {fa : Ev → Option PyData} {pos : Pos} (ha : PU X a fa) : PU X (.UnaryOp .Not a pos) (fB (fNot (fT fa))) :=
  ⟨conv (pe_not ha.pe) fun σ H Q ⟨Hs, ev, w, s, re, e, q⟩ => by
    obtain ⟨k, e0, rfl⟩ := fB_some e
    obtain ⟨w, e1, e⟩ := bindS (map_not (o := fT fa ev) e0)
    have ew := asB_some e
    subst ew
    exact ⟨Hs, ev, _, s, re, e1, fun v H' Hs' ex rv => ⟨!k, rv.bl_of, q _ H' Hs' ex (by rw [Bool.not_not]; exact .bl k)⟩⟩⟩
variable {a b : Expr} {rest : List Expr} {pos : Pos}
theorem puw_and1 {fa : Ev → Option Bool} (ha : PUT X a fa) : PUW X (.BoolOp .And [a] pos) fa := ⟨pw_and1 ha.pt⟩
theorem puw_or1 {fa : Ev → Option Bool} (ha : PUT X a fa) : PUW X (.BoolOp .Or [a] pos) fa := ⟨pw_or1 ha.pt⟩
theorem puw_and {fa fb : Ev → Option Bool} (ha : PUT X a fa) (hb : PUW X (.BoolOp .And (b :: rest) pos) fb) : PUW X (.BoolOp .And (a :: b :: rest) pos) (fAnd fa fb) :=
  ⟨convW (pw_and ha.pt hb.pw) fun σ H Q ⟨Hs, ev, k, s, re, e, q⟩ => by
    obtain ⟨k1, e1, e⟩ := bindS e
    refine ⟨Hs, ev, k1, s, re, e1, fun H' Hs' ex => ?_⟩
    cases k1 with
    | true => exact iteT ⟨Hs', ev, k, ex.sub, re.mono ex.small, e, fun H2 Hs2 ex2 => q H2 Hs2 (ex.trans ex2)⟩
    | false => cases e; exact iteF (q H' Hs' ex)⟩
theorem puw_or {fa fb : Ev → Option Bool} (ha : PUT X a fa) (hb : PUW X (.BoolOp .Or (b :: rest) pos) fb) : PUW X (.BoolOp .Or (a :: b :: rest) pos) (fOr fa fb) :=
  ⟨convW (pw_or ha.pt hb.pw) fun σ H Q ⟨Hs, ev, k, s, re, e, q⟩ => by
    obtain ⟨k1, e1, e⟩ := bindS e
    refine ⟨Hs, ev, k1, s, re, e1, fun H' Hs' ex => ?_⟩
    cases k1 with
    | false => exact iteF ⟨Hs', ev, k, ex.sub, re.mono ex.small, e, fun H2 Hs2 ex2 => q H2 Hs2 (ex.trans ex2)⟩
    | true => cases e; exact iteT (q H' Hs' ex)⟩
theorem put_w {e : Expr} {f : Ev → Option Bool} (h : PUW X e f) : PUT X e f := ⟨h.pw.pt⟩
def fAndV (f g : Ev → Option PyData) : Ev → Option PyData := fun ev => (f ev).bind fun w => (asB w).bind fun b => if b = true then g ev else some (.bool false)
def fOrV (f g : Ev → Option PyData) : Ev → Option PyData := fun ev => (f ev).bind fun w => (asB w).bind fun b => if b = true then some (.bool true) else g ev
theorem pu_one {op : BoolOp} {fa : Ev → Option PyData} (ha : PU X a fa) : PU X (.BoolOp op [a] pos) fa := ⟨pe_one ha.pe⟩
theorem pu_and {fa fb : Ev → Option PyData} (ha : PU X a fa) (hb : PU X (.BoolOp .And (b :: rest) pos) fb) : PU X (.BoolOp .And (a :: b :: rest) pos) (fAndV fa fb) :=
  ⟨conv (pe_and ha.pe hb.pe) fun σ H Q ⟨Hs, ev, w, s, re, e, q⟩ => by
    obtain ⟨wa, e1, e⟩ := bindS e
    obtain ⟨k, e2, e⟩ := bindS e
    have ew := asB_some e2
    subst ew
    refine ⟨Hs, ev, _, s, re, e1, fun v H' Hs' ex rv => ⟨k, rv.bl_of, ?_⟩⟩
    cases k with
    | true => exact iteT ⟨Hs', ev, w, ex.sub, re.mono ex.small, e, fun v H2 Hs2 ex2 r => q v H2 Hs2 (ex.trans ex2) r⟩
    | false => cases e; exact iteF (q _ H' Hs' ex (.bl false))⟩
theorem pu_or {fa fb : Ev → Option PyData} (ha : PU X a fa) (hb : PU X (.BoolOp .Or (b :: rest) pos) fb) : PU X (.BoolOp .Or (a :: b :: rest) pos) (fOrV fa fb) :=
  ⟨conv (pe_or ha.pe hb.pe) fun σ H Q ⟨Hs, ev, w, s, re, e, q⟩ => by
    obtain ⟨wa, e1, e⟩ := bindS e
    obtain ⟨k, e2, e⟩ := bindS e
    have ew := asB_some e2
    subst ew
    refine ⟨Hs, ev, _, s, re, e1, fun v H' Hs' ex rv => ⟨k, rv.bl_of, ?_⟩⟩
    cases k with
    | false => exact iteF ⟨Hs', ev, w, ex.sub, re.mono ex.small, e, fun v H2 Hs2 ex2 r => q v H2 Hs2 (ex.trans ex2) r⟩
    | true => cases e; exact iteT (q _ H' Hs' ex (.bl true))⟩
def fIf (c : Ev → Option Bool) (f g : Ev → Option PyData) : Ev → Option PyData := fun ev => (c ev).bind fun b => if b = true then f ev else g ev
theorem pu_ifE {c : Expr} {fc : Ev → Option Bool} {fa fb : Ev → Option PyData} (hc : PUT X c fc) (ha : PU X a fa) (hb : PU X b fb) : PU X (.IfExp c a b pos) (fIf fc fa fb) :=
  ⟨conv (pe_ifExp hc.pt ha.pe hb.pe) fun σ H Q ⟨Hs, ev, w, s, re, e, q⟩ => by
    obtain ⟨k, e1, e⟩ := bindS e
    refine ⟨Hs, ev, k, s, re, e1, fun H' Hs' ex => ?_⟩
    cases k with
    | true => exact iteT ⟨Hs', ev, w, ex.sub, re.mono ex.small, e, fun v H2 Hs2 ex2 r => q v H2 Hs2 (ex.trans ex2) r⟩
    | false => exact iteF ⟨Hs', ev, w, ex.sub, re.mono ex.small, e, fun v H2 Hs2 ex2 r => q v H2 Hs2 (ex.trans ex2) r⟩⟩
end
end Pu

set_option Elab.async false
set_option linter.all false
set_option maxRecDepth 100000
set_option maxHeartbeats 2000000
namespace Pu
open PySem PySem.Spec PyProof.Rows L2

theorem Rp.int_of {Hs : Hp} {i : Int} {v : V} (r : Rp Hs (.int i) v) : v = .int i := by cases r; rfl
theorem Rp.str_of {Hs : Hp} {x : Str} {v : V} (r : Rp Hs (.str x) v) : v = .str x := by cases r; rfl
theorem Rp.non_of {Hs : Hp} {v : V} (r : Rp Hs .none v) : v = .non := by cases r; rfl
theorem Rp.lst_of {Hs : Hp} {ds : List PyData} {v : V} (r : Rp Hs (.list ds) v) : ∃ a xs, v = .ref a ∧ Hs a = some (.lst xs) ∧ RpAll Hs ds xs := by
  cases r with
  | lst h r => exact ⟨_, _, rfl, h, r⟩
theorem Rp.tup_of {Hs : Hp} {ds : List PyData} {v : V} (r : Rp Hs (.tuple ds) v) : ∃ a xs, v = .ref a ∧ Hs a = some (.tup xs) ∧ RpAll Hs ds xs := by
  cases r with
  | tup h r => exact ⟨_, _, rfl, h, r⟩
theorem Rp.dic_of {Hs : Hp} {ps : List (PyData × PyData)} {v : V} (r : Rp Hs (.dict ps) v) (ho : isOb ps = false) : ∃ a kvs, v = .ref a ∧ Hs a = some (.dK kvs) ∧ RpKV Hs ps kvs := by
  cases r with
  | dic h r => exact ⟨_, _, rfl, h, r⟩
  | ob h r => cases ho
/-- a new list, a new tuple -/
theorem Rp.newL {Hs : Hp} {ds : List PyData} {xs : List V} {p : Addr} (hp : Hs p = none) (r : RpAll Hs ds xs) : Rp (upd Hs p (.lst xs)) (.list ds) (.ref p) :=
  .lst upd_same (RpAll.mono (fun b o e => by rw [upd_ne (ne_of_none e hp)]; exact e) r)
theorem Rp.newT {Hs : Hp} {ds : List PyData} {xs : List V} {p : Addr} (hp : Hs p = none) (r : RpAll Hs ds xs) : Rp (upd Hs p (.tup xs)) (.tuple ds) (.ref p) :=
  .tup upd_same (RpAll.mono (fun b o e => by rw [upd_ne (ne_of_none e hp)]; exact e) r)

/-! ### + - * // % -/
def gAdd : PyData → PyData → Option PyData
  | .int i, .int j => some (.int (i + j))
  | .str a, .str b => if a.length + b.length ≤ sizeLine then some (.str (a ++ b)) else none
  | .list a, .list b => if a.length + b.length ≤ sizeLine then some (.list (a ++ b)) else none
  | _, _ => none
def rAdd : R2 := fun x y H Q => (∃ i j, x = .int i ∧ y = .int j ∧ Q (.int (i + j)) H) ∨ (∃ i j, x = .str i ∧ y = .str j ∧ i.length + j.length ≤ sizeLine ∧ Q (.str (i ++ j)) H) ∨ rCat x y H Q
section
variable {X : Cx}
theorem o_add : OpR X (binaryOp .Add) rAdd := op_add.or (op_add_str.or op_cat)
theorem g_add : GOp rAdd gAdd := fun a b w x y H Hs Q s ra rb e q => by
  unfold gAdd at e
  split at e
  · cases e
    exact .inl ⟨_, _, ra.int_of, rb.int_of, q _ H Hs (.refl s) (.int _)⟩
  · split at e
    · cases e
      exact .inr (.inl ⟨_, _, ra.str_of, rb.str_of, by assumption, q _ H Hs (.refl s) (.str _)⟩)
    · cases e
  · split at e
    · cases e
      obtain ⟨p, xs, rfl, hp, r1⟩ := ra.lst_of
      obtain ⟨p2, xs2, rfl, hp2, r2⟩ := rb.lst_of
      refine .inr (.inr ⟨p, p2, xs, xs2, rfl, rfl, s _ _ hp, s _ _ hp2, by rw [← r1.len, ← r2.len]; assumption, fun l hl => ?_⟩)
      have ex := (Ext.refl s).laid hl (.lst (xs ++ xs2))
      exact q _ _ _ ex (Rp.newL (s.free hl) (r1.append r2))
    · cases e
  · cases e
def gI (f : Int → Int → Int) : PyData → PyData → Option PyData
  | .int i, .int j => some (.int (f i j))
  | _, _ => none
def gIc (C : Int → Int → Bool) (f : Int → Int → Int) : PyData → PyData → Option PyData
  | .int i, .int j => if C i j then some (.int (f i j)) else none
  | _, _ => none
theorem g_I {f : Int → Int → Int} : GOp (rI0 fun i j => .int (f i j)) (gI f) := fun a b w x y H Hs Q s ra rb e q => by
  unfold gI at e
  split at e
  · cases e
    exact ⟨_, _, ra.int_of, rb.int_of, q _ H Hs (.refl s) (.int _)⟩
  · cases e
theorem g_Ic {D : Int → Int → Prop} {C : Int → Int → Bool} {f : Int → Int → Int} (k : ∀ i j, C i j = true → D i j) : GOp (rI D fun i j => .int (f i j)) (gIc C f) := fun a b w x y H Hs Q s ra rb e q => by
  unfold gIc at e
  split at e
  · split at e
    · cases e
      exact ⟨_, _, ra.int_of, rb.int_of, k _ _ (by assumption), q _ H Hs (.refl s) (.int _)⟩
    · cases e
  · cases e
theorem o_sub : OpR X (binaryOp .Sub) (rI0 fun i j => .int (i - j)) := op_sub
abbrev gSub := gI fun i j => i - j
theorem g_sub : GOp (rI0 fun i j => .int (i - j)) gSub := g_I
abbrev gMul := gIc (fun i j => decide (i.natAbs.log2 + j.natAbs.log2 < 1000000)) fun i j => i * j
theorem o_mul : OpR X (binaryOp .Mult) (rI CMulW fun i j => .int (i * j)) := op_mulW
theorem g_mul : GOp (rI CMulW fun i j => .int (i * j)) gMul := g_Ic fun i j h => (of_decide_eq_true h : i.natAbs.log2 + j.natAbs.log2 < 1000000)
def fNeg (fa : Ev → Option PyData) : Ev → Option PyData := fun ev => (fa ev).bind fun w => match w with | .int i => some (.int (-i)) | _ => none
theorem pu_neg {a : Expr} {fa : Ev → Option PyData} {pos : Pos} (ha : PU X a fa) : PU X (.UnaryOp .USub a pos) (fNeg fa) :=
  ⟨conv (pe_un un_neg ha.pe) fun σ H Q ⟨Hs, ev, w, s, re, e, q⟩ => by
    obtain ⟨wa, e1, e⟩ := bindS e
    split at e
    · cases e
      exact ⟨Hs, ev, _, s, re, e1, fun v H' Hs' ex r => ⟨_, r.int_of, q _ H' Hs' ex (.int _)⟩⟩
    · cases e⟩

/-! ### comparisons -/
def gLt : PyData → PyData → Option Bool
  | .int i, .int j => some (decide (i < j))
  | .str a, .str b => some (decide (a.cps.toList < b.cps.toList))
  | _, _ => none
def gLe : PyData → PyData → Option Bool
  | .int i, .int j => some (decide (i ≤ j))
  | .str a, .str b => some (!decide (b.cps.toList < a.cps.toList))
  | _, _ => none
def gGt : PyData → PyData → Option Bool
  | .int i, .int j => some (decide (j < i))
  | .str a, .str b => some (decide (b.cps.toList < a.cps.toList))
  | _, _ => none
def gGe : PyData → PyData → Option Bool
  | .int i, .int j => some (decide (j ≤ i))
  | .str a, .str b => some (!decide (a.cps.toList < b.cps.toList))
  | _, _ => none
def rOrd (f : Int → Int → Bool) (g : Str → Str → Bool) : R2 := fun x y H Q => (∃ i j, x = .int i ∧ y = .int j ∧ Q (.bl (f i j)) H) ∨ (∃ i j, x = .str i ∧ y = .str j ∧ Q (.bl (g i j)) H)
theorem o_lt : OpR X (compareOp .Lt) (rOrd (fun i j => decide (i < j)) fun a b => decide (a.cps.toList < b.cps.toList)) := op_lt.or op_lt_str
theorem o_le : OpR X (compareOp .LtE) (rOrd (fun i j => decide (i ≤ j)) fun a b => !decide (b.cps.toList < a.cps.toList)) := op_le.or op_le_str
theorem o_gt : OpR X (compareOp .Gt) (rOrd (fun i j => decide (j < i)) fun a b => decide (b.cps.toList < a.cps.toList)) := op_gt.or op_gt_str
theorem o_ge : OpR X (compareOp .GtE) (rOrd (fun i j => decide (j ≤ i)) fun a b => !decide (a.cps.toList < b.cps.toList)) := op_ge.or op_ge_str
theorem g_lt : GCmp (rOrd (fun i j => decide (i < j)) fun a b => decide (a.cps.toList < b.cps.toList)) gLt := fun a b k x y H Hs Q s ra rb e q => by
  unfold gLt at e
  split at e
  · cases e; exact .inl ⟨_, _, ra.int_of, rb.int_of, q⟩
  · cases e; exact .inr ⟨_, _, ra.str_of, rb.str_of, q⟩
  · cases e
theorem g_le : GCmp (rOrd (fun i j => decide (i ≤ j)) fun a b => !decide (b.cps.toList < a.cps.toList)) gLe := fun a b k x y H Hs Q s ra rb e q => by
  unfold gLe at e
  split at e
  · cases e; exact .inl ⟨_, _, ra.int_of, rb.int_of, q⟩
  · cases e; exact .inr ⟨_, _, ra.str_of, rb.str_of, q⟩
  · cases e
theorem g_gt : GCmp (rOrd (fun i j => decide (j < i)) fun a b => decide (b.cps.toList < a.cps.toList)) gGt := fun a b k x y H Hs Q s ra rb e q => by
  unfold gGt at e
  split at e
  · cases e; exact .inl ⟨_, _, ra.int_of, rb.int_of, q⟩
  · cases e; exact .inr ⟨_, _, ra.str_of, rb.str_of, q⟩
  · cases e
theorem g_ge : GCmp (rOrd (fun i j => decide (j ≤ i)) fun a b => !decide (a.cps.toList < b.cps.toList)) gGe := fun a b k x y H Hs Q s ra rb e q => by
  unfold gGe at e
  split at e
  · cases e; exact .inl ⟨_, _, ra.int_of, rb.int_of, q⟩
  · cases e; exact .inr ⟨_, _, ra.str_of, rb.str_of, q⟩
  · cases e

/-! ### == != -/
def eqG (d e : PyData) : Option Bool := if d.plain && e.plain && decide (min d.depth e.depth ≤ 64) then some (PyData.eqv d e) else none
def gEq : PyData → PyData → Option Bool
  | .none, .none => some true
  | .bool a, .bool b => some (a == b)
  | .int a, .int b => some (a == b)
  | .str a, .str b => some (a == b)
  | .none, .int _ => some false
  | .none, .bool _ => some false
  | .none, .str _ => some false
  | .int _, .none => some false
  | .int _, .str _ => some false
  | .str _, .none => some false
  | .str _, .int _ => some false
  | .bool _, .none => some false
  | .bool _, .str _ => some false
  | .str _, .bool _ => some false
  | .list [], .list [] => some true
  | d, e => eqG d e
def gNe (d e : PyData) : Option Bool := (gEq d e).map (! ·)
/-- two things without dicts, one of them not too deep -/
def rEqR (K : PySem.W.Frag) (neg : Bool) : R2 := fun x y H Q => ∃ p q : PyData, (p.plain = true ∧ q.plain = true ∧ min p.depth q.depth ≤ 64) ∧ Dp K H x p ∧ Dp K H y q ∧ Q (.bl (neg ^^ PyData.eqv p q)) H
theorem op_eqR (hu : X.A.units + 64 < cLine) : OpR X (compareOp .Eq) (rEqR X.K false) := fun pins s σ H x y v u Q I rx ry ⟨p, q, ⟨pp, pq, hm⟩, dx, dy, k⟩ => by
  obtain ⟨as, r1⟩ := Dp.reads I p x v dx rx
  obtain ⟨bs, r2⟩ := Dp.reads I q y u dy ry
  rw [Bool.false_xor] at k
  exact SeqAt.eq_plain r1 r2 pp pq (by have := hm; omega) ⟨.bl _, H, I, rfl, k⟩
theorem op_neR (hu : X.A.units + 64 < cLine) : OpR X (compareOp .NotEq) (rEqR X.K true) := fun pins s σ H x y v u Q I rx ry ⟨p, q, ⟨pp, pq, hm⟩, dx, dy, k⟩ => by
  obtain ⟨as, r1⟩ := Dp.reads I p x v dx rx
  obtain ⟨bs, r2⟩ := Dp.reads I q y u dy ry
  rw [Bool.true_xor] at k
  exact SeqAt.ne_plain r1 r2 pp pq (by have := hm; omega) ⟨.bl _, H, I, rfl, k⟩
def rEqA (K : PySem.W.Frag) : R2 := fun x y H Q => rEq x y H Q ∨ rEqR K false x y H Q
def rNeA (K : PySem.W.Frag) : R2 := fun x y H Q => rNe x y H Q ∨ rEqR K true x y H Q
theorem o_eq (hu : X.A.units + 64 < cLine) : OpR X (compareOp .Eq) (rEqA X.K) := op_eq.or (op_eqR hu)
theorem o_ne (hu : X.A.units + 64 < cLine) : OpR X (compareOp .NotEq) (rNeA X.K) := op_ne.or (op_neR hu)
mutual
theorem Rp.dp {K : PySem.W.Frag} {H : Hp} : ∀ {d : PyData} {v : V}, d.plain = true → Rp H d v → Dp K H v d
  | _, _, _, .non => .non
  | _, _, _, .bl b => .bl b
  | _, _, _, .int i => .int i
  | _, _, _, .str x => .str x
  | .list ds, _, c, .lst h r => .lst (SqL.of h) (RpAll.dp (by unfold PyData.plain at c; exact c) r)
  | .tuple ds, _, c, .tup h r => .tup (SqT.of h) (RpAll.dp (by unfold PyData.plain at c; exact c) r)
  | .dict ps, _, c, .dic _ _ => by unfold PyData.plain at c; cases c
  | .dict _, _, c, .ob _ _ => by unfold PyData.plain at c; cases c
theorem RpAll.dp {K : PySem.W.Frag} {H : Hp} : ∀ {ds : List PyData} {vs : List V}, PyData.plainAll ds = true → RpAll H ds vs → DpAll K H vs ds
  | _, _, _, .nil => .nil
  | d :: ds, _, c, .cons r t => by
    unfold PyData.plainAll at c
    rw [Bool.and_eq_true] at c
    exact .cons (Rp.dp c.1 r) (RpAll.dp c.2 t)
end
theorem eqR_of {K : PySem.W.Frag} {neg : Bool} {a b : PyData} {k : Bool} {x y : V} {H Hs : Hp} {Q : VK} (s : Same Hs H) (ra : Rp Hs a x) (rb : Rp Hs b y) (e : eqG a b = some k) (q : Q (.bl (neg ^^ k)) H) : rEqR K neg x y H Q := by
  unfold eqG at e
  split at e
  · rename_i h
    cases e
    rw [Bool.and_eq_true, Bool.and_eq_true] at h
    exact ⟨a, b, ⟨h.1.1, h.1.2, of_decide_eq_true h.2⟩, (ra.mono s).dp h.1.1, (rb.mono s).dp h.1.2, q⟩
  · cases e
theorem eq_cases {K : PySem.W.Frag} {a b : PyData} {k : Bool} {x y : V} {H Hs : Hp} (s : Same Hs H) (ra : Rp Hs a x) (rb : Rp Hs b y) (e : gEq a b = some k) : (scal x y = true ∧ decide (x = y) = k) ∨ ∀ (neg : Bool) (Q : VK), Q (.bl (neg ^^ k)) H → rEqR K neg x y H Q := by
  unfold gEq at e
  split at e
  case h_1 => cases e; rw [ra.non_of, rb.non_of]; exact .inl ⟨rfl, rfl⟩
  case h_2 => cases e; rw [ra.bl_of, rb.bl_of]; exact .inl ⟨rfl, dec_bl⟩
  case h_3 => cases e; rw [ra.int_of, rb.int_of]; exact .inl ⟨rfl, dec_int⟩
  case h_4 => cases e; rw [ra.str_of, rb.str_of]; exact .inl ⟨rfl, dec_str⟩
  case h_5 => cases e; rw [ra.non_of, rb.int_of]; exact .inl ⟨rfl, rfl⟩
  case h_6 => cases e; rw [ra.non_of, rb.bl_of]; exact .inl ⟨rfl, rfl⟩
  case h_7 => cases e; rw [ra.non_of, rb.str_of]; exact .inl ⟨rfl, rfl⟩
  case h_8 => cases e; rw [ra.int_of, rb.non_of]; exact .inl ⟨rfl, rfl⟩
  case h_9 => cases e; rw [ra.int_of, rb.str_of]; exact .inl ⟨rfl, rfl⟩
  case h_10 => cases e; rw [ra.str_of, rb.non_of]; exact .inl ⟨rfl, rfl⟩
  case h_11 => cases e; rw [ra.str_of, rb.int_of]; exact .inl ⟨rfl, rfl⟩
  case h_12 => cases e; rw [ra.bl_of, rb.non_of]; exact .inl ⟨rfl, rfl⟩
  case h_13 => cases e; rw [ra.bl_of, rb.str_of]; exact .inl ⟨rfl, rfl⟩
  case h_14 => cases e; rw [ra.str_of, rb.bl_of]; exact .inl ⟨rfl, rfl⟩
  case h_15 => exact .inr fun neg Q q => eqR_of (k := k) s ra rb (by cases e; rfl) q
  case h_16 => exact .inr fun neg Q q => eqR_of s ra rb e q
theorem g_eq {K : PySem.W.Frag} : GCmp (rEqA K) gEq := fun a b k x y H Hs Q s ra rb e q => by
  rcases eq_cases (K := K) s ra rb e with ⟨h1, h2⟩ | h
  · exact .inl ⟨h1, by rw [h2]; exact q⟩
  · exact .inr (h false Q (by rw [Bool.false_xor]; exact q))
theorem g_ne {K : PySem.W.Frag} : GCmp (rNeA K) gNe := fun a b k x y H Hs Q s ra rb e q => by
  rcases eq_cases (K := K) s ra rb (map_not e) with ⟨h1, h2⟩ | h
  · exact .inl ⟨h1, by rw [h2, Bool.not_not]; exact q⟩
  · exact .inr (h true Q (by rw [Bool.true_xor, Bool.not_not]; exact q))

/-! ### in, not in -/
def inS (s t : Str) : Bool := !(Builtin.Str.occurrences t s 0 t.length 1).isEmpty
theorem inS_one (c : Nat) (z : Str) : inS ⟨#[c]⟩ z = decide (c ∈ z.cps.toList) := PySem.StrLaws.found_one z c
def flatD : PyData → Bool
  | .none => true
  | .bool _ => true
  | .int _ => true
  | .str _ => true
  | _ => false
def eqD : PyData → PyData → Bool
  | .none, .none => true
  | .bool a, .bool b => a == b
  | .bool a, .int b => (if a then 1 else 0) == b
  | .int a, .bool b => a == (if b then 1 else 0)
  | .int a, .int b => a == b
  | .str a, .str b => a == b
  | _, _ => false
def gIn : PyData → PyData → Option Bool
  | .str s, .str t => some (inS s t)
  | x, .list ds => if flatD x && ds.all flatD then some (ds.any fun y => eqD y x) else none
  | x, .tuple ds => if flatD x && ds.all flatD then some (ds.any fun y => eqD y x) else none
  | _, _ => none
def gNi (d e : PyData) : Option Bool := (gIn d e).map (! ·)
theorem flat_of {Hs : Hp} {d : PyData} {v : V} (r : Rp Hs d v) (h : flatD d = true) : flatV v = true := by
  cases r <;> first | rfl | cases h
theorem eqV_of {Hs : Hp} {d e : PyData} {v u : V} (r : Rp Hs d v) (r' : Rp Hs e u) (h : flatD d = true) (h' : flatD e = true) : eqV v u = eqD d e := by
  cases r <;> first | (cases r' <;> first | rfl | cases h') | cases h
theorem allF_of {Hs : Hp} : ∀ {ds : List PyData} {vs : List V}, RpAll Hs ds vs → ds.all flatD = true → vs.all flatV = true
  | _, _, .nil, _ => rfl
  | _, _, .cons r t, h => by
    rw [List.all_cons, Bool.and_eq_true] at h ⊢
    exact ⟨flat_of r h.1, allF_of t h.2⟩
theorem inV_of {Hs : Hp} {x : PyData} {u : V} (rx : Rp Hs x u) (hx : flatD x = true) : ∀ {ds : List PyData} {vs : List V}, RpAll Hs ds vs → ds.all flatD = true → inV u vs = ds.any fun y => eqD y x
  | _, _, .nil, _ => rfl
  | _, _, .cons (d := d) (v := v) (ds := ds) (vs := vs) r t, h => by
    rw [List.all_cons, Bool.and_eq_true] at h
    have ih := inV_of rx hx t h.2
    unfold inV at ih ⊢
    rw [List.any_cons, List.any_cons, ih, eqV_of r rx h.1 hx]
def rInA (K : PySem.W.Frag) (neg : Bool) : R2 := fun x y H Q => (∃ i j, x = .str i ∧ y = .str j ∧ Q (.bl (neg ^^ inS i j)) H) ∨ rIn K neg x y H Q
theorem o_in : OpR X (compareOp .In) (rInA X.K false) := by
  intro pins s σ H x y v u Q I rx ry h
  rcases h with ⟨i, j, ex, ey, q⟩ | h
  · exact op_in_str pins s σ H x y v u Q I rx ry ⟨i, j, ex, ey, by rw [Bool.false_xor] at q; exact q⟩
  · exact op_in_seq pins s σ H x y v u Q I rx ry h
theorem o_ni : OpR X (compareOp .NotIn) (rInA X.K true) := by
  intro pins s σ H x y v u Q I rx ry h
  rcases h with ⟨i, j, ex, ey, q⟩ | h
  · exact L2.op_notIn_str pins s σ H x y v u Q I rx ry ⟨i, j, ex, ey, by rw [Bool.true_xor] at q; exact q⟩
  · exact op_notIn_seq pins s σ H x y v u Q I rx ry h
theorem in_cases {K : PySem.W.Frag} {neg : Bool} {a b : PyData} {k : Bool} {x y : V} {H Hs : Hp} {Q : VK} (s : Same Hs H) (ra : Rp Hs a x) (rb : Rp Hs b y) (e : gIn a b = some k) (q : Q (.bl (neg ^^ k)) H) : rInA K neg x y H Q := by
  unfold gIn at e
  split at e
  · cases e
    exact .inl ⟨_, _, ra.str_of, rb.str_of, q⟩
  · split at e
    · rename_i h
      cases e
      rw [Bool.and_eq_true] at h
      obtain ⟨p, xs, rfl, hp, r⟩ := rb.lst_of
      refine .inr ⟨p, xs, rfl, .inl (SqL.of (s _ _ hp)), flat_of ra h.1, allF_of r h.2, ?_⟩
      rw [inV_of ra h.1 r h.2]
      cases neg with
      | true => rw [if_pos rfl]; rw [Bool.true_xor] at q; exact q
      | false => rw [if_neg Bool.false_ne_true]; rw [Bool.false_xor] at q; exact q
    · cases e
  · split at e
    · rename_i h
      cases e
      rw [Bool.and_eq_true] at h
      obtain ⟨p, xs, rfl, hp, r⟩ := rb.tup_of
      refine .inr ⟨p, xs, rfl, .inr (SqT.of (s _ _ hp)), flat_of ra h.1, allF_of r h.2, ?_⟩
      rw [inV_of ra h.1 r h.2]
      cases neg with
      | true => rw [if_pos rfl]; rw [Bool.true_xor] at q; exact q
      | false => rw [if_neg Bool.false_ne_true]; rw [Bool.false_xor] at q; exact q
    · cases e
  · cases e
theorem g_in {K : PySem.W.Frag} : GCmp (rInA K false) gIn := fun a b k x y H Hs Q s ra rb e q => in_cases s ra rb e (by rw [Bool.false_xor]; exact q)
theorem g_ni {K : PySem.W.Frag} : GCmp (rInA K true) gNi := fun a b k x y H Hs Q s ra rb e q => in_cases s ra rb (map_not e) (by rw [Bool.true_xor, Bool.not_not]; exact q)

/-! ### is, is not: None, True, False on the right -/
def isD : PyData → PyData → Option Bool
  | .none, .none => some true
  | .bool a, .bool b => some (a == b)
  | _, .none => some false
  | .none, .bool _ => some false
  | .int _, .bool _ => some false
  | .str _, .bool _ => some false
  | _, _ => none
def notIsD (d e : PyData) : Option Bool := (isD d e).map (! ·)
def rIsA (neg : Bool) : R2 := fun x y H Q => (y = .non ∧ Q (.bl (neg ^^ decide (x = .non))) H) ∨ (∃ b, y = .bl b ∧ (x = .non ∨ (∃ a, x = .bl a) ∨ (∃ i, x = .int i) ∨ (∃ z, x = .str z)) ∧ Q (.bl (neg ^^ decide (x = y))) H)
theorem o_is : OpR X (compareOp .Is) (rIsA false) := by
  intro pins s σ H x y v u Q I rx ry h
  rcases h with ⟨ey, q⟩ | ⟨b, ey, hx, q⟩
  · exact op_isN pins s σ H x y v u Q I rx ry ⟨ey, by rw [Bool.false_xor] at q; exact q⟩
  · subst ey
    cases (show u = Value.bool b from ry)
    rw [Bool.false_xor] at q
    rcases hx with rfl | ⟨a, rfl⟩ | ⟨i, rfl⟩ | ⟨z, rfl⟩
    · cases (show v = Value.none from rx)
      exact wpAny_is_other rfl (fun z => by cases z) ⟨.bl false, H, I, rfl, by simpa using q⟩
    · exact op_isBl pins s σ H _ _ v _ Q I rx (show L2.RelV (.bl b) (Value.bool b) from rfl) ⟨a, b, rfl, rfl, by simpa using q⟩
    · obtain ⟨t, rfl⟩ := rx
      exact wpAny_is_other rfl (fun z => by cases z) ⟨.bl false, H, I, rfl, by simpa using q⟩
    · obtain ⟨t, rfl⟩ := rx
      exact wpAny_is_other rfl (fun z => by cases z) ⟨.bl false, H, I, rfl, by simpa using q⟩
theorem o_isN : OpR X (compareOp .IsNot) (rIsA true) := by
  intro pins s σ H x y v u Q I rx ry h
  rcases h with ⟨ey, q⟩ | ⟨b, ey, hx, q⟩
  · exact op_notN pins s σ H x y v u Q I rx ry ⟨ey, by rw [Bool.true_xor] at q; exact q⟩
  · subst ey
    cases (show u = Value.bool b from ry)
    rw [Bool.true_xor] at q
    rcases hx with rfl | ⟨a, rfl⟩ | ⟨i, rfl⟩ | ⟨z, rfl⟩
    · cases (show v = Value.none from rx)
      exact wpAny_isNot_other rfl (fun z => by cases z) ⟨.bl true, H, I, rfl, by simpa using q⟩
    · exact op_notBl pins s σ H _ _ v _ Q I rx (show L2.RelV (.bl b) (Value.bool b) from rfl) ⟨a, b, rfl, rfl, by simpa using q⟩
    · obtain ⟨t, rfl⟩ := rx
      exact wpAny_isNot_other rfl (fun z => by cases z) ⟨.bl true, H, I, rfl, by simpa using q⟩
    · obtain ⟨t, rfl⟩ := rx
      exact wpAny_isNot_other rfl (fun z => by cases z) ⟨.bl true, H, I, rfl, by simpa using q⟩
theorem is_cases {neg : Bool} {a b : PyData} {k : Bool} {x y : V} {H Hs : Hp} {Q : VK} (ra : Rp Hs a x) (rb : Rp Hs b y) (e : isD a b = some k) (q : Q (.bl (neg ^^ k)) H) : rIsA neg x y H Q := by
  unfold isD at e
  cases rb with
  | non =>
    refine .inl ⟨rfl, ?_⟩
    cases ra <;> (cases e; simpa using q)
  | bl b =>
    cases ra with
    | non => cases e; exact .inr ⟨b, rfl, .inl rfl, by simpa using q⟩
    | bl a => cases e; exact .inr ⟨b, rfl, .inr (.inl ⟨a, rfl⟩), by rw [show decide (V.bl a = V.bl b) = (a == b) from dec_bl]; exact q⟩
    | int i => cases e; exact .inr ⟨b, rfl, .inr (.inr (.inl ⟨i, rfl⟩)), by simpa using q⟩
    | str z => cases e; exact .inr ⟨b, rfl, .inr (.inr (.inr ⟨z, rfl⟩)), by simpa using q⟩
    | lst h r => cases e
    | tup h r => cases e
    | dic h r => cases e
    | ob h r => cases e
  | _ => cases ra <;> cases e
theorem g_is : GCmp (rIsA false) isD := fun a b k x y H Hs Q s ra rb e q => is_cases ra rb e (by rw [Bool.false_xor]; exact q)
theorem g_isN : GCmp (rIsA true) notIsD := fun a b k x y H Hs Q s ra rb e q => is_cases ra rb (map_not e) (by rw [Bool.true_xor, Bool.not_not]; exact q)
end
end Pu

set_option Elab.async false
set_option linter.all false
set_option maxRecDepth 100000
set_option maxHeartbeats 2000000
namespace Pu
open PySem PySem.Spec PyProof.Rows L2

theorem PE.or {X : Cx} {e : Expr} {t u : TE} (h1 : PE X e t) (h2 : PE X e u) : PE X e (fun σ H Q => t σ H Q ∨ u σ H Q) :=
  ⟨fun pins s σ H Q I q => q.elim (h1.run pins s σ H Q I) (h2.run pins s σ H Q I)⟩

/-! ### dicts by keys -/
def keyB : PyData → Key → Bool
  | .int i, .inl j => decide (i = j)
  | .str a, .inr b => decide (a = b)
  | _, _ => false
theorem keyB_D (k k' : Key) : keyB (keyD k) k' = decide (k = k') := by
  cases k <;> cases k' <;> simp [keyB, keyD]
def dGet (ps : List (PyData × PyData)) (k : Key) : Option PyData := (ps.find? fun p => keyB p.1 k).map (·.2)
theorem RpKV.val {H : Hp} : ∀ {ps : List (PyData × PyData)} {kvs : List (Key × V)}, RpKV H ps kvs → ∀ k : Key, (dGet ps k = none ∧ valV kvs k = none) ∨ ∃ d v, dGet ps k = some d ∧ valV kvs k = some v ∧ Rp H d v
  | _, _, .nil, k => .inl ⟨rfl, rfl⟩
  | _, _, .cons (k := k0) (d := d) (v := v) (ps := ps) (kvs := kvs) r t, k => by
    by_cases e : k0 = k
    · refine .inr ⟨d, v, ?_, valV_pos e, r⟩
      unfold dGet
      rw [List.find?_cons_of_pos (by rw [keyB_D]; exact decide_eq_true e)]
      rfl
    · have e1 : dGet ((keyD k0, d) :: ps) k = dGet ps k := by
        unfold dGet
        rw [List.find?_cons_of_neg (by rw [keyB_D]; simp [e])]
      have e2 : valV ((k0, v) :: kvs) k = valV kvs k := valV_neg e
      rw [e1, e2]
      exact RpKV.val t k
theorem RpKV.len {H : Hp} : ∀ {ps : List (PyData × PyData)} {kvs : List (Key × V)}, RpKV H ps kvs → ps.length = kvs.length
  | _, _, .nil => rfl
  | _, _, .cons _ t => by rw [List.length_cons, List.length_cons, t.len]
def asKey : PyData → Option Key
  | .int i => some (.inl i)
  | .str x => some (.inr x)
  | _ => none
theorem asKey_some {w : PyData} {k : Key} (h : asKey w = some k) : w = keyD k := by
  cases w <;> first | (cases h; rfl) | cases h
theorem Rp.key {Hs : Hp} {k : Key} {v : V} (r : Rp Hs (keyD k) v) : v = kV k := by
  cases k with
  | inl i => exact r.int_of
  | inr x => exact r.str_of

/-! ### subscripts -/
def gIx : PyData → PyData → Option PyData
  | .list ds, .int i => atI ds i
  | .tuple ds, .int i => atI ds i
  | .str s, .int i => if s.length ≤ sizeLine then (atI s.cps.toList i).map fun c => .str ⟨#[c]⟩ else none
  | .dict ps, k => if isOb ps = true then none else (asKey k).bind fun k => dGet ps k
  | _, _ => none
section
variable {X : Cx}
theorem atI_all {Hs : Hp} {ds : List PyData} {xs : List V} {i : Int} {w : PyData} (r : RpAll Hs ds xs) (h : atI ds i = some w) : ∃ v, atI xs i = some v ∧ Rp Hs w v := by
  unfold atI at h ⊢
  rw [r.len] at h
  obtain ⟨j, e, h⟩ := bindS h
  rw [e]
  exact r.get h
theorem pu_ix {a b : Expr} {fa fb : Ev → Option PyData} {pos : Pos} (hu : X.A.units + 1 < cLine) (ha : PU X a fa) (hb : PU X b fb) (hs : PlainIx b) (hs' : NoSl b) : PU X (.Subscript a b pos) (f2 gIx fa fb) :=
  ⟨conv (PE.or (pe_ix ix_seq ha.pe hb.pe hs) (pe_dget hu ha.pe hb.pe hs')) fun σ H Q ⟨Hs, ev, w, s, re, e, q⟩ => by
    obtain ⟨wa, e1, e⟩ := bindS e
    obtain ⟨wb, e2, e⟩ := bindS e
    unfold gIx at e
    split at e
    · refine .inl (use2 (R := fun x y H2 => rIx X.K x y H2 Q) s re e1 e2 fun x y H' Hs' ex rx ry => ?_)
      obtain ⟨p, xs, rfl, hp, r⟩ := rx.lst_of
      obtain ⟨v, ev, rv⟩ := atI_all r e
      exact .inl ⟨p, xs, _, v, rfl, ry.int_of, SqL.of (ex.sub _ _ hp), ev, q v H' Hs' ex rv⟩
    · refine .inl (use2 (R := fun x y H2 => rIx X.K x y H2 Q) s re e1 e2 fun x y H' Hs' ex rx ry => ?_)
      obtain ⟨p, xs, rfl, hp, r⟩ := rx.tup_of
      obtain ⟨v, ev, rv⟩ := atI_all r e
      exact .inr (.inl ⟨p, xs, _, v, rfl, ry.int_of, SqT.of (ex.sub _ _ hp), ev, q v H' Hs' ex rv⟩)
    · split at e
      · rename_i hl
        refine .inl (use2 (R := fun x y H2 => rIx X.K x y H2 Q) s re e1 e2 fun x y H' Hs' ex rx ry => ?_)
        obtain ⟨c, e3, e4⟩ := Option.map_eq_some_iff.mp e
        subst e4
        exact .inr (.inr ⟨_, _, c, rx.str_of, ry.int_of, hl, e3, q _ H' Hs' ex (.str _)⟩)
      · cases e
    · refine .inr (use2 (R := fun x y H2 => ∃ a v, x = .ref a ∧ DGet H2 a y (some v) ∧ Q v H2) s re e1 e2 fun x y H' Hs' ex rx ry => ?_)
      split at e
      case isTrue => cases e
      rename_i ho
      obtain ⟨k, e3, e4⟩ := bindS e
      have ek := asKey_some e3
      subst ek
      obtain ⟨p, kvs, rfl, hp, r⟩ := rx.dic_of (Bool.eq_false_iff.mpr ho)
      rcases r.val k with ⟨z, _⟩ | ⟨d, v, z1, z2, rv⟩
      · rw [z] at e4; cases e4
      · rw [z1] at e4
        cases e4
        refine ⟨p, v, rfl, ?_, q v H' Hs' ex rv⟩
        rw [ry.key, ← z2]
        exact DGet.k (ex.sub _ _ hp)
    · cases e⟩
/-- k in d, x in xs, s in t -/
def gInD : PyData → PyData → Option Bool
  | k, .dict ps => if isOb ps = true then none else (asKey k).map fun k => (dGet ps k).isSome
  | a, b => gIn a b
def gNiD (a b : PyData) : Option Bool := (gInD a b).map (! ·)
theorem conv2T {a b : Expr} {pos : Pos} {op : CmpOp} {t u : TE} (h1 : PT X (.Compare a [op] [b] pos) (tTest t)) (h2 : PT X (.Compare a [op] [b] pos) (tB u)) : PT X (.Compare a [op] [b] pos) (fun σ H Q => tTest t σ H Q ∨ tB u σ H Q) :=
  ⟨fun pins s σ H Q I q => q.elim (h1.run pins s σ H Q I) (h2.run pins s σ H Q I)⟩
theorem in_use {K : PySem.W.Frag} {neg : Bool} {fa fb : Ev → Option PyData} {σ : L2.St} {H Hs : Hp} {ev : Ev} {k : Bool} {Q : VK} (s : Same Hs H) (re : REnv Hs σ ev) (e : f2T gInD fa fb ev = some k) (q : ∀ H' Hs', Ext H Hs H' Hs' → Q (.bl (neg ^^ k)) H') :
    tOp (rInA K neg) (tPu fa) (tPu fb) σ H Q ∨ (tPu fa σ H fun y H1 => tPu fb σ H1 fun x H2 => ∃ a o, x = .ref a ∧ DGet H2 a y o ∧ Q (.bl (neg ^^ o.isSome)) H2) := by
  obtain ⟨wa, e1, e⟩ := bindS e
  obtain ⟨wb, e2, e⟩ := bindS e
  unfold gInD at e
  split at e
  · refine .inr (use2 s re e1 e2 (R := fun y x H2 => ∃ a o, x = .ref a ∧ DGet H2 a y o ∧ Q (.bl (neg ^^ o.isSome)) H2) fun y x H' Hs' ex ry rx => ?_)
    split at e
    case isTrue => cases e
    rename_i ho
    obtain ⟨k2, e3, e4⟩ := Option.map_eq_some_iff.mp e
    have ek := asKey_some e3
    subst ek
    obtain ⟨p, kvs, rfl, hp, r⟩ := rx.dic_of (Bool.eq_false_iff.mpr ho)
    refine ⟨p, valV kvs k2, rfl, by rw [ry.key]; exact DGet.k (ex.sub _ _ hp), ?_⟩
    have e5 : (valV kvs k2).isSome = k := by
      rcases r.val k2 with ⟨z1, z2⟩ | ⟨d, v, z1, z2, _⟩
      · rw [← e4, z1, z2] <;> rfl
      · rw [← e4, z1, z2] <;> rfl
    rw [e5]
    exact q H' Hs' ex
  · refine .inl (use2 (R := fun x y H2 => rInA K neg x y H2 Q) s re e1 e2 fun x y H' Hs' ex rx ry => ?_)
    exact in_cases ex.sub rx ry e (q H' Hs' ex)
theorem pu_in {a b : Expr} {fa fb : Ev → Option PyData} {pos : Pos} (hu : X.A.units + 1 < cLine) (ha : PU X a fa) (hb : PU X b fb) (hm : behindInMarks .In b = false := by rfl) : PU X (.Compare a [.In] [b] pos) (fB (f2T gInD fa fb)) :=
  ⟨conv (PE.or (pe_cmpR o_in ha.pe hb.pe hm) (pe_cmp (pc_din hu ha.pe hb.pe) hm)) fun σ H Q ⟨Hs, ev, w, s, re, e, q⟩ => by
    obtain ⟨k, e0, rfl⟩ := fB_some e
    rcases in_use (K := X.K) (neg := false) (Q := Q) s re e0 (fun H' Hs' ex => q _ H' Hs' ex (by rw [Bool.false_xor]; exact .bl k)) with h | h
    · exact .inl h
    · refine .inr ?_
      simp only [Bool.false_xor] at h
      exact h⟩
theorem put_in {a b : Expr} {fa fb : Ev → Option PyData} {pos : Pos} (hu : X.A.units + 1 < cLine) (ha : PU X a fa) (hb : PU X b fb) (hm : behindInMarks .In b = false := by rfl) : PUT X (.Compare a [.In] [b] pos) (f2T gInD fa fb) :=
  ⟨convT (conv2T (pt_cmpR o_in ha.pe hb.pe hm) (pt_cmp (pc_din hu ha.pe hb.pe) hm)) fun σ H Q ⟨Hs, ev, k, s, re, e, q⟩ => by
    rcases in_use (K := X.K) (neg := false) (Q := fun x H' => ∃ k, x = .bl k ∧ Q k H') s re e (fun H' Hs' ex => ⟨k, by rw [Bool.false_xor], q H' Hs' ex⟩) with h | h
    · exact .inl h
    · refine .inr ?_
      simp only [Bool.false_xor] at h
      exact h⟩
theorem pu_ni {a b : Expr} {fa fb : Ev → Option PyData} {pos : Pos} (hu : X.A.units + 1 < cLine) (ha : PU X a fa) (hb : PU X b fb) (hm : behindInMarks .NotIn b = false := by rfl) : PU X (.Compare a [.NotIn] [b] pos) (fB (f2T gNiD fa fb)) :=
  ⟨conv (PE.or (pe_cmpR o_ni ha.pe hb.pe hm) (pe_cmp (pc_dnotin hu ha.pe hb.pe) hm)) fun σ H Q ⟨Hs, ev, w, s, re, e, q⟩ => by
    obtain ⟨k, e0, rfl⟩ := fB_some e
    have e1 : f2T gInD fa fb ev = some (!k) := by
      obtain ⟨wa, e1, e⟩ := bindS e0
      obtain ⟨wb, e2, e⟩ := bindS e
      unfold f2T
      rw [e1, Option.bind_some, e2, Option.bind_some]
      exact map_not e
    rcases in_use (K := X.K) (neg := true) (Q := Q) s re e1 (fun H' Hs' ex => q _ H' Hs' ex (by rw [Bool.true_xor, Bool.not_not]; exact .bl k)) with h | h
    · exact .inl h
    · refine .inr ?_
      simp only [Bool.true_xor] at h
      exact h⟩
theorem put_ni {a b : Expr} {fa fb : Ev → Option PyData} {pos : Pos} (hu : X.A.units + 1 < cLine) (ha : PU X a fa) (hb : PU X b fb) (hm : behindInMarks .NotIn b = false := by rfl) : PUT X (.Compare a [.NotIn] [b] pos) (f2T gNiD fa fb) :=
  ⟨convT (conv2T (pt_cmpR o_ni ha.pe hb.pe hm) (pt_cmp (pc_dnotin hu ha.pe hb.pe) hm)) fun σ H Q ⟨Hs, ev, k, s, re, e, q⟩ => by
    have e1 : f2T gInD fa fb ev = some (!k) := by
      obtain ⟨wa, e1, e⟩ := bindS e
      obtain ⟨wb, e2, e⟩ := bindS e
      unfold f2T
      rw [e1, Option.bind_some, e2, Option.bind_some]
      exact map_not e
    rcases in_use (K := X.K) (neg := true) (Q := fun x H' => ∃ k, x = .bl k ∧ Q k H') s re e1 (fun H' Hs' ex => ⟨k, by rw [Bool.true_xor, Bool.not_not], q H' Hs' ex⟩) with h | h
    · exact .inl h
    · refine .inr ?_
      simp only [Bool.true_xor] at h
      exact h⟩

/-! ### slices -/
def cutL {α : Type} (xs : List α) (lo hi : Option Int) : List α := (xs.drop (HT.sIx xs.length 0 lo)).take (HT.sIx xs.length xs.length hi - HT.sIx xs.length 0 lo)
theorem RpAll.cut {Hs : Hp} {ds : List PyData} {xs : List V} (r : RpAll Hs ds xs) (lo hi : Option Int) : RpAll Hs (cutL ds lo hi) (cutV xs lo hi) := by
  unfold cutL cutV
  rw [r.len]
  exact RpAll.take _ (RpAll.drop _ r)
def tPuO (f : Ev → Option (Option Int)) : TO := fun σ H Q => ∃ (Hs : Hp) (ev : Ev) (o : Option Int), Same Hs H ∧ REnv Hs σ ev ∧ f ev = some o ∧ ∀ H' Hs', Ext H Hs H' Hs' → Q o H'
structure PUO (X : Cx) (e : Option Expr) (f : Ev → Option (Option Int)) : Prop where
  po : PO X e (tPuO f)
def asI : PyData → Option Int
  | .int i => some i
  | _ => none
theorem asI_some {w : PyData} {i : Int} (h : asI w = some i) : w = .int i := by
  cases w <;> first | (cases h; rfl) | cases h
def fO (f : Ev → Option PyData) : Ev → Option (Option Int) := fun ev => (f ev).bind fun w => (asI w).map some
def fO0 : Ev → Option (Option Int) := fun _ => some none
theorem puo_none : PUO X none fO0 := ⟨⟨fun pins s σ H Q I ⟨Hs, ev, o, s', re, e, q⟩ => po_none.run pins s σ H Q I (by cases e; exact q H Hs (.refl s'))⟩⟩
theorem puo_some {e : Expr} {f : Ev → Option PyData} (h : PU X e f) : PUO X (some e) (fO f) := ⟨⟨fun pins s σ H Q I ⟨Hs, ev, o, s', re, e, q⟩ => (po_some h.pe).run pins s σ H Q I (by
  obtain ⟨w, e1, e⟩ := bindS e
  obtain ⟨i, e2, rfl⟩ := Option.map_eq_some_iff.mp e
  have ew := asI_some e2
  subst ew
  exact ⟨Hs, ev, _, s', re, e1, fun v H' Hs' ex r => ⟨i, r.int_of, q H' Hs' ex⟩⟩)⟩⟩
def gSl (w : PyData) (lo hi : Option Int) : Option PyData :=
  match w with
  | .list ds => some (.list (cutL ds lo hi))
  | .tuple ds => some (.tuple (cutL ds lo hi))
  | .str s => if s.length ≤ sizeLine then some (.str (cutS s lo hi)) else none
  | _ => none
def fSl (f : Ev → Option PyData) (fl fh : Ev → Option (Option Int)) : Ev → Option PyData := fun ev => (f ev).bind fun w => (fl ev).bind fun lo => (fh ev).bind fun hi => gSl w lo hi
theorem cutL_whole {α : Type} {xs : List α} {lo hi : Option Int} (h : HT.sIx xs.length 0 lo = 0 ∧ HT.sIx xs.length xs.length hi = xs.length) : cutL xs lo hi = xs := by
  unfold cutL
  rw [h.1, h.2, List.drop_zero, Nat.sub_zero, List.take_length]
theorem pu_sl {e : Expr} {lo hi : Option Expr} {f : Ev → Option PyData} {fl fh : Ev → Option (Option Int)} {pos p2 : Pos} (he : PU X e f) (hl : PUO X lo fl) (hh : PUO X hi fh) : PU X (.Subscript e (.Slice lo hi none p2) pos) (fSl f fl fh) :=
  ⟨conv (pe_slice (sl_list.or (sl_tupA.or sl_str)) he.pe hl.po hh.po) fun σ H Q ⟨Hs, ev, w, s, re, e, q⟩ => by
    obtain ⟨w0, e1, e⟩ := bindS e
    obtain ⟨l, e2, e⟩ := bindS e
    obtain ⟨h, e3, e⟩ := bindS e
    refine ⟨Hs, ev, w0, s, re, e1, fun x H1 Hs1 x1 rx => ⟨Hs1, ev, l, x1.sub, re.mono x1.small, e2, fun H2 Hs2 x2 => ⟨Hs2, ev, h, x2.sub, re.mono (x1.trans x2).small, e3, fun H3 Hs3 x3 => ?_⟩⟩⟩
    have ex := (x1.trans x2).trans x3
    have rx := rx.mono (x2.trans x3).small
    unfold gSl at e
    split at e
    · cases e
      obtain ⟨p, xs, rfl, hp, r⟩ := rx.lst_of
      refine .inl ⟨p, xs, rfl, SqL.of (ex.sub _ _ hp), fun p2 hp2 => ?_⟩
      exact q _ _ _ (ex.laid hp2 _) (Rp.newL (ex.sub.free hp2) (r.cut l h))
    · cases e
      obtain ⟨p, xs, rfl, hp, r⟩ := rx.tup_of
      refine .inr (.inl ⟨p, xs, rfl, SqT.of (ex.sub _ _ hp), fun hw => ?_, fun hw p2 hp2 => ?_⟩)
      · refine q _ _ _ ex ?_
        rw [← r.len] at hw
        rw [cutL_whole hw]
        exact rx
      · exact q _ _ _ (ex.laid hp2 _) (Rp.newT (ex.sub.free hp2) (r.cut l h))
    · split at e
      · cases e
        exact .inr (.inr ⟨_, rx.str_of, by assumption, q _ _ _ ex (.str _)⟩)
      · cases e
    · cases e⟩

/-! ### arguments, displays -/
def fNil : Ev → Option (List PyData) := fun _ => some []
def fCons (f : Ev → Option PyData) (fs : Ev → Option (List PyData)) : Ev → Option (List PyData) := fun ev => (f ev).bind fun w => (fs ev).bind fun ws => some (w :: ws)
def asL : PyData → Option (List PyData)
  | .list ds => some ds
  | .tuple ds => some ds
  | _ => none
def fStar (f : Ev → Option PyData) (fs : Ev → Option (List PyData)) : Ev → Option (List PyData) := fun ev => (f ev).bind fun w => (asL w).bind fun us => (fs ev).bind fun ws => some (us ++ ws)
theorem pua_nil : PUA X [] fNil := ⟨convA pa_nil fun σ H Q ⟨Hs, ev, ws, s, re, e, q⟩ => by cases e; exact q [] H Hs (.refl s) .nil⟩
theorem pua_cons {e : Expr} {es : List Expr} {f : Ev → Option PyData} {fs : Ev → Option (List PyData)} (h : PU X e f) (hr : PUA X es fs) (hs : starEach (e :: es) X.env = (false, eval e X.env) :: starEach es X.env := by rfl) : PUA X (e :: es) (fCons f fs) :=
  ⟨convA (pa_cons h.pe hr.pa hs) fun σ H Q ⟨Hs, ev, ws, s, re, e, q⟩ => by
    obtain ⟨w, e1, e⟩ := bindS e
    obtain ⟨ws', e2, e⟩ := bindS e
    cases e
    exact ⟨Hs, ev, w, s, re, e1, fun v H1 Hs1 x1 r1 => ⟨Hs1, ev, ws', x1.sub, re.mono x1.small, e2, fun vs H2 Hs2 x2 r2 => q _ H2 Hs2 (x1.trans x2) (.cons (r1.mono x2.small) r2)⟩⟩⟩
theorem pua_star {e : Expr} {es : List Expr} {p : Pos} {f : Ev → Option PyData} {fs : Ev → Option (List PyData)} (h : PU X e f) (hr : PUA X es fs) (hs : starEach (.Starred e p :: es) X.env = (true, eval e X.env) :: starEach es X.env := by rfl) : PUA X (.Starred e p :: es) (fStar f fs) :=
  ⟨convA (StX.pa_star h.pe hr.pa hs) fun σ H Q ⟨Hs, ev, ws, s, re, e, q⟩ => by
    obtain ⟨w, e1, e⟩ := bindS e
    obtain ⟨us, e2, e⟩ := bindS e
    obtain ⟨ws', e3, e⟩ := bindS e
    cases e
    refine ⟨Hs, ev, w, s, re, e1, fun v H1 Hs1 x1 r1 => ?_⟩
    unfold asL at e2
    split at e2
    · cases e2
      obtain ⟨a, xs, rfl, hp, r⟩ := r1.lst_of
      exact ⟨a, xs, rfl, .inr (SqL.of (x1.sub _ _ hp)), ⟨Hs1, ev, ws', x1.sub, re.mono x1.small, e3, fun vs H2 Hs2 x2 r2 => q _ H2 Hs2 (x1.trans x2) ((r.mono x2.small).append r2)⟩⟩
    · cases e2
      obtain ⟨a, xs, rfl, hp, r⟩ := r1.tup_of
      exact ⟨a, xs, rfl, .inl (SqT.of (x1.sub _ _ hp)), ⟨Hs1, ev, ws', x1.sub, re.mono x1.small, e3, fun vs H2 Hs2 x2 r2 => q _ H2 Hs2 (x1.trans x2) ((r.mono x2.small).append r2)⟩⟩
    · cases e2⟩
def fLst (fs : Ev → Option (List PyData)) : Ev → Option PyData := fun ev => (fs ev).bind fun ws => if ws.length ≤ sizeLine then some (.list ws) else none
def fTup (fs : Ev → Option (List PyData)) : Ev → Option PyData := fun ev => (fs ev).bind fun ws => if ws.length ≤ sizeLine then some (.tuple ws) else none
theorem pu_lst {es : List Expr} {fs : Ev → Option (List PyData)} {pos : Pos} (h : PUA X es fs) : PU X (.List es pos) (fLst fs) :=
  ⟨conv (pe_lst h.pa) fun σ H Q ⟨Hs, ev, w, s, re, e, q⟩ => by
    obtain ⟨ws, e1, e⟩ := bindS e
    split at e
    · cases e
      exact ⟨Hs, ev, ws, s, re, e1, fun vs H1 Hs1 x1 r => ⟨by rw [← r.len]; assumption, fun p hp => q _ _ _ (x1.laid hp _) (Rp.newL (x1.sub.free hp) r)⟩⟩
    · cases e⟩
theorem pu_tup {es : List Expr} {fs : Ev → Option (List PyData)} {x1} {pos : Pos} (h : PUA X es fs) : PU X (.Tuple es x1 pos) (fTup fs) :=
  ⟨conv (pe_tup h.pa) fun σ H Q ⟨Hs, ev, w, s, re, e, q⟩ => by
    obtain ⟨ws, e1, e⟩ := bindS e
    split at e
    · cases e
      exact ⟨Hs, ev, ws, s, re, e1, fun vs H1 Hs1 x1 r => ⟨by rw [← r.len]; assumption, fun p hp => q _ _ _ (x1.laid hp _) (Rp.newT (x1.sub.free hp) r)⟩⟩
    · cases e⟩
/-- a dict display with written, unlike keys -/
theorem putK_new {kvs : List (Key × V)} {k : Key} {v : V} (h : ∀ p ∈ kvs, p.1 ≠ k) : putK kvs k v = kvs ++ [(k, v)] := by
  unfold putK
  rw [if_neg]
  simp only [List.any_eq_true, decide_eq_true_eq, not_exists, not_and]
  exact fun p hp => h p hp
theorem mergeK_new : ∀ (more kvs : List (Key × V)), ((kvs ++ more).map (·.1)).Nodup → mergeK kvs more = kvs ++ more
  | [], kvs, _ => by rw [List.append_nil]; rfl
  | (k, v) :: r, kvs, h => by
    have e : mergeK kvs ((k, v) :: r) = mergeK (putK kvs k v) r := rfl
    rw [e, putK_new, mergeK_new r _ (by rw [List.append_assoc]; exact h), List.append_assoc]
    · rfl
    · intro p hp q
      rw [List.map_append, List.map_cons] at h
      exact (List.nodup_append.mp h).2.2 p.1 (List.mem_map_of_mem hp) k List.mem_cons_self q
def fDic : List (Key × (Ev → Option PyData)) → Ev → Option (List (PyData × PyData))
  | [], _ => some []
  | (k, f) :: r, ev => (f ev).bind fun w => (fDic r ev).bind fun ps => some ((keyD k, w) :: ps)
inductive PUD (X : Cx) (pos : Pos) : List (Option Expr) → List Expr → List (Key × (Ev → Option PyData)) → Prop
  | nil : PUD X pos [] [] []
  | str {x : Str} {j : Nat} {p : Pos} {v : Expr} {ks : List (Option Expr)} {vs : List Expr} {f : Ev → Option PyData} {fs : List (Key × (Ev → Option PyData))} (h : PU X v f) (r : PUD X pos ks vs fs) : PUD X pos (some (.Constant (.str x) j p) :: ks) (v :: vs) ((.inr x, f) :: fs)
theorem pud_pps {pos : Pos} : ∀ {ks : List (Option Expr)} {vs : List Expr} {fs : List (Key × (Ev → Option PyData))}, PUD X pos ks vs fs → PPs X pos ks vs (fs.map fun p => (tC (kV p.1), tPu p.2)) ∧ ks.all (·.isSome) = true ∧ ks.length = vs.length ∧ ks.length = fs.length
  | _, _, _, .nil => ⟨pps_nil, rfl, rfl, rfl⟩
  | _, _, _, .str h r => by
    obtain ⟨a, b, c, d⟩ := pud_pps r
    exact ⟨pps_cons pe_str h.pe a, by rw [List.all_cons, b]; rfl, by rw [List.length_cons, List.length_cons, c], by rw [List.length_cons, List.length_cons, d]⟩
theorem dic_use : ∀ {fs : List (Key × (Ev → Option PyData))} {σ : L2.St} {H Hs : Hp} {ev : Ev} {ps : List (PyData × PyData)} {Q : List (V × V) → Hp → Prop}, Same Hs H → REnv Hs σ ev → fDic fs ev = some ps →
    (∀ (kvs : List (Key × V)) H' Hs', Ext H Hs H' Hs' → kvs.map (·.1) = fs.map (·.1) → RpKV Hs' ps kvs → Q (kvs.map fun kv => (kV kv.1, kv.2)) H') → tPairs (fs.map fun p => (tC (kV p.1), tPu p.2)) σ H Q
  | [], σ, H, Hs, ev, ps, Q, s, re, e, q => by
    cases e
    exact q [] H Hs (.refl s) rfl .nil
  | (k, f) :: r, σ, H, Hs, ev, ps, Q, s, re, e, q => by
    obtain ⟨w, e1, e⟩ := bindS (show (f ev).bind (fun w => (fDic r ev).bind fun ps => some ((keyD k, w) :: ps)) = some ps from e)
    obtain ⟨ps', e2, e⟩ := bindS e
    cases e
    refine ⟨Hs, ev, w, s, re, e1, fun v H1 Hs1 x1 r1 => ?_⟩
    refine dic_use x1.sub (re.mono x1.small) e2 fun kvs H2 Hs2 x2 ek rk => ?_
    exact q ((k, v) :: kvs) H2 Hs2 (x1.trans x2) (by rw [List.map_cons, List.map_cons, ek]) (.cons (r1.mono x2.small) rk)
def fDict (fs : List (Key × (Ev → Option PyData))) : Ev → Option PyData := fun ev => (fDic fs ev).map .dict
theorem pu_dic {keys : List (Option Expr)} {values : List Expr} {fs : List (Key × (Ev → Option PyData))} {pos : Pos} (h : PUD X pos keys values fs) (h0 : keys ≠ []) (h15 : keys.length ≤ 15) (hn : (fs.map (·.1)).Nodup) : PU X (.Dict keys values pos) (fDict fs) := by
  obtain ⟨a, b, c, d⟩ := pud_pps h
  refine ⟨conv (pe_disp a b c h0 h15) fun σ H Q ⟨Hs, ev, w, s, re, e, q⟩ p hp => ?_⟩
  obtain ⟨ps, e1, rfl⟩ := Option.map_eq_some_iff.mp e
  have s1 : Same Hs (upd H p (.dK [])) := fun b o e => by rw [upd_ne (ne_of_none (s _ _ e) hp)]; exact s _ _ e
  refine dic_use (Hs := Hs) s1 re e1 fun kvs H2 Hs2 x2 ek rk => ?_
  have hp2 : H2 p = some (.dK []) := x2.big _ _ upd_same
  have np : Hs2 p = none := x2.new p (s.free hp) (by rw [upd_same]; exact fun z => nomatch z)
  refine ⟨hp2, kvs, rfl, by rw [← List.length_map (f := (·.1)) (as := kvs), ek, List.length_map, ← d]; exact h15, ?_⟩
  rw [mergeK_new kvs [] (by rw [List.nil_append, ek]; exact hn), List.nil_append]
  refine q (.ref p) (upd H2 p (.dK kvs)) (upd Hs2 p (.dK kvs)) ⟨fun b o e => ?_, fun b o e => ?_, fun b o e => ?_, fun b h1 h2 => ?_⟩ (.dic upd_same (rk.mono fun b o e => by rw [upd_ne (ne_of_none e np)]; exact e))
  · rw [upd_ne (ne_of_none e hp)]
    exact x2.big _ _ (by rw [upd_ne (ne_of_none e hp)]; exact e)
  · rw [upd_ne (ne_of_none (x2.small _ _ e) np)]
    exact x2.small _ _ e
  · by_cases z : b = p
    · subst z; rw [upd_same] at e ⊢; exact e
    · rw [upd_ne z] at e ⊢; exact x2.sub _ _ e
  · have z : b ≠ p := fun z => by subst z; exact h2 hp
    rw [upd_ne z]
    exact x2.new b h1 (by rw [upd_ne z]; exact h2)
end
end Pu

set_option Elab.async false
set_option linter.all false
set_option maxRecDepth 100000
set_option maxHeartbeats 2000000
namespace Pu
open PySem PySem.Spec PyProof.Rows L2

/-! ### calls of built-ins -/
def GCall (r : List V → Hp → VK → Prop) (g : List PyData → Option PyData) : Prop := ∀ (ws : List PyData) (w : PyData) (xs : List V) (H Hs : Hp) (Q : VK), Same Hs H → RpAll Hs ws xs → g ws = some w → (∀ v H' Hs', Ext H Hs H' Hs' → Rp Hs' w v → Q v H') → r xs H Q
def fCall (g : List PyData → Option PyData) (fs : Ev → Option (List PyData)) : Ev → Option PyData := fun ev => (fs ev).bind g
section
variable {X : Cx}
theorem call_use {r : List V → Hp → VK → Prop} {g : List PyData → Option PyData} {fs : Ev → Option (List PyData)} {σ : L2.St} {H : Hp} {Q : VK} (hg : GCall r g) (h : tPu (fCall g fs) σ H Q) : tCB r (tPuA fs) σ H Q := by
  obtain ⟨Hs, ev, w, s, re, e, q⟩ := h
  obtain ⟨ws, e1, e⟩ := bindS e
  exact ⟨Hs, ev, ws, s, re, e1, fun vs H1 Hs1 x1 r1 => hg ws w vs H1 Hs1 Q x1.sub r1 e fun v H2 Hs2 x2 r2 => q v H2 Hs2 (x1.trans x2) r2⟩
theorem pu_callB {id : String} {x : Str} {p pos : Pos} {e : Expr} {es : List Expr} {r : List V → Hp → VK → Prop} {g : List PyData → Option PyData} {fs : Ev → Option (List PyData)} (hc : CallR X (.builtin id) r) (hg : GCall r g) (hgl : Gl X x) (hm : X.mg x = none) (hv : bootBuiltins x = some (.builtin id)) (ha : PUA X (e :: es) fs)
    (hn : x ≠ "__name__" := by decide) (hdb : (x == ("__debug__" : Str)) = false := by decide) (he : starEach (e :: es) X.env = (false, eval e X.env) :: starEach es X.env := by rfl) (hpl : (backTo pos (starEach es X.env)).any (·.1) = false := by rfl) :
    PU X (.Call (.Name x p) (e :: es) [] pos) (fCall g fs) := ⟨conv (pe_callB hc hgl hm hv ha.pa hn hdb he hpl) fun σ H Q h => call_use hg h⟩
theorem pu_callTy {T : String} {x : Str} {p pos : Pos} {e : Expr} {es : List Expr} {r : List V → Hp → VK → Prop} {g : List PyData → Option PyData} {fs : Ev → Option (List PyData)} (hc : CallR X (.type T) r) (hg : GCall r g) (hgl : Gl X x) (hm : X.mg x = none) (hv : bootBuiltins x = some (.type T)) (ha : PUA X (e :: es) fs)
    (hn : x ≠ "__name__" := by decide) (hdb : (x == ("__debug__" : Str)) = false := by decide) (he : starEach (e :: es) X.env = (false, eval e X.env) :: starEach es X.env := by rfl) (hpl : (backTo pos (starEach es X.env)).any (·.1) = false := by rfl) :
    PU X (.Call (.Name x p) (e :: es) [] pos) (fCall g fs) := ⟨conv (pe_callTy hc hgl hm hv ha.pa hn hdb he hpl) fun σ H Q h => call_use hg h⟩
theorem RpAll.one {Hs : Hp} {w : PyData} {xs : List V} (r : RpAll Hs [w] xs) : ∃ v, xs = [v] ∧ Rp Hs w v := by
  cases r with
  | cons r t => cases t; exact ⟨_, rfl, r⟩
theorem RpAll.two {Hs : Hp} {w u : PyData} {xs : List V} (r : RpAll Hs [w, u] xs) : ∃ v z, xs = [v, z] ∧ Rp Hs w v ∧ Rp Hs u z := by
  cases r with
  | cons r t => cases t with
    | cons r2 t => cases t; exact ⟨_, _, rfl, r, r2⟩
def gLen : List PyData → Option PyData
  | [.str s] => if s.length ≤ sizeLine then some (.int s.length) else none
  | [.list ds] => some (.int ds.length)
  | [.tuple ds] => some (.int ds.length)
  | [.dict ps] => if isOb ps = true then none else some (.int ps.length)
  | _ => none
def rLenA (K : PySem.W.Frag) : List V → Hp → VK → Prop := fun xs H Q => (∃ x n, xs = [x] ∧ LenV K x H n ∧ Q (.int n) H) ∨ (∃ a kvs, xs = [V.ref a] ∧ H a = some (.dK kvs) ∧ Q (.int kvs.length) H)
theorem c_len : CallR X (.builtin "len") (rLenA X.K) := call_len.or call_lenD
theorem gc_len {K : PySem.W.Frag} : GCall (rLenA K) gLen := fun ws w xs H Hs Q s r e q => by
  unfold gLen at e
  split at e
  · split at e
    · rename_i h
      cases e
      obtain ⟨v, rfl, r1⟩ := r.one
      exact .inl ⟨v, _, rfl, by rw [r1.str_of]; exact ⟨h, rfl⟩, q _ H Hs (.refl s) (.int _)⟩
    · cases e
  · cases e
    obtain ⟨v, rfl, r1⟩ := r.one
    obtain ⟨a, vs, rfl, h, r2⟩ := r1.lst_of
    exact .inl ⟨_, _, rfl, .inl ⟨vs, SqL.of (s _ _ h), r2.len⟩, q _ H Hs (.refl s) (.int _)⟩
  · cases e
    obtain ⟨v, rfl, r1⟩ := r.one
    obtain ⟨a, vs, rfl, h, r2⟩ := r1.tup_of
    exact .inl ⟨_, _, rfl, .inr ⟨vs, SqT.of (s _ _ h), r2.len⟩, q _ H Hs (.refl s) (.int _)⟩
  · split at e
    case isTrue => cases e
    rename_i ho
    cases e
    obtain ⟨v, rfl, r1⟩ := r.one
    obtain ⟨a, kvs, rfl, h, r2⟩ := r1.dic_of (Bool.eq_false_iff.mpr ho)
    refine .inr ⟨a, kvs, rfl, s _ _ h, ?_⟩
    rw [← r2.len]
    exact q _ H Hs (.refl s) (.int _)
  · cases e
def gAbs : List PyData → Option PyData
  | [.int i] => some (.int (if i < 0 then -i else i))
  | _ => none
theorem gc_abs : GCall (fun xs H Q => ∃ i, xs = [.int i] ∧ Q (.int (if i < 0 then -i else i)) H) gAbs := fun ws w xs H Hs Q s r e q => by
  unfold gAbs at e
  split at e
  · cases e
    obtain ⟨v, rfl, r1⟩ := r.one
    exact ⟨_, by rw [r1.int_of], q _ H Hs (.refl s) (.int _)⟩
  · cases e
def asBs : List PyData → Option (List Bool)
  | [] => some []
  | w :: ws => (asB w).bind fun b => (asBs ws).map (b :: ·)
theorem asBs_rp {Hs : Hp} : ∀ {ds : List PyData} {vs : List V} {bs : List Bool}, RpAll Hs ds vs → asBs ds = some bs → vs = bs.map V.bl
  | _, _, _, .nil, e => by cases e; rfl
  | _, _, _, .cons r t, e => by
    obtain ⟨b, e1, e⟩ := bindS e
    obtain ⟨bs, e2, rfl⟩ := Option.map_eq_some_iff.mp e
    have ew := asB_some e1
    subst ew
    rw [r.bl_of, asBs_rp t e2]
    rfl
def gAll : List PyData → Option PyData
  | [.list ds] => (asBs ds).map fun bs => .bool (bs.all id)
  | _ => none
def gAny : List PyData → Option PyData
  | [.list ds] => (asBs ds).map fun bs => .bool (bs.any id)
  | _ => none
theorem gc_all {K : PySem.W.Frag} : GCall (rAll K) gAll := fun ws w xs H Hs Q s r e q => by
  unfold gAll at e
  split at e
  · obtain ⟨bs, e1, rfl⟩ := Option.map_eq_some_iff.mp e
    obtain ⟨v, rfl, r1⟩ := r.one
    obtain ⟨a, vs, rfl, h, r2⟩ := r1.lst_of
    have ev := asBs_rp r2 e1
    subst ev
    exact ⟨a, bs, rfl, SqL.of (s _ _ h), q _ H Hs (.refl s) (.bl _)⟩
  · cases e
def asIs : List PyData → Option (List Int)
  | [] => some []
  | w :: ws => (asI w).bind fun b => (asIs ws).map (b :: ·)
theorem asIs_rp {Hs : Hp} : ∀ {ds : List PyData} {vs : List V} {bs : List Int}, RpAll Hs ds vs → asIs ds = some bs → vs = bs.map V.int
  | _, _, _, .nil, e => by cases e; rfl
  | _, _, _, .cons r t, e => by
    obtain ⟨b, e1, e⟩ := bindS e
    obtain ⟨bs, e2, rfl⟩ := Option.map_eq_some_iff.mp e
    have ew := asI_some e1
    subst ew
    rw [r.int_of, asIs_rp t e2]
    rfl
def gSum : List PyData → Option PyData
  | [.list ds] => (asIs ds).map fun bs => .int bs.sum
  | _ => none
theorem gc_sum {K : PySem.W.Frag} : GCall (rSum K) gSum := fun ws w xs H Hs Q s r e q => by
  unfold gSum at e
  split at e
  · obtain ⟨bs, e1, rfl⟩ := Option.map_eq_some_iff.mp e
    obtain ⟨v, rfl, r1⟩ := r.one
    obtain ⟨a, vs, rfl, h, r2⟩ := r1.lst_of
    have ev := asIs_rp r2 e1
    subst ev
    exact ⟨a, bs, rfl, SqL.of (s _ _ h), q _ H Hs (.refl s) (.int _)⟩
  · cases e
def asSs : List PyData → Option (List Str)
  | [] => some []
  | .str x :: ws => (asSs ws).map (x :: ·)
  | _ => none
theorem asSs_rp {Hs : Hp} : ∀ {ds : List PyData} {vs : List V} {bs : List Str}, RpAll Hs ds vs → asSs ds = some bs → vs = bs.map V.str
  | _, _, _, .nil, e => by cases e; rfl
  | _, _, _, .cons (d := d) r t, e => by
    unfold asSs at e
    split at e
    · rename_i h; cases h
    · rename_i h
      cases h
      obtain ⟨bs, e2, rfl⟩ := Option.map_eq_some_iff.mp e
      rw [r.str_of, asSs_rp t e2]
      rfl
    · cases e
def gTuple : List PyData → Option PyData
  | [.list ds] => some (.tuple ds)
  | [.tuple ds] => some (.tuple ds)
  | _ => none
theorem gc_tuple {K : PySem.W.Frag} : GCall (fun xs H Q => ∃ p ys, xs = [.ref p] ∧ ((SqL K H p ys ∧ ∀ l, H l = none → Q (.ref l) (upd H l (.tup ys))) ∨ (SqT K H p ys ∧ Q (.ref p) H))) gTuple := fun ws w xs H Hs Q s r e q => by
  unfold gTuple at e
  split at e
  · cases e
    obtain ⟨v, rfl, r1⟩ := r.one
    obtain ⟨a, vs, rfl, h, r2⟩ := r1.lst_of
    exact ⟨a, vs, rfl, .inl ⟨SqL.of (s _ _ h), fun l hl => q _ _ _ ((Ext.refl s).laid hl _) (Rp.newT (s.free hl) r2)⟩⟩
  · cases e
    obtain ⟨v, rfl, r1⟩ := r.one
    obtain ⟨a, vs, rfl, h, r2⟩ := r1.tup_of
    exact ⟨a, vs, rfl, .inr ⟨SqT.of (s _ _ h), q _ _ _ (.refl s) r1⟩⟩
  · cases e
def gInt : List PyData → Option PyData
  | [.int i] => some (.int i)
  | [.bool b] => some (.int (if b then 1 else 0))
  | [.str a] => if a.length ≤ 640 then (PySem.intText? a).map .int else none
  | _ => none
def rInt : List V → Hp → VK → Prop := fun xs H Q => ((∃ i, xs = [.int i] ∧ Q (.int i) H) ∨ ∃ k, xs = [.bl k] ∧ Q (.int (if k then 1 else 0)) H) ∨ (∃ a n, xs = [.str a] ∧ PySem.intText? a = some n ∧ a.length ≤ 640 ∧ Q (.int n) H)
theorem c_int : CallR X (.type "int") rInt := call_int1.or call_int_str
theorem gc_int : GCall rInt gInt := fun ws w xs H Hs Q s r e q => by
  unfold gInt at e
  split at e
  · cases e
    obtain ⟨v, rfl, r1⟩ := r.one
    exact .inl (.inl ⟨_, by rw [r1.int_of], q _ H Hs (.refl s) (.int _)⟩)
  · cases e
    obtain ⟨v, rfl, r1⟩ := r.one
    exact .inl (.inr ⟨_, by rw [r1.bl_of], q _ H Hs (.refl s) (.int _)⟩)
  · split at e
    · obtain ⟨n, e1, rfl⟩ := Option.map_eq_some_iff.mp e
      obtain ⟨v, rfl, r1⟩ := r.one
      exact .inr ⟨_, _, by rw [r1.str_of], e1, by assumption, q _ H Hs (.refl s) (.int _)⟩
    · cases e
  · cases e
def gStr : List PyData → Option PyData
  | [.int i] => if i.natAbs.log2 < 1920 then some (.str (toString i)) else none
  | _ => none
theorem gc_str : GCall (fun xs H Q => ∃ i, xs = [.int i] ∧ i.natAbs.log2 < 1920 ∧ Q (.str (toString i)) H) gStr := fun ws w xs H Hs Q s r e q => by
  unfold gStr at e
  split at e
  · split at e
    · cases e
      obtain ⟨v, rfl, r1⟩ := r.one
      exact ⟨_, by rw [r1.int_of], by assumption, q _ H Hs (.refl s) (.str _)⟩
    · cases e
  · cases e

/-! ### isinstance -/
def isT (T : String) : PyData → Bool
  | .none => T == "NoneType"
  | .bool _ => T == "bool" || T == "int"
  | .int _ => T == "int"
  | .str _ => T == "str"
  | .list _ => T == "list"
  | .tuple _ => T == "tuple"
  | .dict _ => T == "dict"
def tyD : PyData → String
  | .none => "NoneType"
  | .bool _ => "bool"
  | .int _ => "int"
  | .str _ => "str"
  | .list _ => "list"
  | .tuple _ => "tuple"
  | .dict _ => "dict"
def obD : PyData → Bool
  | .dict ps => isOb ps
  | _ => false
theorem Rp.tyX {K : PySem.W.Frag} {H : Hp} {d : PyData} {v : V} (r : Rp H d v) (ho : obD d = false) : TyX K H v (.type (tyD d)) := by
  cases r with
  | ob h r => cases ho
  | non => exact .base .non
  | bl b => exact .base (.bl b)
  | int i => exact .base (.int i)
  | str x => exact .base (.str x)
  | lst h _ => exact .base (.lst h)
  | tup h _ => exact .base (.tup h)
  | dic h _ => exact .base (.dK h)
/-- the classes that are asked here -/
def asked6 : List String := ["int", "str", "bool", "list", "tuple", "dict"]
def tys7 : List String := ["NoneType", "bool", "int", "str", "list", "tuple", "dict"]
def isTy (t T : String) : Bool := if t == "bool" then T == "bool" || T == "int" else t == T
theorem kit_all : (tys7.all fun t => asked6.all fun T => kitB t T == some (isTy t T)) = true := by decide +kernel
theorem kit_at {d : PyData} {T : String} (h : T ∈ asked6) : kitB (tyD d) T = some (isTy (tyD d) T) := by
  have h1 := List.all_eq_true.mp kit_all (tyD d) (by cases d <;> simp [tyD, tys7])
  have h2 := List.all_eq_true.mp h1 T h
  exact eq_of_beq h2
def fIsi (f : Ev → Option PyData) (Ts : List String) : Ev → Option PyData := fun ev => (f ev).bind fun w => if obD w = true then none else some (.bool (Ts.any fun T => isTy (tyD w) T))
theorem pu_isi {e : Expr} {f : Ev → Option PyData} {p p2 pos : Pos} {x : Str} {T : String} (h : PU X e f) (hg : Gl X "isinstance") (hm : X.mg "isinstance" = none) (hg2 : Gl X x) (hm2 : X.mg x = none) (hv : bootBuiltins x = some (.type T)) (hT : T ∈ asked6)
    (hn : x ≠ "__name__" := by decide) (hd : (x == ("__debug__" : Str)) = false := by decide) (he : starEach (e :: [.Name x p2]) X.env = (false, eval e X.env) :: starEach [.Name x p2] X.env := by rfl) (hpl : (backTo pos (starEach [.Name x p2] X.env)).any (·.1) = false := by rfl) :
    PU X (.Call (.Name "isinstance" p) [e, .Name x p2] [] pos) (fIsi f [T]) :=
  ⟨conv (pe_callB call_isi hg hm boot_isinstance (pa_cons h.pe (pa_cons (pe_bltn (v := .ty T) hg2 hm2 hv rfl hn hd) pa_nil) he) (by decide) (by decide) he hpl) fun σ H Q ⟨Hs, ev, w, s, re, e, q⟩ => by
    obtain ⟨w0, e1, e⟩ := bindS e
    split at e
    case isTrue => cases e
    rename_i ho
    cases e
    have ho := Bool.eq_false_iff.mpr ho
    refine ⟨Hs, ev, w0, s, re, e1, fun v H1 Hs1 x1 r1 => ?_⟩
    refine ⟨v, .ty T, _, _, _, rfl, .ty T, ((r1.mono x1.sub).tyX ho), kit_ty (kit_at hT), ?_⟩
    have eb : ([T].any fun T => isTy (tyD w0) T) = isTy (tyD w0) T := by simp
    rw [eb] at q
    exact q _ H1 Hs1 x1 (.bl _)⟩
theorem kitAny_all {K : PySem.W.Frag} {t : String} (h : t ∈ tys7) : ∀ Ts : List String, (∀ T ∈ Ts, T ∈ asked6) → PySem.W.kitAny K (.type t) (Ts.map Value.type) = some (Ts.any fun T => isTy t T)
  | [], _ => rfl
  | T :: Ts, hT => by
    have h1 : kitB t T = some (isTy t T) := eq_of_beq (List.all_eq_true.mp (List.all_eq_true.mp kit_all t h) T (hT T List.mem_cons_self))
    have ih := kitAny_all (K := K) h Ts fun T' h' => hT T' (List.mem_cons_of_mem _ h')
    rw [List.map_cons, List.any_cons]
    refine kitAny_cons (kit_ty h1) (fun e => ?_) fun e => by rw [e]; rfl
    rw [e, ih, Bool.false_or]
theorem tyD_mem (d : PyData) : tyD d ∈ tys7 := by cases d <;> simp [tyD, tys7]
theorem clsV_all : ∀ Ts : List String, Paired ClsV (Ts.map V.ty) (Ts.map Value.type)
  | [] => .nil
  | T :: Ts => .cons (.ty T) (clsV_all Ts)
/-- isinstance(e, (T1, T2)) -/
theorem pu_isi2 {e : Expr} {f : Ev → Option PyData} {p p2 p3 p4 pos : Pos} {k : Nat} {x y : Str} {T U : String} (h : PU X e f) (hg : Gl X "isinstance") (hm : X.mg "isinstance" = none) (hg2 : Gl X x) (hm2 : X.mg x = none) (hv : bootBuiltins x = some (.type T)) (hT : T ∈ asked6)
    (hg3 : Gl X y) (hm3 : X.mg y = none) (hv3 : bootBuiltins y = some (.type U)) (hU : U ∈ asked6)
    (hn : x ≠ "__name__" := by decide) (hd : (x == ("__debug__" : Str)) = false := by decide) (hn3 : y ≠ "__name__" := by decide) (hd3 : (y == ("__debug__" : Str)) = false := by decide)
    (he : starEach (e :: [.Tuple [.Name x p2, .Name y p3] k p4]) X.env = (false, eval e X.env) :: starEach [.Tuple [.Name x p2, .Name y p3] k p4] X.env := by rfl) (hpl : (backTo pos (starEach [.Tuple [.Name x p2, .Name y p3] k p4] X.env)).any (·.1) = false := by rfl) :
    PU X (.Call (.Name "isinstance" p) [e, .Tuple [.Name x p2, .Name y p3] k p4] [] pos) (fIsi f [T, U]) :=
  ⟨conv (pe_callB call_isiT hg hm boot_isinstance (pa_cons h.pe (pa_cons (pe_tup (pa_cons (pe_bltn (v := .ty T) hg2 hm2 hv rfl hn hd) (pa_cons (pe_bltn (v := .ty U) hg3 hm3 hv3 rfl hn3 hd3) pa_nil))) pa_nil) he) (by decide) (by decide) he hpl) fun σ H Q ⟨Hs, ev, w, s, re, e, q⟩ => by
    obtain ⟨w0, e1, e⟩ := bindS e
    split at e
    case isTrue => cases e
    rename_i ho
    cases e
    have ho := Bool.eq_false_iff.mpr ho
    refine ⟨Hs, ev, w0, s, re, e1, fun v H1 Hs1 x1 r1 => ?_⟩
    refine ⟨by show 2 ≤ sizeLine; decide, fun t ht => ?_⟩
    have x2 := x1.laid ht (.tup [.ty T, .ty U])
    refine ⟨v, t, [T, U].map V.ty, _, [T, U].map Value.type, _, rfl, upd_same, clsV_all _, ((r1.mono x1.sub).mono fun b o e => by rw [upd_ne (ne_of_none e ht)]; exact e).tyX ho, kitAny_all (tyD_mem w0) [T, U] ?_, q _ _ _ x2 (.bl _)⟩
    intro T' h'
    simp only [List.mem_cons, List.not_mem_nil, or_false] at h'
    rcases h' with rfl | rfl
    · exact hT
    · exact hU⟩

/-- isinstance(e, (T1, T2, T3)) -/
theorem pu_isi3 {e : Expr} {f : Ev → Option PyData} {p p2 p3 p4 p5 pos : Pos} {k : Nat} {x y z : Str} {T U W : String} (h : PU X e f) (hg : Gl X "isinstance") (hm : X.mg "isinstance" = none) (hg2 : Gl X x) (hm2 : X.mg x = none) (hv : bootBuiltins x = some (.type T)) (hT : T ∈ asked6)
    (hg3 : Gl X y) (hm3 : X.mg y = none) (hv3 : bootBuiltins y = some (.type U)) (hU : U ∈ asked6) (hg4 : Gl X z) (hm4 : X.mg z = none) (hv4 : bootBuiltins z = some (.type W)) (hW : W ∈ asked6)
    (hn : x ≠ "__name__" := by decide) (hd : (x == ("__debug__" : Str)) = false := by decide) (hn3 : y ≠ "__name__" := by decide) (hd3 : (y == ("__debug__" : Str)) = false := by decide) (hn4 : z ≠ "__name__" := by decide) (hd4 : (z == ("__debug__" : Str)) = false := by decide)
    (he : starEach (e :: [.Tuple [.Name x p2, .Name y p3, .Name z p5] k p4]) X.env = (false, eval e X.env) :: starEach [.Tuple [.Name x p2, .Name y p3, .Name z p5] k p4] X.env := by rfl) (hpl : (backTo pos (starEach [.Tuple [.Name x p2, .Name y p3, .Name z p5] k p4] X.env)).any (·.1) = false := by rfl) :
    PU X (.Call (.Name "isinstance" p) [e, .Tuple [.Name x p2, .Name y p3, .Name z p5] k p4] [] pos) (fIsi f [T, U, W]) :=
  ⟨conv (pe_callB call_isiT hg hm boot_isinstance (pa_cons h.pe (pa_cons (pe_tup (pa_cons (pe_bltn (v := .ty T) hg2 hm2 hv rfl hn hd) (pa_cons (pe_bltn (v := .ty U) hg3 hm3 hv3 rfl hn3 hd3) (pa_cons (pe_bltn (v := .ty W) hg4 hm4 hv4 rfl hn4 hd4) pa_nil)))) pa_nil) he) (by decide) (by decide) he hpl) fun σ H Q ⟨Hs, ev, w, s, re, e, q⟩ => by
    obtain ⟨w0, e1, e⟩ := bindS e
    split at e
    case isTrue => cases e
    rename_i ho
    cases e
    have ho := Bool.eq_false_iff.mpr ho
    refine ⟨Hs, ev, w0, s, re, e1, fun v H1 Hs1 x1 r1 => ?_⟩
    refine ⟨by show 3 ≤ sizeLine; decide, fun t ht => ?_⟩
    have x2 := x1.laid ht (.tup [.ty T, .ty U, .ty W])
    refine ⟨v, t, [T, U, W].map V.ty, _, [T, U, W].map Value.type, _, rfl, upd_same, clsV_all _, ((r1.mono x1.sub).mono fun b o e => by rw [upd_ne (ne_of_none e ht)]; exact e).tyX ho, kitAny_all (tyD_mem w0) [T, U, W] ?_, q _ _ _ x2 (.bl _)⟩
    intro T' h'
    simp only [List.mem_cons, List.not_mem_nil, or_false] at h'
    rcases h' with rfl | rfl | rfl
    · exact hT
    · exact hU
    · exact hW⟩

/-! ### calls of defs -/
def spP (g : List PyData → Option PyData) : Sp := fun vs H Q _ => ∃ (Hs : Hp) (ws : List PyData) (w : PyData), Same Hs H ∧ RpAll Hs ws vs ∧ g ws = some w ∧ ∀ v H' Hs', Ext H Hs H' Hs' → Rp Hs' w v → Q v H'
theorem spP_imp {g g' : List PyData → Option PyData} (h : ∀ ws w, g' ws = some w → g ws = some w) {vs : List V} {H : Hp} {Q : VK} {E : XK} (q : spP g' vs H Q E) : spP g vs H Q E := by
  obtain ⟨Hs, ws, w, s, r, e, q⟩ := q
  exact ⟨Hs, ws, w, s, r, h ws w e, q⟩
theorem pu_call {CX : CXT} {k : Nat} {f : Addr} {fd : FuncData} {ps : List Str} {E : XK} {x : Str} {p pos : Pos} {e : Expr} {es : List Expr} {g : List PyData → Option PyData} {fs : Ev → Option (List PyData)} (F : FnOk X.prog X.w X.K X.mg X.base CX k f fd ps (spP g)) (hr : Room k X.A) (hg : Gl X x) (hm : X.mg x = some (.ref f)) (hk : PySem.W.keepIn X.K (.ref f) = true) (hb : Binds X.K fd ps []) (hx : Passes CX X E)
    (ha : PUA X (e :: es) fs) (hdb : (x == ("__debug__" : Str)) = false := by decide) (he : starEach (e :: es) X.env = (false, eval e X.env) :: starEach es X.env := by rfl) (hpl : (backTo pos (starEach es X.env)).any (·.1) = false := by rfl) :
    PU X (.Call (.Name x p) (e :: es) [] pos) (fCall g fs) :=
  ⟨conv (pe_call F hr hg hm hk hb .nil hx ha.pa hdb he hpl) fun σ H Q ⟨Hs, ev, w, s, re, e, q⟩ => by
    obtain ⟨ws, e1, e⟩ := bindS e
    refine ⟨Hs, ev, ws, s, re, e1, fun vs H1 Hs1 x1 r1 => ?_⟩
    show spP g (vs ++ []) H1 Q E
    rw [List.append_nil]
    exact ⟨Hs1, ws, w, x1.sub, r1, e, fun v H2 Hs2 x2 r2 => q v H2 Hs2 (x1.trans x2) r2⟩⟩

/-! ### text methods -/
def gJoin (a : Str) (w : PyData) : Option PyData := (asL w).bind fun ds => (asSs ds).bind fun ys => if (ys.map (·.length)).sum + ys.length * a.length ≤ 16777216 then some (.str (Txt.join a ys)) else none
def fJoin (fo f : Ev → Option PyData) : Ev → Option PyData := fun ev => (fo ev).bind fun a => (f ev).bind fun w => match a with | .str a => gJoin a w | _ => none
theorem pu_join {o e : Expr} {fo f : Ev → Option PyData} {apos pos : Pos} (ho : PU X o fo) (h : PU X e f) (hs : starEach [e] X.env = [(false, eval e X.env)] := by rfl) (hbase : attributeBase o "join" X.env (eval o X.env) = eval o X.env := by rfl) (hline : (apos.endLine == pos.line) = true := by rfl) :
    PU X (.Call (.Attribute o "join" apos) [e] [] pos) (fJoin fo f) :=
  ⟨conv (pe_join ho.pe h.pe hs hbase hline) fun σ H Q ⟨Hs, ev, w, s, re, e, q⟩ => by
    obtain ⟨a, e1, e⟩ := bindS e
    obtain ⟨w0, e2, e⟩ := bindS e
    split at e
    · obtain ⟨ds, e3, e⟩ := bindS e
      obtain ⟨ys, e4, e⟩ := bindS e
      split at e
      · rename_i hz
        cases e
        refine ⟨Hs, ev, _, s, re, e1, fun v H1 Hs1 x1 r1 => ⟨⟨_, r1.str_of⟩, Hs1, ev, w0, x1.sub, re.mono x1.small, e2, fun u H2 Hs2 x2 r2 => ?_⟩⟩
        unfold asL at e3
        split at e3
        · cases e3
          obtain ⟨p, xs, rfl, hp, r⟩ := r2.lst_of
          have ex := asSs_rp r e4
          subst ex
          exact ⟨_, p, ys, r1.str_of, rfl, .inl (SqL.of (x2.sub _ _ hp)), hz, q _ H2 Hs2 (x1.trans x2) (.str _)⟩
        · cases e3
          obtain ⟨p, xs, rfl, hp, r⟩ := r2.tup_of
          have ex := asSs_rp r e4
          subst ex
          exact ⟨_, p, ys, r1.str_of, rfl, .inr (SqT.of (x2.sub _ _ hp)), hz, q _ H2 Hs2 (x1.trans x2) (.str _)⟩
        · cases e3
      · cases e
    · cases e⟩
def fSplit (fo f : Ev → Option PyData) : Ev → Option PyData := fun ev => (fo ev).bind fun a => (f ev).bind fun b => match a, b with | .str a, .str b => if (b.length == 0) = false ∧ a.length + 2 ≤ sizeLine then some (.list ((Txt.split a b).map .str)) else none | _, _ => none
theorem rp_strs {Hs : Hp} : ∀ ys : List Str, RpAll Hs (ys.map .str) (ys.map V.str)
  | [] => .nil
  | y :: ys => .cons (.str y) (rp_strs ys)
theorem pu_split {o e : Expr} {fo f : Ev → Option PyData} {apos pos : Pos} (ho : PU X o fo) (h : PU X e f) (hs : starEach [e] X.env = [(false, eval e X.env)] := by rfl) (hbase : attributeBase o "split" X.env (eval o X.env) = eval o X.env := by rfl) (hline : (apos.endLine == pos.line) = true := by rfl) :
    PU X (.Call (.Attribute o "split" apos) [e] [] pos) (fSplit fo f) :=
  ⟨conv (pe_split ho.pe h.pe hs hbase hline) fun σ H Q ⟨Hs, ev, w, s, re, e, q⟩ => by
    obtain ⟨a, e1, e⟩ := bindS e
    obtain ⟨b, e2, e⟩ := bindS e
    split at e
    · split at e
      · rename_i hz
        cases e
        refine ⟨Hs, ev, _, s, re, e1, fun v H1 Hs1 x1 r1 => ⟨⟨_, r1.str_of⟩, Hs1, ev, _, x1.sub, re.mono x1.small, e2, fun u H2 Hs2 x2 r2 => ?_⟩⟩
        refine ⟨_, _, r1.str_of, by rw [r2.str_of], hz.1, hz.2, fun p hp => ?_⟩
        have x3 := x1.trans x2
        exact q _ _ _ (x3.laid hp _) (Rp.newL (x3.sub.free hp) (rp_strs _))
      · cases e
    · cases e⟩
end
end Pu

set_option Elab.async false
set_option linter.all false
set_option maxRecDepth 100000
set_option maxHeartbeats 2000000
namespace Pu
open PySem PySem.Spec PyProof.Rows L2

/-! ### targets -/
def setAll : L2.St → List (Nat × V) → L2.St
  | σ, [] => σ
  | σ, (i, v) :: r => setAll (σ.set i (some v)) r
def setAllE : Ev → List (Nat × PyData) → Ev
  | ev, [] => ev
  | ev, (i, w) :: r => setAllE (ev.set i (some w)) r
theorem REnv.setAll {Hs : Hp} : ∀ {is : List Nat} {us : List PyData} {vs : List V} {σ : L2.St} {ev : Ev}, REnv Hs σ ev → RpAll Hs us vs → REnv Hs (Pu.setAll σ (is.zip vs)) (setAllE ev (is.zip us))
  | [], _, _, _, _, h, _ => h
  | _ :: _, _, _, _, _, h, .nil => h
  | i :: is, _, _, _, _, h, .cons r t => REnv.setAll (is := is) (REnv.set (i := i) h r) t
theorem setAll_len : ∀ (l : List (Nat × V)) (σ : L2.St), (setAll σ l).length = σ.length
  | [], _ => rfl
  | (i, v) :: r, σ => by rw [setAll, setAll_len r, List.length_set]
def GPu (g : TG) (is : List Nat) (as : PyData → Option (List PyData)) : Prop := ∀ (σ : L2.St) (H Hs : Hp) (w : PyData) (v : V) (us : List PyData) (Q : L2.St → Hp → Prop), Same Hs H → Rp Hs w v → as w = some us → (∀ vs, RpAll Hs us vs → Q (setAll σ (is.zip vs)) H) → g v σ H Q
def asOne : PyData → Option (List PyData) := fun w => some [w]
def asTup (n : Nat) : PyData → Option (List PyData)
  | .tuple ds => if ds.length = n then some ds else none
  | _ => none
theorem gp_one {i : Nat} : GPu (gName i) [i] asOne := fun σ H Hs w v us Q s r e q => by
  cases e
  exact q [v] (.cons r .nil)
theorem gp_tup2 {K : PySem.W.Frag} {i j : Nat} : GPu (gTup K 2 (gCons (gName i) (gCons (gName j) gNil))) [i, j] (asTup 2) := fun σ H Hs w v us Q s r e q => by
  unfold asTup at e
  split at e
  · split at e
    · rename_i hl
      cases e
      obtain ⟨a, xs, rfl, h, r2⟩ := r.tup_of
      have hl2 : xs.length = 2 := by rw [← r2.len]; exact hl
      have q2 := q xs r2
      match xs, hl2 with
      | [x, y], _ => exact ⟨a, [x, y], rfl, SqT.of (s _ _ h), rfl, x, [y], rfl, y, [], rfl, rfl, q2⟩
    · cases e
  · cases e

/-! ### what is walked -/
structure WalkP (J : It) (ws : List PyData) (Hs : Hp) : Prop where
  goes : ∀ (i : Nat) (H : Hp), i < ws.length → Same Hs H → J.go i H
  stops : ∀ H : Hp, Same Hs H → J.stop ws.length H
  yields : ∀ (i : Nat) (H Hs1 : Hp) (x : V) (H' : Hp), i < ws.length → Same Hs Hs1 → Same Hs1 H → J.yld i H x H' → ∃ Hs2 w, Ext H Hs1 H' Hs2 ∧ ws[i]? = some w ∧ Rp Hs2 w x
theorem WalkP.mono {J : It} {ws : List PyData} {Hs Hs' : Hp} (w : WalkP J ws Hs) (s : Same Hs Hs') : WalkP J ws Hs' :=
  ⟨fun i H hi h => w.goes i H hi (s.trans h), fun H h => w.stops H (s.trans h), fun i H Hs1 x H' hi h1 h2 y => w.yields i H Hs1 x H' hi (s.trans h1) h2 y⟩
def tPuI (fit : Ev → Option (List PyData)) : TI := fun σ H R => ∃ (Hs : Hp) (ev : Ev) (ws : List PyData), Same Hs H ∧ REnv Hs σ ev ∧ fit ev = some ws ∧ ∀ J H' Hs', Ext H Hs H' Hs' → WalkP J ws Hs' → R J H'
structure PUI (X : Cx) (tg e : Expr) (fit : Ev → Option (List PyData)) : Prop where
  pi : PI X tg e (tPuI fit)
theorem convI {X : Cx} {tg e : Expr} {t t' : TI} (h : PI X tg e t) (k : ∀ σ H R, t' σ H R → t σ H R) : PI X tg e t' := ⟨fun pins s σ H R I q => h.run pins s σ H R I (k σ H R q)⟩
theorem PI.or {X : Cx} {tg e : Expr} {t u : TI} (h1 : PI X tg e t) (h2 : PI X tg e u) : PI X tg e (fun σ H R => t σ H R ∨ u σ H R) :=
  ⟨fun pins s σ H R I q => q.elim (h1.run pins s σ H R I) (h2.run pins s σ H R I)⟩
def signs (s : Str) : List PyData := s.cps.toList.map fun c => .str ⟨#[c]⟩
def gIt : PyData → Option (List PyData)
  | .list ds => some ds
  | .tuple ds => some ds
  | .str s => some (signs s)
  | _ => none
theorem walkp_list {K : PySem.W.Frag} {a : Addr} {xs : List V} {ws : List PyData} {Hs : Hp} (h : Hs a = some (.lst xs)) (r : RpAll Hs ws xs) : WalkP (Itl K a) ws Hs := by
  refine ⟨fun i H hi s => ?_, fun H s => ⟨xs, SqL.of (s _ _ h), by rw [r.len]; exact Nat.le_refl _⟩, fun i H Hs1 x H' hi s1 s2 y => ?_⟩
  · rw [r.len] at hi
    exact ⟨xs, xs[i], SqL.of (s _ _ h), by simp [hi]⟩
  · obtain ⟨rfl, y⟩ := y
    have e := y xs (SqL.of (s2 _ _ (s1 _ _ h)))
    obtain ⟨w, e2, rw⟩ := r.get' e
    exact ⟨Hs1, w, .refl s2, e2, rw.mono s1⟩
theorem walkp_tup {K : PySem.W.Frag} {a : Addr} {xs : List V} {ws : List PyData} {Hs : Hp} (h : Hs a = some (.tup xs)) (r : RpAll Hs ws xs) : WalkP (Itt K a) ws Hs := by
  refine ⟨fun i H hi s => ?_, fun H s => ⟨xs, SqT.of (s _ _ h), by rw [r.len]; exact Nat.le_refl _⟩, fun i H Hs1 x H' hi s1 s2 y => ?_⟩
  · rw [r.len] at hi
    exact ⟨xs, xs[i], SqT.of (s _ _ h), by simp [hi]⟩
  · obtain ⟨rfl, y⟩ := y
    have e := y xs (SqT.of (s2 _ _ (s1 _ _ h)))
    obtain ⟨w, e2, rw⟩ := r.get' e
    exact ⟨Hs1, w, .refl s2, e2, rw.mono s1⟩
theorem walkp_str {z : Str} {Hs : Hp} : WalkP (Its z) (signs z) Hs := by
  have hl : (signs z).length = z.cps.size := by unfold signs; rw [List.length_map, Array.length_toList]
  refine ⟨fun i H hi s => ?_, fun H s => ?_, fun i H Hs1 x H' hi s1 s2 y => ?_⟩
  · rw [hl] at hi; exact hi
  · show z.cps.size ≤ (signs z).length
    rw [hl]; exact Nat.le_refl _
  · obtain ⟨rfl, c, e, rfl⟩ := y
    refine ⟨Hs1, .str ⟨#[c]⟩, .refl s2, ?_, .str _⟩
    unfold signs
    rw [List.getElem?_map, Array.getElem?_toList, e]
    rfl
section
variable {X : Cx}
def fIt (f : Ev → Option PyData) : Ev → Option (List PyData) := fun ev => (f ev).bind gIt
theorem pui_any {tg e : Expr} {f : Ev → Option PyData} (h : PU X e f) : PUI X tg e (fIt f) :=
  ⟨convI (PI.or (pi_list h.pe) (PI.or (pi_tup h.pe) (pi_str h.pe))) fun σ H R ⟨Hs, ev, ws, s, re, e, q⟩ => by
    obtain ⟨w, e1, e⟩ := bindS e
    unfold gIt at e
    split at e
    · cases e
      refine .inl ⟨Hs, ev, _, s, re, e1, fun v H1 Hs1 x1 r => ?_⟩
      obtain ⟨a, xs, rfl, hp, r2⟩ := r.lst_of
      exact ⟨a, rfl, ⟨xs, SqL.of (x1.sub _ _ hp)⟩, q _ H1 Hs1 x1 (walkp_list hp r2)⟩
    · cases e
      refine .inr (.inl ⟨Hs, ev, _, s, re, e1, fun v H1 Hs1 x1 r => ?_⟩)
      obtain ⟨a, xs, rfl, hp, r2⟩ := r.tup_of
      exact ⟨a, rfl, ⟨xs, SqT.of (x1.sub _ _ hp)⟩, q _ H1 Hs1 x1 (walkp_tup hp r2)⟩
    · cases e
      exact .inr (.inr ⟨Hs, ev, _, s, re, e1, fun v H1 Hs1 x1 r => ⟨_, r.str_of, q _ H1 Hs1 x1 walkp_str⟩⟩)
    · cases e⟩
def fRange (f : Ev → Option PyData) : Ev → Option (List PyData) := fun ev => (f ev).bind fun w => (asI w).bind fun n => if -(2 ^ 62) ≤ n ∧ n < 2 ^ 62 then some ((List.range n.toNat).map fun i => .int (i : Nat)) else none
theorem walkp_range {n : Nat} {Hs : Hp} : WalkP (Itr 0 n) ((List.range n).map fun i => .int (i : Nat)) Hs := by
  refine ⟨fun i H hi s => by rw [List.length_map, List.length_range] at hi; exact hi, fun H s => by rw [List.length_map, List.length_range]; exact Nat.le_refl _, fun i H Hs1 x H' hi s1 s2 y => ?_⟩
  obtain ⟨rfl, rfl⟩ := y
  rw [List.length_map, List.length_range] at hi
  refine ⟨Hs1, .int (i : Nat), .refl s2, ?_, ?_⟩
  · rw [List.getElem?_map, List.getElem?_range hi]
    rfl
  · rw [Int.zero_add]
    exact .int _
theorem pui_range {tg e : Expr} {f : Ev → Option PyData} {p pos : Pos} (h : PU X e f) (hg : Gl X "range") (hm : X.mg "range" = none) (hs : starEach [e] X.env = (false, eval e X.env) :: starEach [] X.env := by rfl) : PUI X tg (.Call (.Name "range" p) [e] [] pos) (fRange f) :=
  ⟨convI (pi_range1 hg hm (pa_cons h.pe pa_nil hs) hs) fun σ H R ⟨Hs, ev, ws, s, re, e, q⟩ => by
    obtain ⟨w, e1, e⟩ := bindS e
    obtain ⟨n, e2, e3⟩ := bindS e
    have ew := asI_some e2
    subst ew
    split at e3
    · rename_i hb
      cases e3
      exact ⟨Hs, ev, _, s, re, e1, fun v H1 Hs1 x1 r => ⟨n, by rw [r.int_of], hb.1, hb.2, q _ H1 Hs1 x1 walkp_range⟩⟩
    · cases e3⟩
def zipD (as bs : List PyData) : List PyData := List.zipWith (fun a b => .tuple [a, b]) as bs
def fZip (f g : Ev → Option PyData) : Ev → Option (List PyData) := fun ev => (f ev).bind fun a => (g ev).bind fun b => match a, b with | .list as, .list bs => some (zipD as bs) | .tuple as, .tuple bs => some (zipD as bs) | _, _ => none
theorem zipD_at {as bs : List PyData} {i : Nat} {a b : PyData} (ha : as[i]? = some a) (hb : bs[i]? = some b) : (zipD as bs)[i]? = some (.tuple [a, b]) := by
  unfold zipD
  rw [List.getElem?_zipWith, ha, hb]
theorem zipD_len (as bs : List PyData) : (zipD as bs).length = min as.length bs.length := by unfold zipD; exact List.length_zipWith
theorem pui_zip {es : List Expr} {kk : Nat} {tpos p pos : Pos} {a b : Expr} {f g : Ev → Option PyData} (h : PU X a f) (h2 : PU X b g) (hg : Gl X "zip") (hm : X.mg "zip" = none) (hs : starEach [a, b] X.env = (false, eval a X.env) :: starEach [b] X.env := by rfl) (hs2 : starEach [b] X.env = (false, eval b X.env) :: starEach [] X.env := by rfl) (hpl : (backTo pos (starEach [b] X.env)).any (·.1) = false := by rfl) :
    PUI X (.Tuple es kk tpos) (.Call (.Name "zip" p) [a, b] [] pos) (fZip f g) :=
  ⟨convI (RZ.pi_zipA hg hm (pa_cons h.pe (pa_cons h2.pe pa_nil hs2) hs) hs hpl) fun σ H R ⟨Hs, ev, ws, s, re, e, q⟩ => by
    obtain ⟨wa, e1, e⟩ := bindS e
    obtain ⟨wb, e2, e⟩ := bindS e
    refine ⟨Hs, ev, wa, s, re, e1, fun x H1 Hs1 x1 r1 => ⟨Hs1, ev, wb, x1.sub, re.mono x1.small, e2, fun y H2 Hs2 x2 r2 => ?_⟩⟩
    have r1 := r1.mono x2.small
    split at e
    · cases e
      obtain ⟨pa, xs, rfl, ha, ra⟩ := r1.lst_of
      obtain ⟨pb, ys, rfl, hb, rb⟩ := r2.lst_of
      refine ⟨pa, pb, xs, ys, rfl, .inl ⟨SqL.of (x2.sub _ _ ha), SqL.of (x2.sub _ _ hb), q _ H2 Hs2 (x1.trans x2) ⟨fun i H hi s => ?_, fun H s => ?_, fun i H Hs3 v H' hi s1 s2 y => ?_⟩⟩⟩
      · rw [zipD_len, ra.len, rb.len] at hi
        exact ⟨xs, ys, xs[i]'(by omega), ys[i]'(by omega), SqL.of (s _ _ ha), SqL.of (s _ _ hb), by simp [show i < xs.length by omega], by simp [show i < ys.length by omega]⟩
      · refine ⟨xs, ys, SqL.of (s _ _ ha), SqL.of (s _ _ hb), ?_⟩
        rw [zipD_len, ra.len, rb.len]
        omega
      · obtain ⟨T, x, z, rfl, hT, rfl, y1, y2⟩ := y
        obtain ⟨wx, ex, rx⟩ := ra.get' (y1 xs (SqL.of (s2 _ _ (s1 _ _ ha))))
        obtain ⟨wz, ez, rz⟩ := rb.get' (y2 ys (SqL.of (s2 _ _ (s1 _ _ hb))))
        exact ⟨_, _, (Ext.refl s2).laid hT _, zipD_at ex ez, Rp.newT (s2.free hT) (.cons (rx.mono s1) (.cons (rz.mono s1) .nil))⟩
    · cases e
      obtain ⟨pa, xs, rfl, ha, ra⟩ := r1.tup_of
      obtain ⟨pb, ys, rfl, hb, rb⟩ := r2.tup_of
      refine ⟨pa, pb, xs, ys, rfl, .inr ⟨SqT.of (x2.sub _ _ ha), SqT.of (x2.sub _ _ hb), q _ H2 Hs2 (x1.trans x2) ⟨fun i H hi s => ?_, fun H s => ?_, fun i H Hs3 v H' hi s1 s2 y => ?_⟩⟩⟩
      · rw [zipD_len, ra.len, rb.len] at hi
        exact ⟨xs, ys, xs[i]'(by omega), ys[i]'(by omega), SqT.of (s _ _ ha), SqT.of (s _ _ hb), by simp [show i < xs.length by omega], by simp [show i < ys.length by omega]⟩
      · refine ⟨xs, ys, SqT.of (s _ _ ha), SqT.of (s _ _ hb), ?_⟩
        rw [zipD_len, ra.len, rb.len]
        omega
      · obtain ⟨T, x, z, rfl, hT, rfl, y1, y2⟩ := y
        obtain ⟨wx, ex, rx⟩ := ra.get' (y1 xs (SqT.of (s2 _ _ (s1 _ _ ha))))
        obtain ⟨wz, ez, rz⟩ := rb.get' (y2 ys (SqT.of (s2 _ _ (s1 _ _ hb))))
        exact ⟨_, _, (Ext.refl s2).laid hT _, zipD_at ex ez, Rp.newT (s2.free hT) (.cons (rx.mono s1) (.cons (rz.mono s1) .nil))⟩
    · cases e⟩

/-! ### comprehensions -/
def wipeE (ev : Ev) : List Nat → Ev
  | [] => ev
  | v :: vs => (wipeE ev vs).set v none
theorem REnv.wipe {Hs : Hp} {σ : L2.St} {ev : Ev} (h : REnv Hs σ ev) : ∀ vs : List Nat, REnv Hs (L2.wipe σ vs) (wipeE ev vs)
  | [] => h
  | v :: vs => (REnv.wipe h vs).unset
theorem wipe_at (σ : L2.St) : ∀ (vs : List Nat) (j : Nat), (wipe σ vs)[j]? = if j ∈ vs ∧ j < σ.length then some none else σ[j]?
  | [], j => by simp [wipe]
  | v :: vs, j => by
    have ih := wipe_at σ vs j
    have hl := wipe_length σ vs
    unfold wipe
    by_cases hj : v = j
    · subst hj
      by_cases hb : v < σ.length
      · rw [List.getElem?_set_self (by omega)]
        simp [hb]
      · rw [List.getElem?_eq_none (by simp; omega)]
        simp [hb]
    · rw [List.getElem?_set_ne hj, ih]
      by_cases hm : j ∈ vs
      · simp [hm]
      · simp [hm, Ne.symm hj]
theorem wipe_set {σ : L2.St} {vs : List Nat} {i : Nat} {o : Option V} (h : i ∈ vs) : wipe (σ.set i o) vs = wipe σ vs := by
  apply List.ext_getElem?
  intro j
  rw [wipe_at, wipe_at, List.length_set]
  by_cases hj : j ∈ vs ∧ j < σ.length
  · rw [if_pos hj, if_pos hj]
  · rw [if_neg hj, if_neg hj]
    by_cases e : i = j
    · subst e
      have hn : ¬ i < σ.length := fun z => hj ⟨h, z⟩
      rw [List.getElem?_eq_none (by simp; omega), List.getElem?_eq_none (by omega)]
    · rw [List.getElem?_set_ne e]
theorem wipe_setAll {vs : List Nat} : ∀ (l : List (Nat × V)) (σ : L2.St), (∀ p ∈ l, p.1 ∈ vs) → wipe (setAll σ l) vs = wipe σ vs
  | [], _, _ => rfl
  | (i, v) :: r, σ, h => by
    rw [setAll, wipe_setAll r _ fun p hp => h p (List.mem_cons_of_mem _ hp), wipe_set (h (i, v) List.mem_cons_self)]
theorem wipe_wipe (σ : L2.St) (vs : List Nat) : wipe (wipe σ vs) vs = wipe σ vs := by
  apply List.ext_getElem?
  intro j
  rw [wipe_at, wipe_length, wipe_at]
  by_cases h : j ∈ vs ∧ j < σ.length
  · rw [if_pos h, if_pos h]
  · rw [if_neg h, if_neg h]
def compL (as : PyData → Option (List PyData)) (is : List Nat) (ft : Ev → Option Bool) (fe : Ev → Option PyData) (ev : Ev) : List PyData → Option (List PyData)
  | [] => some []
  | w :: ws => (as w).bind fun us => (ft (setAllE ev (is.zip us))).bind fun b => if b = true then (fe (setAllE ev (is.zip us))).bind fun y => (compL as is ft fe ev ws).bind fun ys => some (y :: ys) else compL as is ft fe ev ws
def fComp (fit : Ev → Option (List PyData)) (as : PyData → Option (List PyData)) (is own : List Nat) (ft : Ev → Option Bool) (fe : Ev → Option PyData) : Ev → Option PyData := fun ev =>
  (fit ev).bind fun ws => if ws.length ≤ sizeLine then (compL as is ft fe (wipeE ev own) ws).bind fun ys => some (.list ys) else none
def TPu (tt : TT) (ft : Ev → Option Bool) : Prop := ∀ σ H Q, tPuT ft σ H Q → tt σ H Q
theorem tp_yes : TPu tYes (fun _ => some true) := fun σ H Q ⟨Hs, ev, b, s, re, e, q⟩ => by cases e; exact q H Hs (.refl s)
theorem tp_self {ft : Ev → Option Bool} : TPu (tPuT ft) ft := fun _ _ _ q => q
/-- what a comprehension has made so far -/
structure CInv (H1 Hs1 : Hp) (D : Addr) (as : PyData → Option (List PyData)) (is : List Nat) (ft : Ev → Option Bool) (fe : Ev → Option PyData) (evw : Ev) (ws out : List PyData) (i : Nat) (H : Hp) (Hs : Hp) (acc : List PyData) (vs : List V) : Prop where
  big : Same H1 H
  small : Same Hs1 Hs
  sub : Same Hs H
  new : ∀ b, Hs1 b = none → H1 b ≠ none → Hs b = none
  dn : Hs D = none
  at_ : H D = some (.lst vs)
  rp : RpAll Hs acc vs
  le : i ≤ ws.length
  sz : acc.length ≤ i
  rest : ∃ rest, compL as is ft fe evw (ws.drop i) = some rest ∧ acc ++ rest = out
theorem lc_use {fit : Ev → Option (List PyData)} {as : PyData → Option (List PyData)} {is own : List Nat} {ft : Ev → Option Bool} {fe : Ev → Option PyData} {g : TG} {tt : TT} (hg : GPu g is as) (ht : TPu tt ft) (hi : ∀ i ∈ is, i ∈ own) {σ : L2.St} {H : Hp} {Q : VK} (h : tPu (fComp fit as is own ft fe) σ H Q) : tLc (tPuI fit) g tt (tPu fe) own σ H Q := by
  obtain ⟨Hs, ev, w, s, re, e, q⟩ := h
  obtain ⟨ws, e1, e⟩ := bindS e
  split at e
  case isFalse => cases e
  rename_i hsz
  obtain ⟨out, e2, e⟩ := bindS e
  cases e
  refine ⟨Hs, ev, ws, s, re, e1, fun J H1 Hs1 x1 wk D hD => ?_⟩
  have rew : REnv Hs1 (wipe σ own) (wipeE ev own) := (re.mono x1.small).wipe own
  refine ⟨fun i m H => m = ws.length - i ∧ ∃ Hs acc vs, CInv H1 Hs1 D as is ft fe (wipeE ev own) ws out i H Hs acc vs, ⟨ws.length, by simp, Hs1, [], [], ?_⟩, ?_⟩
  · refine ⟨fun b o e => by rw [upd_ne (ne_of_none e hD)]; exact e, Same.refl _, fun b o e => by rw [upd_ne (ne_of_none (x1.sub _ _ e) hD)]; exact x1.sub _ _ e, fun b h _ => h, x1.sub.free hD, upd_same, .nil, Nat.zero_le _, Nat.le_refl _, out, ?_, List.nil_append _⟩
    rw [List.drop_zero]
    exact e2
  · rintro i m H2 ⟨rfl, Hs2, acc, vs, C⟩
    obtain ⟨rest, er, eo⟩ := C.rest
    by_cases hlt : i < ws.length
    · refine .inr ⟨wk.goes i H2 hlt (C.small.trans C.sub), fun H' => ∃ Hs acc vs, CInv H1 Hs1 D as is ft fe (wipeE ev own) ws out (i + 1) H' Hs acc vs, fun H' ⟨Hs', acc', vs', C'⟩ => ⟨ws.length - (i + 1), by omega, rfl, Hs', acc', vs', C'⟩, fun x H3 y => ?_⟩
      obtain ⟨Hs3, w, x3, ew, rw3⟩ := wk.yields i H2 Hs2 x H3 hlt C.small C.sub y
      have ed : ws.drop i = w :: ws.drop (i + 1) := by
        rw [List.drop_eq_getElem_cons hlt]
        have : ws[i] = w := by
          rw [List.getElem?_eq_getElem hlt] at ew
          exact Option.some.inj ew
        rw [this]
      rw [ed] at er
      obtain ⟨us, eu, er⟩ := bindS (show (as w).bind _ = some rest from er)
      obtain ⟨b, eb, er⟩ := bindS er
      refine hg _ H3 Hs3 w x us _ x3.sub rw3 eu fun vs3 rvs => ?_
      have re3 : REnv Hs3 (setAll (wipe σ own) (is.zip vs3)) (setAllE (wipeE ev own) (is.zip us)) := (rew.mono (C.small.trans x3.small)).setAll rvs
      refine ⟨?_, ht _ _ _ ⟨Hs3, _, b, x3.sub, re3, eb, fun H4 Hs4 x4 => ?_⟩⟩
      · rw [wipe_setAll _ _ fun p hp => hi _ (List.of_mem_zip hp).1, wipe_wipe]
      · have x34 := x3.trans x4
        have step : ∀ {H5 Hs5 : Hp}, Ext H2 Hs2 H5 Hs5 → Same H1 H5 ∧ Same Hs1 Hs5 ∧ (∀ b, Hs1 b = none → H1 b ≠ none → Hs5 b = none) ∧ Hs5 D = none ∧ H5 D = some (.lst vs) := fun {H5 Hs5} x =>
          ⟨C.big.trans x.big, C.small.trans x.small, fun b h h' => x.new b (C.new b h h') fun z => h' (C.big.free z), x.new D C.dn (by rw [C.at_]; exact fun z => nomatch z), x.big _ _ C.at_⟩
        cases b with
        | false =>
          rw [if_neg Bool.false_ne_true] at er
          obtain ⟨a1, a2, a3, a4, a5⟩ := step x34
          exact iteF ⟨Hs4, acc, vs, a1, a2, x34.sub, a3, a4, a5, C.rp.mono x34.small, hlt, Nat.le_succ_of_le C.sz, rest, er, eo⟩
        | true =>
          rw [if_pos rfl] at er
          obtain ⟨y5, ey, er⟩ := bindS er
          obtain ⟨ys, eys, er⟩ := bindS er
          cases er
          refine iteT ⟨Hs4, _, y5, x4.sub, re3.mono x4.small, ey, fun v H5 Hs5 x5 r5 => ?_⟩
          have x35 := x34.trans x5
          obtain ⟨a1, a2, a3, a4, a5⟩ := step x35
          have hlen : vs.length = acc.length := (C.rp.len).symm
          refine ⟨vs, a5, by have := C.sz; omega, Hs5, acc ++ [y5], vs ++ [v], ?_⟩
          have nD : ∀ {b : Addr} {o : HO}, Hs5 b = some o → b ≠ D := fun {b o} z => ne_of_none z a4
          refine ⟨fun b o z => ?_, a2, fun b o z => ?_, a3, a4, upd_same, (C.rp.mono x35.small).append (.cons r5 .nil), hlt, ?_, ys, eys, ?_⟩
          · rw [upd_ne (ne_of_none z hD)]; exact a1 _ _ z
          · rw [upd_ne (nD z)]; exact x35.sub _ _ z
          · rw [List.length_append]; have := C.sz; simp; omega
          · rw [List.append_assoc]; exact eo
    · have ei : i = ws.length := by have := C.le; omega
      subst ei
      refine .inl ⟨wk.stops H2 (C.small.trans C.sub), ?_⟩
      rw [List.drop_length] at er
      cases er
      rw [List.append_nil] at eo
      subst eo
      refine q (.ref D) H2 (upd Hs2 D (.lst vs)) ⟨x1.big.trans C.big, (x1.small.trans C.small).trans fun b o z => ?_, fun b o z => ?_, fun b h h' => ?_⟩ (Rp.newL C.dn C.rp)
      · rw [upd_ne (ne_of_none z C.dn)]; exact z
      · by_cases hb : b = D
        · subst hb; rw [upd_same] at z; rw [← z]; exact C.at_
        · rw [upd_ne hb] at z; exact C.sub _ _ z
      · have hb : b ≠ D := fun z => by subst z; exact h' (x1.big.free hD)
        rw [upd_ne hb]
        exact C.new b (x1.new b h h') fun z => h' (x1.big.free z)
theorem pu_lc {elt tg iter : Expr} {ifs : List Expr} {scope : Scope} {own : List (Str × Nat)} {pos : Pos} {fit : Ev → Option (List PyData)} {as : PyData → Option (List PyData)} {is : List Nat} {ft : Ev → Option Bool} {fe : Ev → Option PyData} {g : TG} {tt : TT}
    (hc : X.calm = true) (hN : X.N.Nodup) (hi : PUI X tg iter fit) (ok : BlkOk X.N X.env.scope scope own) (gp : GPu g is as) (tp : TPu tt ft) (hown : ∀ i ∈ is, i ∈ own.map (·.2))
    (hg : ∀ (s : Shared) (H : Hp) (C : Addr) (cl : List (Str × Addr)) (fp : List Addr), PG (X.blk s H scope (compEnvC scope cl C X.env) fp) tg g) (ht : ∀ (s : Shared) (H : Hp) (C : Addr) (cl : List (Str × Addr)) (fp : List Addr), PTs (X.blk s H scope (compEnvC scope cl C X.env) fp) ifs tt)
    (he : ∀ (s : Shared) (H : Hp) (C : Addr) (cl : List (Str × Addr)) (fp : List Addr), PU (X.blk s H scope (compEnvC scope cl C X.env) fp) elt fe) (hs : ∀ x, foldedSetIterable iter X.env x = pure x := by intro _; rfl) :
    PU X (.ListComp elt [⟨tg, iter, ifs, 0⟩] scope pos) (fComp fit as is (own.map (·.2)) ft fe) :=
  ⟨conv (pe_lc hc hN hi.pi ok hg ht (fun s H C cl fp => (he s H C cl fp).pe) hs) fun σ H Q h => lc_use gp tp hown h⟩
end

/-! ### statements -/
inductive Out where
  | nx (ev : Ev)
  | rt (w : PyData)
def OutK (D : Ends) (σ : L2.St) (H Hs : Hp) : Out → Prop
  | .nx ev' => ∀ σ' H' Hs', Ext H Hs H' Hs' → REnv Hs' σ' ev' → σ'.length = σ.length → D.nx σ' H'
  | .rt w => ∀ v H' Hs', Ext H Hs H' Hs' → Rp Hs' w v → D.rt v H'
def tPuS (F : Ev → Option Out) : TS := fun D σ H => ∃ (Hs : Hp) (ev : Ev) (o : Out), Same Hs H ∧ REnv Hs σ ev ∧ F ev = some o ∧ OutK D σ H Hs o
structure PUS (X : Cx) (st : Stmt) (F : Ev → Option Out) : Prop where
  ps : PS X st (tPuS F)
structure PUSs (X : Cx) (sts : List Stmt) (F : Ev → Option Out) : Prop where
  pss : PSs X sts (tPuS F)
theorem convS {X : Cx} {st : Stmt} {t t' : TS} (h : PS X st t) (k : ∀ D σ H, t' D σ H → t D σ H) : PS X st t' := ⟨fun pins s σ H D I q => h.run pins s σ H D I (k D σ H q)⟩
theorem convSs {X : Cx} {st : List Stmt} {t t' : TS} (h : PSs X st t) (k : ∀ D σ H, t' D σ H → t D σ H) : PSs X st t' := ⟨fun pins s σ H D I q => h.run pins s σ H D I (k D σ H q)⟩
theorem OutK.later {D : Ends} {σ σ' : L2.St} {H Hs H' Hs' : Hp} {o : Out} (x : Ext H Hs H' Hs') (hl : σ'.length = σ.length) (k : OutK D σ H Hs o) : OutK D σ' H' Hs' o := by
  cases o with
  | nx ev' => exact fun σ2 H2 Hs2 x2 r h => k σ2 H2 Hs2 (x.trans x2) r (h.trans hl)
  | rt w => exact fun v H2 Hs2 x2 r => k v H2 Hs2 (x.trans x2) r
section
variable {X : Cx}
def fNext : Ev → Option Out := fun ev => some (.nx ev)
theorem puss_nil : PUSs X [] fNext := ⟨convSs pss_nil fun D σ H ⟨Hs, ev, o, s, re, e, q⟩ => by cases e; exact q σ H Hs (.refl s) re rfl⟩
def fSeq (F G : Ev → Option Out) : Ev → Option Out := fun ev => (F ev).bind fun o => match o with | .nx ev' => G ev' | .rt w => some (.rt w)
theorem puss_cons {st : Stmt} {sts : List Stmt} {F G : Ev → Option Out} (h : PUS X st F) (hr : PUSs X sts G) : PUSs X (st :: sts) (fSeq F G) :=
  ⟨convSs (pss_cons h.ps hr.pss) fun D σ H ⟨Hs, ev, o, s, re, e, q⟩ => by
    obtain ⟨o1, e1, e⟩ := bindS e
    refine ⟨Hs, ev, o1, s, re, e1, ?_⟩
    cases o1 with
    | nx ev' => exact fun σ' H' Hs' x r hl => ⟨Hs', ev', o, x.sub, r, e, q.later x hl⟩
    | rt w => cases e; exact q⟩
def fSet (i : Nat) (f : Ev → Option PyData) : Ev → Option Out := fun ev => (f ev).bind fun w => some (.nx (ev.set i (some w)))
theorem pus_set {i : Nat} {x : Str} {e : Expr} {f : Ev → Option PyData} {pos pos' : Pos} (hN : X.N.Nodup) (hi : X.N[i]? = some x) (hx : Loc X.env.scope x) (h : PU X e f) (hs : swapsWith e (some (.Name x pos')) pos.line X.env = pure false := by rfl) (hf : X.fn x = true ∨ X.env.scope.names.lookup x = some .local := by first | exact .inl rfl | exact .inr rfl | assumption) :
    PUS X (.Assign [.Name x pos'] e pos) (fSet i f) :=
  ⟨convS (ps_set hN hi hx h.pe hs hf) fun D σ H ⟨Hs, ev, o, s, re, e, q⟩ => by
    obtain ⟨w, e1, e⟩ := bindS e
    cases e
    exact ⟨Hs, ev, w, s, re, e1, fun v H' Hs' x r => q _ H' Hs' x ((re.mono x.small).set r) (by rw [List.length_set])⟩⟩
/-- name = [..] -/
theorem pus_setLc {i : Nat} {y : Str} {py : Pos} {elt tg iter : Expr} {ifs : List Expr} {scope : Scope} {own : List (Str × Nat)} {pos spos : Pos} {fit : Ev → Option (List PyData)} {as : PyData → Option (List PyData)} {is : List Nat} {ft : Ev → Option Bool} {fe : Ev → Option PyData} {g : TG} {tt : TT}
    (hc : X.calm = true) (hN : X.N.Nodup) (hy : X.N[i]? = some y) (hyl : X.env.scope.names.lookup y = some .local)
    (hsw : swapsWith (.ListComp elt [⟨tg, iter, ifs, 0⟩] scope pos) (some (.Name y py)) spos.line X.env = pure true) (hi : PUI X tg iter fit) (ok : BlkOk X.N X.env.scope scope own) (gp : GPu g is as) (tp : TPu tt ft) (hown : ∀ i ∈ is, i ∈ own.map (·.2))
    (hg : ∀ (s : Shared) (H : Hp) (C : Addr) (cl : List (Str × Addr)) (fp : List Addr), PG (X.blk s H scope (compEnvC scope cl C X.env) fp) tg g) (ht : ∀ (s : Shared) (H : Hp) (C : Addr) (cl : List (Str × Addr)) (fp : List Addr), PTs (X.blk s H scope (compEnvC scope cl C X.env) fp) ifs tt)
    (he : ∀ (s : Shared) (H : Hp) (C : Addr) (cl : List (Str × Addr)) (fp : List Addr), PU (X.blk s H scope (compEnvC scope cl C X.env) fp) elt fe) (hs : ∀ x, foldedSetIterable iter X.env x = pure x := by intro _; rfl) :
    PUS X (.Assign [.Name y py] (.ListComp elt [⟨tg, iter, ifs, 0⟩] scope pos) spos) (fSet i (fComp fit as is (own.map (·.2)) ft fe)) :=
  ⟨convS (ps_setLc hc hN hy hyl hsw hi.pi ok hg ht (fun s H C cl fp => (he s H C cl fp).pe) hs) fun D σ H ⟨Hs, ev, o, s, re, e, q⟩ => by
    obtain ⟨w, e1, e⟩ := bindS e
    cases e
    exact lc_use gp tp hown (Q := fun x H1 => gName i x σ H1 D.nx) ⟨Hs, ev, w, s, re, e1, fun v H' Hs' x r => q _ H' Hs' x ((re.mono x.small).set r) (by rw [List.length_set])⟩⟩
def fRet (f : Ev → Option PyData) : Ev → Option Out := fun ev => (f ev).bind fun w => some (.rt w)
theorem pus_ret {e : Expr} {f : Ev → Option PyData} {pos : Pos} (h : PU X e f) : PUS X (.Return (some e) pos) (fRet f) :=
  ⟨convS (ps_ret h.pe) fun D σ H ⟨Hs, ev, o, s, re, e, q⟩ => by
    obtain ⟨w, e1, e⟩ := bindS e
    cases e
    exact ⟨Hs, ev, w, s, re, e1, fun v H' Hs' x r => q v H' Hs' x r⟩⟩
def fIfS (c : Ev → Option Bool) (F G : Ev → Option Out) : Ev → Option Out := fun ev => (c ev).bind fun b => if b = true then F ev else G ev
theorem pus_if {c : Expr} {a b : List Stmt} {fc : Ev → Option Bool} {F G : Ev → Option Out} {pos : Pos} (hc : PUT X c fc) (ha : PUSs X a F) (hb : PUSs X b G) : PUS X (.If c a b pos) (fIfS fc F G) :=
  ⟨convS (ps_if hc.pt ha.pss hb.pss) fun D σ H ⟨Hs, ev, o, s, re, e, q⟩ => by
    obtain ⟨k, e1, e⟩ := bindS e
    refine ⟨Hs, ev, k, s, re, e1, fun H' Hs' x => ?_⟩
    cases k with
    | true => exact iteT ⟨Hs', ev, o, x.sub, re.mono x.small, e, q.later x rfl⟩
    | false => exact iteF ⟨Hs', ev, o, x.sub, re.mono x.small, e, q.later x rfl⟩⟩
/-- a raise that is not reached -/
theorem pus_no {st : Stmt} : PUS X st (fun _ => none) := ⟨convS ps_never fun D σ H ⟨Hs, ev, o, s, re, e, q⟩ => by cases e⟩
def forL (as : PyData → Option (List PyData)) (is : List Nat) (F : Ev → Option Out) : List PyData → Ev → Option Out
  | [], ev => some (.nx ev)
  | w :: ws, ev => (as w).bind fun us => (F (setAllE ev (is.zip us))).bind fun o => match o with | .nx ev' => forL as is F ws ev' | .rt w => some (.rt w)
def fFor (fit : Ev → Option (List PyData)) (as : PyData → Option (List PyData)) (is : List Nat) (F : Ev → Option Out) : Ev → Option Out := fun ev => (fit ev).bind fun ws => forL as is F ws ev
theorem for_use {fit : Ev → Option (List PyData)} {as : PyData → Option (List PyData)} {is : List Nat} {F : Ev → Option Out} {g : TG} (gp : GPu g is as) {D : Ends} {σ : L2.St} {H : Hp} (h : tPuS (fFor fit as is F) D σ H) : tFor (tPuI fit) g (tPuS F) D σ H := by
  obtain ⟨Hs, ev, o, s, re, e, q⟩ := h
  obtain ⟨ws, e1, e⟩ := bindS e
  refine ⟨Hs, ev, ws, s, re, e1, fun J H1 Hs1 x1 wk => ?_⟩
  refine ⟨fun i m σ2 H2 => m = ws.length - i ∧ i ≤ ws.length ∧ ∃ Hs2 ev2, Ext H Hs H2 Hs2 ∧ Same Hs1 Hs2 ∧ REnv Hs2 σ2 ev2 ∧ σ2.length = σ.length ∧ forL as is F (ws.drop i) ev2 = some o,
    ⟨ws.length, by simp, Nat.zero_le _, Hs1, ev, x1, Same.refl _, re.mono x1.small, rfl, by rw [List.drop_zero]; exact e⟩, ?_⟩
  rintro i m σ2 H2 ⟨rfl, hle, Hs2, ev2, x2, s12, re2, hl2, e2⟩
  by_cases hlt : i < ws.length
  · refine .inr ⟨wk.goes i H2 hlt (s12.trans x2.sub), fun σ' H' => ∃ Hs2 ev2, Ext H Hs H' Hs2 ∧ Same Hs1 Hs2 ∧ REnv Hs2 σ' ev2 ∧ σ'.length = σ.length ∧ forL as is F (ws.drop (i + 1)) ev2 = some o, fun σ' H' h => ⟨ws.length - (i + 1), by omega, rfl, hlt, h⟩, fun x H3 y => ?_⟩
    obtain ⟨Hs3, w, x3, ew, rw3⟩ := wk.yields i H2 Hs2 x H3 hlt s12 x2.sub y
    have ed : ws.drop i = w :: ws.drop (i + 1) := by
      rw [List.drop_eq_getElem_cons hlt]
      have : ws[i] = w := by
        rw [List.getElem?_eq_getElem hlt] at ew
        exact Option.some.inj ew
      rw [this]
    rw [ed] at e2
    obtain ⟨us, eu, e2⟩ := bindS (show (as w).bind _ = some o from e2)
    obtain ⟨o2, eo, e2⟩ := bindS e2
    refine gp _ H3 Hs3 w x us _ x3.sub rw3 eu fun vs3 rvs => ?_
    refine ⟨Hs3, _, o2, x3.sub, (re2.mono x3.small).setAll rvs, eo, ?_⟩
    have x23 := x2.trans x3
    cases o2 with
    | nx ev' => exact fun σ' H' Hs' x' r hl => ⟨Hs', ev', x23.trans x', (s12.trans x3.small).trans x'.small, r, by rw [hl, setAll_len, hl2], e2⟩
    | rt w =>
      cases e2
      exact fun v H' Hs' x' r => q v H' Hs' (x23.trans x') r
  · have ei : i = ws.length := by omega
    subst ei
    refine .inl ⟨wk.stops H2 (s12.trans x2.sub), ?_⟩
    rw [List.drop_length] at e2
    cases e2
    exact q σ2 H2 Hs2 x2 re2 hl2
theorem pus_for {tg iter : Expr} {body : List Stmt} {fit : Ev → Option (List PyData)} {as : PyData → Option (List PyData)} {is : List Nat} {F : Ev → Option Out} {g : TG} {pos : Pos} (hp : PassesOwn (model X.prog X.w) X.A X.env X.xe) (hc : X.calm = true) (hi : PUI X tg iter fit) (gp : GPu g is as) (hg : PG X tg g) (hb : PUSs X body F) (hs : ∀ x, foldedSetIterable iter X.env x = pure x := by intro _; rfl) :
    PUS X (.For tg iter body [] pos) (fFor fit as is F) := ⟨convS (ps_for hp hc hi.pi hg hb.pss hs) fun D σ H h => for_use gp h⟩
/-- while, a number of turns at most -/
def whileN (fc : Ev → Option Bool) (F : Ev → Option Out) : Nat → Ev → Option Out
  | 0, _ => none
  | n + 1, ev => (fc ev).bind fun b => if b = true then (F ev).bind fun o => match o with | .nx ev' => whileN fc F n ev' | .rt w => some (.rt w) else some (.nx ev)
theorem while_use {fc : Ev → Option Bool} {F : Ev → Option Out} {N : Ev → Nat} {D : Ends} {σ : L2.St} {H : Hp} (h : tPuS (fun ev => whileN fc F (N ev) ev) D σ H) : tWhile (tPuT fc) (tPuS F) D σ H := by
  obtain ⟨Hs, ev, o, s, re, e, q⟩ := h
  refine ⟨fun m σ2 H2 => ∃ Hs2 ev2, Ext H Hs H2 Hs2 ∧ REnv Hs2 σ2 ev2 ∧ σ2.length = σ.length ∧ whileN fc F m ev2 = some o, ⟨N ev, Hs, ev, .refl s, re, rfl, e⟩, ?_⟩
  rintro m σ2 H2 ⟨Hs2, ev2, x2, re2, hl2, e2⟩
  cases m with
  | zero => cases e2
  | succ m =>
    obtain ⟨b, eb, e2⟩ := bindS (show (fc ev2).bind _ = some o from e2)
    refine ⟨Hs2, ev2, b, x2.sub, re2, eb, fun H3 Hs3 x3 => ?_⟩
    have x23 := x2.trans x3
    cases b with
    | true =>
      rw [if_pos rfl] at e2
      obtain ⟨o2, eo, e2⟩ := bindS e2
      refine iteT ⟨fun σ' H' => ∃ Hs2 ev2, Ext H Hs H' Hs2 ∧ REnv Hs2 σ' ev2 ∧ σ'.length = σ.length ∧ whileN fc F m ev2 = some o, fun σ' H' h => ⟨m, Nat.lt_succ_self _, h⟩, Hs3, ev2, o2, x3.sub, re2.mono x3.small, eo, ?_⟩
      cases o2 with
      | nx ev' => exact fun σ' H' Hs' x' r hl => ⟨Hs', ev', x23.trans x', r, by rw [hl, hl2], e2⟩
      | rt w =>
        cases e2
        exact fun v H' Hs' x' r => q v H' Hs' (x23.trans x') r
    | false =>
      rw [if_neg Bool.false_ne_true] at e2
      cases e2
      exact iteF (q σ2 H3 Hs3 x23 (re2.mono x3.small) hl2)
theorem pus_while {c : Expr} {body : List Stmt} {fc : Ev → Option Bool} {F : Ev → Option Out} {pos : Pos} (N : Ev → Nat) (hp : PassesOwn (model X.prog X.w) X.A X.env X.xe) (hc : PUT X c fc) (hb : PUSs X body F) : PUS X (.While c body [] pos) (fun ev => whileN fc F (N ev) ev) :=
  ⟨convS (ps_while hp hc.pt hb.pss) fun D σ H h => while_use h⟩
end

/-! ### defs -/
def ev0 (N : List Str) (ws : List PyData) : Ev := ws.map some ++ List.replicate (N.length - ws.length) none
theorem REnv.start {Hs : Hp} {N : List Str} {ws : List PyData} {vs : List V} (r : RpAll Hs ws vs) : REnv Hs (L2.start N vs) (ev0 N ws) := by
  have hl := r.len
  refine ⟨?_, fun i w e => ?_⟩
  · unfold ev0 L2.start
    simp only [List.length_append, List.length_map, List.length_replicate]
    omega
  · unfold ev0 at e
    unfold L2.start
    by_cases hi : i < ws.length
    · rw [List.getElem?_append_left (by simpa using hi), List.getElem?_map] at e
      rw [List.getElem?_append_left (by simp; omega), List.getElem?_map]
      cases h : ws[i]? with
      | none => rw [h] at e; cases e
      | some d =>
        rw [h] at e
        cases e
        obtain ⟨v, h1, h2⟩ := r.get h
        exact ⟨v, by rw [h1]; rfl, h2⟩
    · rw [List.getElem?_append_right (by simpa using hi), List.getElem?_replicate] at e
      split at e <;> cases e
/-- what a def's body is worth on its arguments -/
def runF (N : List Str) (n : Nat) (F : Ev → Option Out) (ws : List PyData) : Option PyData := if ws.length = n then (F (ev0 N ws)).bind fun o => match o with | .nx _ => some .none | .rt w => some w else none
section
variable {P : Program} {w : World} {K : PySem.W.Frag} {mg : Str → Option Value} {base : Heap}
theorem spP_len {g : List PyData → Option PyData} {n : Nat} (h : ∀ ws w, g ws = some w → ws.length = n) {vs : List V} {H : Hp} {Q : VK} {E : XK} (q : spP g vs H Q E) : vs.length = n := by
  obtain ⟨Hs, ws, w, s, r, e, q⟩ := q
  rw [← r.len]
  exact h ws w e
theorem body_use {N ps : List Str} {F : Ev → Option Out} {vs : List V} {H : Hp} {Q : VK} {E : XK} (h : spP (runF N ps.length F) vs H Q E) : tPuS F { nx := fun _ H' => Q .non H', rt := Q } (L2.start N vs) H := by
  obtain ⟨Hs, ws, w, s, r, e, q⟩ := h
  unfold runF at e
  split at e
  · obtain ⟨o, e1, e⟩ := bindS e
    refine ⟨Hs, _, o, s, REnv.start r, e1, ?_⟩
    cases o with
    | nx ev' => cases e; exact fun σ' H' Hs' x _ _ => q .non H' Hs' x .non
    | rt u => cases e; exact fun v H' Hs' x r' => q v H' Hs' x r'
  · cases e
theorem runF_len {N : List Str} {n : Nat} {F : Ev → Option Out} {ws : List PyData} {w : PyData} (h : runF N n F ws = some w) : ws.length = n := by
  unfold runF at h
  split at h
  · assumption
  · cases h
/-- a def by its body as a function -/
theorem pu_def {x qual : Str} {st : Stmt} {f : Addr} {fd : FuncData} {N ps : List Str} {k : Nat} {F : Ev → Option Out} (Fn : Fun K x qual st f fd) (S : FnScope N ps (defScope st))
    (hbody : ∀ (cdv : Value) (A : Around) (outer : List Env) (s : Shared) (H : Hp) (E : XK), Room k (A.deeper (envOfC qual (defScope st) s.heap.objs.size f cdv)) → PUSs (cxOf CX0 P w K mg base N qual (defScope st) f cdv A outer s H E).nox (defBody st) F) :
    FnOk P w K mg base CX0 (k + 1) f fd ps (spP (runF N ps.length F)) :=
  Fn.ok S (fun vs H Q E h => spP_len (fun _ _ => runF_len) h) fun cdv A outer s H vs Q E hr h => ⟨tPuS F, (hbody cdv A outer s H E hr).pss, body_use h⟩
theorem FnOk.spW {CX : CXT} {k : Nat} {f : Addr} {fd : FuncData} {ps : List Str} {g g' : List PyData → Option PyData} (F : FnOk P w K mg base CX k f fd ps (spP g)) (h : ∀ ws w, g' ws = some w → g ws = some w) : FnOk P w K mg base CX k f fd ps (spP g') := F.imp fun _ _ _ _ q => spP_imp h q
end
end Pu

set_option Elab.async false
set_option linter.all false
set_option maxRecDepth 100000
set_option maxHeartbeats 2000000
/-! Where a token is out: replace. -/
namespace Pu
open PySem PySem.Spec PyProof.Rows L2
structure PUET (X : Cx) (e : Expr) (f : Ev → Option PyData) : Prop where
  pe : PET X e (tPu f)
structure PUAT (X : Cx) (es : List Expr) (f : Ev → Option (List PyData)) : Prop where
  pa : PAT X es (tPuA f)
structure PUST (X : Cx) (st : Stmt) (F : Ev → Option Out) : Prop where
  ps : PST X st (tPuS F)
structure PUSsT (X : Cx) (sts : List Stmt) (F : Ev → Option Out) : Prop where
  pss : PSsT X sts (tPuS F)
section
variable {X : Cx}
theorem convET {e : Expr} {t t' : TE} (h : PET X e t) (k : ∀ σ H Q, t' σ H Q → t σ H Q) : PET X e t' := fun pins s σ H Q h0 I q => h pins s σ H Q h0 I (k σ H Q q)
theorem convAT {es : List Expr} {t t' : TA} (h : PAT X es t) (k : ∀ σ H Q, t' σ H Q → t σ H Q) : PAT X es t' := fun pos pins s σ H Q h0 I q => h pos pins s σ H Q h0 I (k σ H Q q)
theorem convST {st : Stmt} {t t' : TS} (h : PST X st t) (k : ∀ D σ H, t' D σ H → t D σ H) : PST X st t' := fun pins s σ H D h0 I q => h pins s σ H D h0 I (k D σ H q)
theorem convSsT {st : List Stmt} {t t' : TS} (h : PSsT X st t) (k : ∀ D σ H, t' D σ H → t D σ H) : PSsT X st t' := fun pins s σ H D h0 I q => h pins s σ H D h0 I (k D σ H q)
theorem puet_of {e : Expr} {f : Ev → Option PyData} (h : PU X e f) : PUET X e f := ⟨CwR.PET.of h.pe⟩
def gRepl (y z : Str) : PyData → Option PyData
  | .str x => if x.length + (x.length + 1) * z.length ≤ 16777216 then some (.str (Txt.replace x y z)) else none
  | _ => none
def fRepl (y z : Str) (f : Ev → Option PyData) : Ev → Option PyData := fun ev => (f ev).bind (gRepl y z)
theorem puet_repl {o : Expr} {f : Ev → Option PyData} {y z : Str} {j k : Nat} {c0 c1 apos pos : Pos} (ho : PU X o f) (hyz : (y == z) = false := by decide)
    (hst : starEach [.Constant (.str y) j c0, .Constant (.str z) k c1] X.env = [(false, eval (.Constant (.str y) j c0) X.env), (false, eval (.Constant (.str z) k c1) X.env)] := by rfl)
    (hbase : attributeBase o "replace" X.env (eval o X.env) = eval o X.env := by rfl) (hline : (apos.endLine == pos.line) = true := by rfl) :
    PUET X (.Call (.Attribute o "replace" apos) [.Constant (.str y) j c0, .Constant (.str z) k c1] [] pos) (fRepl y z f) :=
  ⟨convET (CwR.pet_replC ho.pe hyz hst hbase hline) fun σ H Q ⟨Hs, ev, w, s, re, e, q⟩ => by
    obtain ⟨w0, e1, e⟩ := bindS e
    unfold gRepl at e
    split at e
    · split at e
      · cases e
        exact ⟨Hs, ev, _, s, re, e1, fun v H1 Hs1 x1 r => ⟨_, r.str_of, by assumption, q _ H1 Hs1 x1 (.str _)⟩⟩
      · cases e
    · cases e⟩
theorem pet_ifExp {c a b : Expr} {tA : TT} {ta tb : TE} {pos : Pos} (hc : PT X c tA) (ha : PET X a ta) (hb : PET X b tb) : PET X (.IfExp c a b pos) (tIf tA ta tb) := by
  intro pins s σ H Q h0 I h
  refine wpAny_IfExp (wpAny_mono (PySem.wpAny_toks (hc.run pins s σ H _ I h)) (fun d s1 q => ?_) fun _ _ z => z.2)
  obtain ⟨hk, H1, I1, q1⟩ := q
  cases d with
  | true => exact ha pins s1 σ H1 Q (Nat.le_trans h0 hk) I1 q1
  | false => exact hb pins s1 σ H1 Q (Nat.le_trans h0 hk) I1 q1
theorem puet_ifE {c a b : Expr} {fc : Ev → Option Bool} {fa fb : Ev → Option PyData} {pos : Pos} (hc : PUT X c fc) (ha : PUET X a fa) (hb : PUET X b fb) : PUET X (.IfExp c a b pos) (fIf fc fa fb) :=
  ⟨convET (pet_ifExp hc.pt ha.pe hb.pe) fun σ H Q ⟨Hs, ev, w, s, re, e, q⟩ => by
    obtain ⟨k, e1, e⟩ := bindS e
    refine ⟨Hs, ev, k, s, re, e1, fun H' Hs' ex => ?_⟩
    cases k with
    | true => exact iteT ⟨Hs', ev, w, ex.sub, re.mono ex.small, e, fun v H2 Hs2 ex2 r => q v H2 Hs2 (ex.trans ex2) r⟩
    | false => exact iteF ⟨Hs', ev, w, ex.sub, re.mono ex.small, e, fun v H2 Hs2 ex2 r => q v H2 Hs2 (ex.trans ex2) r⟩⟩
theorem puat_nil : PUAT X [] fNil := ⟨convAT pat_nil fun σ H Q ⟨Hs, ev, ws, s, re, e, q⟩ => by cases e; exact q [] H Hs (.refl s) .nil⟩
theorem puat_cons {e : Expr} {es : List Expr} {f : Ev → Option PyData} {fs : Ev → Option (List PyData)} (h : PUET X e f) (hr : PUAT X es fs) (hs : starEach (e :: es) X.env = (false, eval e X.env) :: starEach es X.env := by rfl) : PUAT X (e :: es) (fCons f fs) :=
  ⟨convAT (pat_cons h.pe hr.pa hs) fun σ H Q ⟨Hs, ev, ws, s, re, e, q⟩ => by
    obtain ⟨w, e1, e⟩ := bindS e
    obtain ⟨ws', e2, e⟩ := bindS e
    cases e
    exact ⟨Hs, ev, w, s, re, e1, fun v H1 Hs1 x1 r1 => ⟨Hs1, ev, ws', x1.sub, re.mono x1.small, e2, fun vs H2 Hs2 x2 r2 => q _ H2 Hs2 (x1.trans x2) (.cons (r1.mono x2.small) r2)⟩⟩⟩
theorem puet_lst {es : List Expr} {fs : Ev → Option (List PyData)} {pos : Pos} (h : PUAT X es fs) : PUET X (.List es pos) (fLst fs) :=
  ⟨convET (pet_lst h.pa) fun σ H Q ⟨Hs, ev, w, s, re, e, q⟩ => by
    obtain ⟨ws, e1, e⟩ := bindS e
    split at e
    · cases e
      exact ⟨Hs, ev, ws, s, re, e1, fun vs H1 Hs1 x1 r => ⟨by rw [← r.len]; assumption, fun p hp => q _ _ _ (x1.laid hp _) (Rp.newL (x1.sub.free hp) r)⟩⟩
    · cases e⟩
theorem pet_tup {es : List Expr} {ta : TA} {x1} {pos : Pos} (h : PAT X es ta) : PET X (.Tuple es x1 pos) (tTup ta) := by
  intro pins s σ H Q h0 I hq
  refine wpAny_Tuple_spliced (thn (h pos pins s σ H _ h0 I hq) fun us s1 ⟨xs, H1, I1, r, z, q⟩ => ⟨by rw [← r.length]; exact z, ?_⟩)
  have hf : H1 s1.heap.objs.size = none := I1.hok.fresh (Nat.le_refl _)
  refine ⟨.ref s1.heap.objs.size, upd H1 s1.heap.objs.size (.tup xs), I1.laid (t' := s1.toks) (fun b u e => Heap.get?_push_of_some _ e) (Nat.le_refl _) ?_, rfl, q _ hf⟩
  exact ⟨z, us, r, ⟨_, Heap.get?_push_size _ rfl, rfl, _, rfl⟩⟩
theorem puet_tup {es : List Expr} {fs : Ev → Option (List PyData)} {x1} {pos : Pos} (h : PUAT X es fs) : PUET X (.Tuple es x1 pos) (fTup fs) :=
  ⟨convET (pet_tup h.pa) fun σ H Q ⟨Hs, ev, w, s, re, e, q⟩ => by
    obtain ⟨ws, e1, e⟩ := bindS e
    split at e
    · cases e
      exact ⟨Hs, ev, ws, s, re, e1, fun vs H1 Hs1 x1 r => ⟨by rw [← r.len]; assumption, fun p hp => q _ _ _ (x1.laid hp _) (Rp.newT (x1.sub.free hp) r)⟩⟩
    · cases e⟩
theorem pust_of {st : Stmt} {F : Ev → Option Out} (h : PUS X st F) : PUST X st F := ⟨PST.of h.ps⟩
theorem pust_ret {e : Expr} {f : Ev → Option PyData} {pos : Pos} (h : PUET X e f) : PUST X (.Return (some e) pos) (fRet f) :=
  ⟨convST (CwR.pst_ret h.pe) fun D σ H ⟨Hs, ev, o, s, re, e, q⟩ => by
    obtain ⟨w, e1, e⟩ := bindS e
    cases e
    exact ⟨Hs, ev, w, s, re, e1, fun v H' Hs' x r => q v H' Hs' x r⟩⟩
theorem pusst_nil : PUSsT X [] fNext := ⟨PSsT.of puss_nil.pss⟩
theorem pusst_cons {st : Stmt} {sts : List Stmt} {F G : Ev → Option Out} (h : PUST X st F) (hr : PUSsT X sts G) : PUSsT X (st :: sts) (fSeq F G) :=
  ⟨convSsT (psst_cons h.ps hr.pss) fun D σ H ⟨Hs, ev, o, s, re, e, q⟩ => by
    obtain ⟨o1, e1, e⟩ := bindS e
    refine ⟨Hs, ev, o1, s, re, e1, ?_⟩
    cases o1 with
    | nx ev' => exact fun σ' H' Hs' x r hl => ⟨Hs', ev', o, x.sub, r, e, q.later x hl⟩
    | rt w => cases e; exact q⟩
theorem pust_if {c : Expr} {a b : List Stmt} {fc : Ev → Option Bool} {F G : Ev → Option Out} {pos : Pos} (hc : PUT X c fc) (ha : PUSsT X a F) (hb : PUSsT X b G) : PUST X (.If c a b pos) (fIfS fc F G) :=
  ⟨convST (CwR.pst_if hc.pt ha.pss hb.pss) fun D σ H ⟨Hs, ev, o, s, re, e, q⟩ => by
    obtain ⟨k, e1, e⟩ := bindS e
    refine ⟨Hs, ev, k, s, re, e1, fun H' Hs' x => ?_⟩
    cases k with
    | true => exact iteT ⟨Hs', ev, o, x.sub, re.mono x.small, e, q.later x rfl⟩
    | false => exact iteF ⟨Hs', ev, o, x.sub, re.mono x.small, e, q.later x rfl⟩⟩
theorem noxT {sts : List Stmt} {t : TS} (h : PSsT X.nox sts t) : PSsT X sts t := fun pins s σ H D h0 I hw =>
  wpAny_mono (h pins s σ H D h0 (I.wish _) hw) (fun _ _ q => q.unwish) fun _ _ z => False.elim z
end
section
variable {P : Program} {w : World} {K : PySem.W.Frag} {mg : Str → Option Value} {base : Heap}
/-- a def by its body as a function; a token is out when it begins -/
theorem pu_defT {x qual : Str} {st : Stmt} {f : Addr} {fd : FuncData} {N ps : List Str} {k : Nat} {F : Ev → Option Out} (Fn : Fun K x qual st f fd) (S : FnScope N ps (defScope st)) (hnc : ∀ y ∈ (defScope st).names, y.2 ≠ .cell) (hps : 1 ≤ ps.length)
    (hbody : ∀ (cdv : Value) (A : Around) (outer : List Env) (s : Shared) (H : Hp) (E : XK), Room k (A.deeper (envOfC qual (defScope st) s.heap.objs.size f cdv)) → PUSsT (cxOf CX0 P w K mg base N qual (defScope st) f cdv A outer s H E).nox (defBody st) F) :
    FnOk P w K mg base CX0 (k + 1) f fd ps (spP (runF N ps.length F)) := by
  obtain ⟨oc, od, kV, doc, pm, an, cdv, ct, osl, rfl, lk, hcd⟩ := Fn.ex
  exact fn_ofT lk hcd S hnc hps (fun vs H Q E h => spP_len (fun _ _ => runF_len) h) fun A outer s H vs Q E hr h => ⟨tPuS F, noxT (hbody cdv A outer s H E hr).pss, body_use h⟩
/-- the same, its promise free -/
theorem Fun.okT {x qual : Str} {st : Stmt} {f : Addr} {fd : FuncData} {N ps : List Str} {k : Nat} {sp : Sp} (Fn : Fun K x qual st f fd) (S : FnScope N ps (defScope st)) (hnc : ∀ y ∈ (defScope st).names, y.2 ≠ .cell) (hps : 1 ≤ ps.length) (len : ∀ vs H Q E, sp vs H Q E → vs.length = ps.length)
    (hbody : ∀ (cdv : Value) (A : Around) (outer : List Env) (s : Shared) (H : Hp) (vs : List V) (Q : VK) (E : XK), Room k (A.deeper (envOfC qual (defScope st) s.heap.objs.size f cdv)) → sp vs H Q E →
      ∃ t, PSsT (cxOf CX0 P w K mg base N qual (defScope st) f cdv A outer s H E).nox (defBody st) t ∧ t { nx := fun _ H' => Q .non H', rt := Q } (L2.start N vs) H) : FnOk P w K mg base CX0 (k + 1) f fd ps sp := by
  obtain ⟨oc, od, kV, doc, pm, an, cdv, ct, osl, rfl, lk, hcd⟩ := Fn.ex
  refine fn_ofT lk hcd S hnc hps len fun A outer s H vs Q E hr hsp => ?_
  obtain ⟨t, h, q⟩ := hbody cdv A outer s H vs Q E hr hsp
  exact ⟨t, noxT h, q⟩
end
end Pu

set_option Elab.async false
set_option linter.all false
set_option maxRecDepth 100000
set_option maxHeartbeats 2000000
/-! A def that keeps a pure promise, by its name; the tactic. -/
namespace Pu
open PySem PySem.Spec PyProof.Rows L2
structure DefP (P : Program) (w : World) (K : PySem.W.Frag) (mg : Str → Option Value) (base : Heap) (x : Str) (k : Nat) (ps : List Str) (g : List PyData → Option PyData) : Prop where
  ex : ∃ (f : Addr) (fd : FuncData), FnOk P w K mg base CX0 k f fd ps (spP g) ∧ mg x = some (.ref f) ∧ PySem.W.keepIn K (.ref f) = true ∧ Binds K fd ps []
theorem DefP.mono {P : Program} {w : World} {K : PySem.W.Frag} {mg : Str → Option Value} {base : Heap} {x : Str} {j k : Nat} {ps : List Str} {g : List PyData → Option PyData} (h : DefP P w K mg base x j ps g) (l : j ≤ k) : DefP P w K mg base x k ps g := by
  obtain ⟨f, fd, F, a, b, c⟩ := h.ex
  exact ⟨f, fd, F.mono l, a, b, c⟩
theorem DefP.imp {P : Program} {w : World} {K : PySem.W.Frag} {mg : Str → Option Value} {base : Heap} {x : Str} {k : Nat} {ps : List Str} {g g' : List PyData → Option PyData} (h : DefP P w K mg base x k ps g) (l : ∀ ws w, g' ws = some w → g ws = some w) : DefP P w K mg base x k ps g' := by
  obtain ⟨f, fd, F, a, b, c⟩ := h.ex
  exact ⟨f, fd, FnOk.spW F l, a, b, c⟩
/-- what is known of a def of the top -/
structure DefAt (K : PySem.W.Frag) (mg : Str → Option Value) (x qual : Str) (st : Stmt) (ps : List Str) : Prop where
  ex : ∃ (f : Addr) (fd : FuncData), Fun K x qual st f fd ∧ mg x = some (.ref f) ∧ Binds K fd ps []
section
variable {X : Cx}
theorem pu_callD {k : Nat} {ps : List Str} {x : Str} {p pos : Pos} {e : Expr} {es : List Expr} {g : List PyData → Option PyData} {fs : Ev → Option (List PyData)} (D : DefP X.prog X.w X.K X.mg X.base x k ps g) (hr : Room k X.A) (hg : Gl X x) (ha : PUA X (e :: es) fs)
    (hdb : (x == ("__debug__" : Str)) = false := by decide) (he : starEach (e :: es) X.env = (false, eval e X.env) :: starEach es X.env := by rfl) (hpl : (backTo pos (starEach es X.env)).any (·.1) = false := by rfl) :
    PU X (.Call (.Name x p) (e :: es) [] pos) (fCall g fs) := by
  obtain ⟨f, fd, F, hm, hk, hb⟩ := D.ex
  exact pu_call F hr hg hm hk hb pass0 ha hdb he hpl
theorem u64 {k : Nat} {A : Around} (r : Room k A) : A.units + 64 < cLine := r.units
theorem u1 {k : Nat} {A : Around} (r : Room k A) : A.units + 1 < cLine := by have := r.units; omega
end
/-! ### a, b = e1, e2 -/
section
variable {X : Cx}
def fPar2 (i j : Nat) (fs : Ev → Option (List PyData)) : Ev → Option Out := fun ev => (fs ev).bind fun ws => match ws with | [u, v] => some (.nx ((ev.set i (some u)).set j (some v))) | _ => none
def fPar3 (i j l : Nat) (fs : Ev → Option (List PyData)) : Ev → Option Out := fun ev => (fs ev).bind fun ws => match ws with | [u, v, w] => some (.nx (((ev.set i (some u)).set j (some v)).set l (some w))) | _ => none
theorem pus_par2 {i j : Nat} {x y : Str} {a b : Expr} {fs : Ev → Option (List PyData)} {px py pt pos : Pos} {kt k2 pt2} (hN : X.N.Nodup) (hi : X.N[i]? = some x) (hj : X.N[j]? = some y) (hij : i ≠ j) (hx : X.env.scope.names.lookup x = some .local) (hy : X.env.scope.names.lookup y = some .local) (ha : PUA X [a, b] fs)
    (hc : X.calm = true := by rfl) (hw : swappedStores [.Tuple [.Name x px, .Name y py] kt pt] (.Tuple [a, b] k2 pt2) X.env = pure (some [x, y]) := by rfl) (hs : swapsWithSole [.Tuple [.Name x px, .Name y py] kt pt] (.Tuple [a, b] k2 pt2) pos.line X.env = pure false := by rfl) :
    PUS X (.Assign [.Tuple [.Name x px, .Name y py] kt pt] (.Tuple [a, b] k2 pt2) pos) (fPar2 i j fs) :=
  ⟨convS (ps_par hc hN hi hj hij hx hy ha.pa hw hs) fun D σ H ⟨Hs, ev, o, s, re, e, q⟩ => by
    obtain ⟨ws, e1, e⟩ := bindS e
    split at e
    · cases e
      refine ⟨Hs, ev, _, s, re, e1, fun vs H1 Hs1 x1 r => ?_⟩
      obtain ⟨v, z, rfl, r1, r2⟩ := r.two
      exact ⟨v, z, rfl, q _ H1 Hs1 x1 (((re.mono x1.small).set r1).set r2) (by rw [List.length_set, List.length_set])⟩
    · cases e⟩
theorem pus_par3 {i j l : Nat} {x y z : Str} {a b c : Expr} {fs : Ev → Option (List PyData)} {px py pz pt pos : Pos} {kt k2 pt2} (hN : X.N.Nodup) (hi : X.N[i]? = some x) (hj : X.N[j]? = some y) (hl : X.N[l]? = some z) (hij : i ≠ j) (hil : i ≠ l) (hjl : j ≠ l)
    (hx : X.env.scope.names.lookup x = some .local) (hy : X.env.scope.names.lookup y = some .local) (hz : X.env.scope.names.lookup z = some .local) (ha : PUA X [a, b, c] fs)
    (hc : X.calm = true := by rfl) (hw : swappedStores [.Tuple [.Name x px, .Name y py, .Name z pz] kt pt] (.Tuple [a, b, c] k2 pt2) X.env = pure (some [x, y, z]) := by rfl) (hs : swapsWithSole [.Tuple [.Name x px, .Name y py, .Name z pz] kt pt] (.Tuple [a, b, c] k2 pt2) pos.line X.env = pure false := by rfl) :
    PUS X (.Assign [.Tuple [.Name x px, .Name y py, .Name z pz] kt pt] (.Tuple [a, b, c] k2 pt2) pos) (fPar3 i j l fs) :=
  ⟨convS (ps_par3 hc hN hi hj hl hij hil hjl hx hy hz ha.pa hw hs) fun D σ H ⟨Hs, ev, o, s, re, e, q⟩ => by
    obtain ⟨ws, e1, e⟩ := bindS e
    split at e
    · cases e
      refine ⟨Hs, ev, _, s, re, e1, fun vs H1 Hs1 x1 r => ?_⟩
      cases r with
      | cons r1 t =>
        obtain ⟨v2, v3, rfl, r2, r3⟩ := t.two
        exact ⟨_, v2, v3, rfl, q _ H1 Hs1 x1 ((((re.mono x1.small).set r1).set r2).set r3) (by rw [List.length_set, List.length_set, List.length_set])⟩
    · cases e⟩
end
/-! ### comprehensions in short -/
section
variable {X : Cx} {elt iter c : Expr} {scope : Scope} {pos px py kp : Pos} {x y z : Str} {kk : Nat} {fit : Ev → Option (List PyData)} {ft : Ev → Option Bool} {fe : Ev → Option PyData}
theorem pu_lc1 (i : Nat) (hi : X.N[i]? = some x) (hc : X.calm = true) (hN : X.N.Nodup) (hx : Loc scope x) (hf : scope.names.lookup x = some .local) (ok : BlkOk X.N X.env.scope scope [(x, i)]) (h : PUI X (.Name x px) iter fit)
    (he : ∀ (s : Shared) (H : Hp) (C : Addr) (cl : List (Str × Addr)) (fp : List Addr), PU (X.blk s H scope (compEnvC scope cl C X.env) fp) elt fe) (hg : ∀ (s : Shared) (H : Hp) (C : Addr) (cl : List (Str × Addr)) (fp : List Addr), PG (X.blk s H scope (compEnvC scope cl C X.env) fp) (.Name x px) (gName i)) (hs : ∀ x, foldedSetIterable iter X.env x = pure x := by intro _; rfl) :
    PU X (.ListComp elt [⟨.Name x px, iter, [], 0⟩] scope pos) (fComp fit asOne [i] [i] (fun _ => some true) fe) :=
  pu_lc (own := [(x, i)]) hc hN h ok gp_one tp_yes (fun j hj => hj) hg (fun _ _ _ _ _ => pts_nil) he hs
theorem pu_lc1i (i : Nat) (hi : X.N[i]? = some x) (hc : X.calm = true) (hN : X.N.Nodup) (hx : Loc scope x) (hf : scope.names.lookup x = some .local) (ok : BlkOk X.N X.env.scope scope [(x, i)]) (h : PUI X (.Name x px) iter fit)
    (he : ∀ (s : Shared) (H : Hp) (C : Addr) (cl : List (Str × Addr)) (fp : List Addr), PU (X.blk s H scope (compEnvC scope cl C X.env) fp) elt fe) (ht : ∀ (s : Shared) (H : Hp) (C : Addr) (cl : List (Str × Addr)) (fp : List Addr), PUT (X.blk s H scope (compEnvC scope cl C X.env) fp) c ft)
    (hg : ∀ (s : Shared) (H : Hp) (C : Addr) (cl : List (Str × Addr)) (fp : List Addr), PG (X.blk s H scope (compEnvC scope cl C X.env) fp) (.Name x px) (gName i)) (hs : ∀ x, foldedSetIterable iter X.env x = pure x := by intro _; rfl) :
    PU X (.ListComp elt [⟨.Name x px, iter, [c], 0⟩] scope pos) (fComp fit asOne [i] [i] ft fe) :=
  pu_lc (own := [(x, i)]) hc hN h ok gp_one tp_self (fun j hj => hj) hg (fun s H C cl fp => pts_one (ht s H C cl fp).pt) he hs
theorem pu_lc2 (i j : Nat) (hi : X.N[i]? = some x) (hj : X.N[j]? = some y) (hc : X.calm = true) (hN : X.N.Nodup) (ok : BlkOk X.N X.env.scope scope [(x, i), (y, j)]) (h : PUI X (.Tuple [.Name x px, .Name y py] kk kp) iter fit)
    (he : ∀ (s : Shared) (H : Hp) (C : Addr) (cl : List (Str × Addr)) (fp : List Addr), PU (X.blk s H scope (compEnvC scope cl C X.env) fp) elt fe) (hg : ∀ (s : Shared) (H : Hp) (C : Addr) (cl : List (Str × Addr)) (fp : List Addr), PG (X.blk s H scope (compEnvC scope cl C X.env) fp) (.Tuple [.Name x px, .Name y py] kk kp) (gTup X.K 2 (gCons (gName i) (gCons (gName j) gNil)))) (hs : ∀ x, foldedSetIterable iter X.env x = pure x := by intro _; rfl) :
    PU X (.ListComp elt [⟨.Tuple [.Name x px, .Name y py] kk kp, iter, [], 0⟩] scope pos) (fComp fit (asTup 2) [i, j] [i, j] (fun _ => some true) fe) :=
  pu_lc (own := [(x, i), (y, j)]) hc hN h ok gp_tup2 tp_yes (fun k hk => hk) hg (fun _ _ _ _ _ => pts_nil) he hs
theorem pu_lc2i (i j : Nat) (hi : X.N[i]? = some x) (hj : X.N[j]? = some y) (hc : X.calm = true) (hN : X.N.Nodup) (ok : BlkOk X.N X.env.scope scope [(x, i), (y, j)]) (h : PUI X (.Tuple [.Name x px, .Name y py] kk kp) iter fit)
    (he : ∀ (s : Shared) (H : Hp) (C : Addr) (cl : List (Str × Addr)) (fp : List Addr), PU (X.blk s H scope (compEnvC scope cl C X.env) fp) elt fe) (ht : ∀ (s : Shared) (H : Hp) (C : Addr) (cl : List (Str × Addr)) (fp : List Addr), PUT (X.blk s H scope (compEnvC scope cl C X.env) fp) c ft)
    (hg : ∀ (s : Shared) (H : Hp) (C : Addr) (cl : List (Str × Addr)) (fp : List Addr), PG (X.blk s H scope (compEnvC scope cl C X.env) fp) (.Tuple [.Name x px, .Name y py] kk kp) (gTup X.K 2 (gCons (gName i) (gCons (gName j) gNil)))) (hs : ∀ x, foldedSetIterable iter X.env x = pure x := by intro _; rfl) :
    PU X (.ListComp elt [⟨.Tuple [.Name x px, .Name y py] kk kp, iter, [c], 0⟩] scope pos) (fComp fit (asTup 2) [i, j] [i, j] ft fe) :=
  pu_lc (own := [(x, i), (y, j)]) hc hN h ok gp_tup2 tp_self (fun k hk => hk) hg (fun s H C cl fp => pts_one (ht s H C cl fp).pt) he hs
end
section
variable {P : Program} {w : World} {K : PySem.W.Frag} {mg : Str → Option Value} {base : Heap}
theorem defP_of {x qual : Str} {st : Stmt} {N ps : List Str} {k : Nat} {F : Ev → Option Out} (D : DefAt K mg x qual st ps) (S : FnScope N ps (defScope st))
    (hbody : ∀ (f : Addr) (cdv : Value) (A : Around) (outer : List Env) (s : Shared) (H : Hp) (E : XK), Room k (A.deeper (envOfC qual (defScope st) s.heap.objs.size f cdv)) → N.Nodup → PUSs (cxOf CX0 P w K mg base N qual (defScope st) f cdv A outer s H E).nox (defBody st) F) :
    DefP P w K mg base x (k + 1) ps (runF N ps.length F) := by
  obtain ⟨f, fd, Fn, hm, hb⟩ := D.ex
  exact ⟨f, fd, pu_def Fn S fun cdv A outer s H E hr => hbody f cdv A outer s H E hr S.nd, hm, Fn.kp, hb⟩
theorem defPT_of {x qual : Str} {st : Stmt} {N ps : List Str} {k : Nat} {F : Ev → Option Out} (D : DefAt K mg x qual st ps) (S : FnScope N ps (defScope st)) (hnc : ((defScope st).names.all fun y => decide (y.2 ≠ .cell)) = true) (hps : 1 ≤ ps.length)
    (hbody : ∀ (f : Addr) (cdv : Value) (A : Around) (outer : List Env) (s : Shared) (H : Hp) (E : XK), Room k (A.deeper (envOfC qual (defScope st) s.heap.objs.size f cdv)) → N.Nodup → PUSsT (cxOf CX0 P w K mg base N qual (defScope st) f cdv A outer s H E).nox (defBody st) F) :
    DefP P w K mg base x (k + 1) ps (runF N ps.length F) := by
  obtain ⟨f, fd, Fn, hm, hb⟩ := D.ex
  exact ⟨f, fd, pu_defT Fn S (fun y hy => of_decide_eq_true (List.all_eq_true.mp hnc y hy)) hps fun cdv A outer s H E hr => hbody f cdv A outer s H E hr S.nd, hm, Fn.kp, hb⟩
end
end Pu

set_option Elab.async false
set_option linter.all false
set_option maxRecDepth 100000
set_option maxHeartbeats 2000000
/-! One list of the def's own, in slot i, that grows: it stands apart from the pure values until it is let go. -/
namespace Pu
open PySem PySem.Spec PyProof.Rows L2
/-- all but p stays -/
structure ExtB (p : Addr) (H Hs H' Hs' : Hp) : Prop where
  big : ∀ b o, b ≠ p → H b = some o → H' b = some o
  small : Same Hs Hs'
  sub : Same Hs' H'
  pn : Hs' p = none
  new : ∀ b, Hs b = none → H b ≠ none → Hs' b = none
theorem ExtB.trans {p : Addr} {H Hs H1 Hs1 H2 Hs2 : Hp} (a : ExtB p H Hs H1 Hs1) (b : ExtB p H1 Hs1 H2 Hs2) : ExtB p H Hs H2 Hs2 :=
  ⟨fun x o h e => b.big x o h (a.big x o h e), a.small.trans b.small, b.sub, b.pn, fun x h h' => by
    by_cases q : x = p
    · rw [q]; exact b.pn
    · refine b.new x (a.new x h h') fun z => h' ?_
      cases e : H x with
      | none => rfl
      | some o => rw [a.big x o q e] at z; cases z⟩
theorem ExtB.of {p : Addr} {H Hs H' Hs' : Hp} (a : Ext H Hs H' Hs') (hp : Hs p = none) (hq : H p ≠ none) : ExtB p H Hs H' Hs' := ⟨fun b o _ e => a.big b o e, a.small, a.sub, a.new p hp hq, a.new⟩
structure OwnB (i : Nat) (p : Addr) (σ : L2.St) (H Hs : Hp) (ev : Ev) (ws : List PyData) (vs : List V) : Prop where
  sub : Same Hs H
  env : REnv Hs σ (ev.set i none)
  ev_ : ev[i]? = some (some (.list ws))
  sl : σ[i]? = some (some (.ref p))
  at_ : H p = some (.lst vs)
  pn : Hs p = none
  rp : RpAll Hs ws vs
/-- .. and p's list is a value too, behind it -/
structure ExtR (p : Addr) (H Hs H' Hp' : Hp) : Prop where
  big : ∀ b o, b ≠ p → H b = some o → H' b = some o
  small : Same Hs Hp'
  sub : Same Hp' H'
  new : ∀ b, b ≠ p → Hs b = none → H b ≠ none → Hp' b = none
theorem ExtB.ret {p : Addr} {H Hs H1 Hs1 H2 Hs2 : Hp} (a : ExtB p H Hs H1 Hs1) (b : ExtR p H1 Hs1 H2 Hs2) : ExtR p H Hs H2 Hs2 :=
  ⟨fun x o h e => b.big x o h (a.big x o h e), a.small.trans b.small, b.sub, fun x q h h' => b.new x q (a.new x h h') fun z => h' (by
    cases e : H x with
    | none => rfl
    | some o => rw [a.big x o q e] at z; cases z)⟩
inductive OutB where
  | nx (ev : Ev)
  | rt (w : PyData)
  | bk (ev : Ev)
def OutKB (i : Nat) (p : Addr) (D : Ends) (σ : L2.St) (H Hs : Hp) : OutB → Prop
  | .nx ev' => ∀ σ' H' Hs' ws' vs', ExtB p H Hs H' Hs' → OwnB i p σ' H' Hs' ev' ws' vs' → σ'.length = σ.length → D.nx σ' H'
  | .rt w => ∀ v H' Hp', ExtR p H Hs H' Hp' → Rp Hp' w v → D.rt v H'
  | .bk ev' => ∀ σ' H' Hs' ws' vs', ExtB p H Hs H' Hs' → OwnB i p σ' H' Hs' ev' ws' vs' → σ'.length = σ.length → D.bk σ' H'
def tPuB (i : Nat) (F : Ev → Option OutB) : TS := fun D σ H => ∃ (p : Addr) (Hs : Hp) (ev : Ev) (o : OutB) (ws : List PyData) (vs : List V), OwnB i p σ H Hs ev ws vs ∧ F ev = some o ∧ OutKB i p D σ H Hs o
structure PUB (X : Cx) (i : Nat) (st : Stmt) (F : Ev → Option OutB) : Prop where
  ps : PS X st (tPuB i F)
structure PUBs (X : Cx) (i : Nat) (sts : List Stmt) (F : Ev → Option OutB) : Prop where
  pss : PSs X sts (tPuB i F)
/-- the whole, the list with the pure values -/
theorem OwnB.full {i : Nat} {p : Addr} {σ : L2.St} {H Hs : Hp} {ev : Ev} {ws : List PyData} {vs : List V} (B : OwnB i p σ H Hs ev ws vs) : Same (upd Hs p (.lst vs)) H ∧ REnv (upd Hs p (.lst vs)) σ ev ∧ Same Hs (upd Hs p (.lst vs)) := by
  have s2 : Same Hs (upd Hs p (.lst vs)) := fun b o e => by rw [upd_ne (ne_of_none e B.pn)]; exact e
  refine ⟨fun b o e => ?_, ⟨by have := B.env.le; rw [List.length_set] at this; exact this, fun j w e => ?_⟩, s2⟩
  · by_cases h : b = p
    · subst h; rw [upd_same] at e; rw [← e]; exact B.at_
    · rw [upd_ne h] at e; exact B.sub _ _ e
  · by_cases h : i = j
    · subst h
      rw [B.ev_] at e
      cases e
      exact ⟨.ref p, B.sl, .lst upd_same (B.rp.mono s2)⟩
    · obtain ⟨v, h1, h2⟩ := B.env.at_ j w (by rw [List.getElem?_set_ne h]; exact e)
      exact ⟨v, h1, h2.mono s2⟩
theorem OutKB.later {i : Nat} {p : Addr} {D : Ends} {σ σ' : L2.St} {H Hs H' Hs' : Hp} {o : OutB} (x : ExtB p H Hs H' Hs') (hl : σ'.length = σ.length) (k : OutKB i p D σ H Hs o) : OutKB i p D σ' H' Hs' o := by
  cases o with
  | nx ev' => exact fun σ2 H2 Hs2 ws vs x2 B h => k σ2 H2 Hs2 ws vs (x.trans x2) B (h.trans hl)
  | rt w => exact fun v H2 Hp2 x2 r => k v H2 Hp2 (x.ret x2) r
  | bk ev' => exact fun σ2 H2 Hs2 ws vs x2 B h => k σ2 H2 Hs2 ws vs (x.trans x2) B (h.trans hl)
/-- nothing but the heap grew -/
theorem OwnB.grow {i : Nat} {p : Addr} {σ : L2.St} {H Hs H' : Hp} {ev : Ev} {ws : List PyData} {vs : List V} (B : OwnB i p σ H Hs ev ws vs) (s : Same H H') : OwnB i p σ H' Hs ev ws vs := ⟨B.sub.trans s, B.env, B.ev_, B.sl, s _ _ B.at_, B.pn, B.rp⟩
theorem ExtB.grow {p : Addr} {H Hs H' : Hp} (s : Same H H') (hs : Same Hs H) (hp : Hs p = none) : ExtB p H Hs H' Hs := ⟨fun b o _ e => s b o e, Same.refl _, hs.trans s, hp, fun b h _ => h⟩
theorem OwnB.ext {i : Nat} {p : Addr} {σ : L2.St} {H Hs H' Hs' : Hp} {ev : Ev} {ws : List PyData} {vs : List V} (B : OwnB i p σ H Hs ev ws vs) (x : Ext H Hs H' Hs') : OwnB i p σ H' Hs' ev ws vs :=
  ⟨x.sub, B.env.mono x.small, B.ev_, B.sl, x.big _ _ B.at_, x.new p B.pn (by rw [B.at_]; exact fun z => nomatch z), B.rp.mono x.small⟩
theorem OwnB.np {i : Nat} {p : Addr} {σ : L2.St} {H Hs : Hp} {ev : Ev} {ws : List PyData} {vs : List V} (B : OwnB i p σ H Hs ev ws vs) : H p ≠ none := by rw [B.at_]; exact fun z => nomatch z
theorem set_comm {α : Type} {l : List α} {i j : Nat} (h : i ≠ j) (a b : α) : (l.set j a).set i b = (l.set i b).set j a := List.set_comm a b (Ne.symm h)
theorem OwnB.set {i j : Nat} {p : Addr} {σ : L2.St} {H Hs : Hp} {ev : Ev} {ws : List PyData} {vs : List V} {w : PyData} {v : V} (h : i ≠ j) (B : OwnB i p σ H Hs ev ws vs) (r : Rp Hs w v) : OwnB i p (σ.set j (some v)) H Hs (ev.set j (some w)) ws vs :=
  ⟨B.sub, by rw [set_comm h]; exact B.env.set r, by rw [List.getElem?_set_ne (Ne.symm h)]; exact B.ev_, by rw [List.getElem?_set_ne (Ne.symm h)]; exact B.sl, B.at_, B.pn, B.rp⟩

/-! ### expressions while the list is apart -/
def evB (i : Nat) (f : Ev → Option PyData) (ev : Ev) : Option PyData := match f (ev.set i none) with
  | some w => some w
  | none => (f ev).bind fun w => if flatD w = true then some w else none
def evBA (i : Nat) (f : Ev → Option (List PyData)) (ev : Ev) : Option (List PyData) := match f (ev.set i none) with
  | some w => some w
  | none => (f ev).bind fun ws => if ws.all flatD = true then some ws else none
theorem Rp.flat {H H' : Hp} {d : PyData} {v : V} (h : flatD d = true) (r : Rp H d v) : Rp H' d v := by
  cases r <;> first | exact .non | exact .bl _ | exact .int _ | exact .str _ | cases h
theorem RpAll.flat {H H' : Hp} : ∀ {ds : List PyData} {vs : List V}, ds.all flatD = true → RpAll H ds vs → RpAll H' ds vs
  | _, _, _, .nil => .nil
  | _, _, h, .cons r t => by
    rw [List.all_cons, Bool.and_eq_true] at h
    exact .cons (r.flat h.1) (RpAll.flat h.2 t)
section
variable {i : Nat} {p : Addr} {σ : L2.St} {H Hs : Hp} {ev : Ev} {ws : List PyData} {vs : List V}
theorem evB_use {f : Ev → Option PyData} {w : PyData} {Q : VK} (B : OwnB i p σ H Hs ev ws vs) (e : evB i f ev = some w) (q : ∀ v H' Hs', ExtB p H Hs H' Hs' → OwnB i p σ H' Hs' ev ws vs → Rp Hs' w v → Q v H') : tPu f σ H Q := by
  unfold evB at e
  split at e
  · rename_i w' e1
    cases e
    exact ⟨Hs, _, _, B.sub, B.env, e1, fun v H' Hs' x r => q v H' Hs' (.of x B.pn B.np) (B.ext x) r⟩
  · obtain ⟨w', e1, e⟩ := bindS e
    split at e
    · rename_i hf
      cases e
      obtain ⟨s1, r1, s2⟩ := B.full
      exact ⟨_, ev, _, s1, r1, e1, fun v H' Hs' x r => q v H' Hs (.grow x.big B.sub B.pn) (B.grow x.big) (r.flat hf)⟩
    · cases e
theorem evBA_use {f : Ev → Option (List PyData)} {us : List PyData} {Q : List V → Hp → Prop} (B : OwnB i p σ H Hs ev ws vs) (e : evBA i f ev = some us) (q : ∀ xs H' Hs', ExtB p H Hs H' Hs' → OwnB i p σ H' Hs' ev ws vs → RpAll Hs' us xs → Q xs H') : tPuA f σ H Q := by
  unfold evBA at e
  split at e
  · rename_i w' e1
    cases e
    exact ⟨Hs, _, _, B.sub, B.env, e1, fun v H' Hs' x r => q v H' Hs' (.of x B.pn B.np) (B.ext x) r⟩
  · obtain ⟨w', e1, e⟩ := bindS e
    split at e
    · rename_i hf
      cases e
      obtain ⟨s1, r1, s2⟩ := B.full
      exact ⟨_, ev, _, s1, r1, e1, fun v H' Hs' x r => q v H' Hs (.grow x.big B.sub B.pn) (B.grow x.big) (r.flat hf)⟩
    · cases e
theorem evBT_use {f : Ev → Option Bool} {b : Bool} {Q : Bool → Hp → Prop} (B : OwnB i p σ H Hs ev ws vs) (e : f ev = some b) (q : ∀ H', ExtB p H Hs H' Hs → OwnB i p σ H' Hs ev ws vs → Q b H') : tPuT f σ H Q := by
  obtain ⟨s1, r1, s2⟩ := B.full
  exact ⟨_, ev, _, s1, r1, e, fun H' Hs' x => q H' (.grow x.big B.sub B.pn) (B.grow x.big)⟩
end

/-! ### statements -/
section
variable {X : Cx} {i : Nat}
def fNextB : Ev → Option OutB := fun ev => some (.nx ev)
def fSeqB (F G : Ev → Option OutB) : Ev → Option OutB := fun ev => (F ev).bind fun o => match o with | .nx ev' => G ev' | .rt w => some (.rt w) | .bk ev' => some (.bk ev')
theorem pubs_nil : PUBs X i [] fNextB := ⟨convSs pss_nil fun D σ H ⟨p, Hs, ev, o, ws, vs, B, e, q⟩ => by
  cases e
  exact q σ H Hs ws vs ⟨fun b o _ e => e, Same.refl _, B.sub, B.pn, fun b h _ => h⟩ B rfl⟩
theorem pubs_cons {st : Stmt} {sts : List Stmt} {F G : Ev → Option OutB} (h : PUB X i st F) (hr : PUBs X i sts G) : PUBs X i (st :: sts) (fSeqB F G) :=
  ⟨convSs (pss_cons h.ps hr.pss) fun D σ H ⟨p, Hs, ev, o, ws, vs, B, e, q⟩ => by
    obtain ⟨o1, e1, e⟩ := bindS e
    refine ⟨p, Hs, ev, o1, ws, vs, B, e1, ?_⟩
    cases o1 with
    | nx ev' => exact fun σ' H' Hs' ws' vs' x B' hl => ⟨p, Hs', ev', o, ws', vs', B', e, q.later x hl⟩
    | rt w => cases e; exact q
    | bk ev' => cases e; exact q⟩
def fRetB (f : Ev → Option PyData) : Ev → Option OutB := fun ev => (f ev).bind fun w => some (.rt w)
/-- the list is let go: it is a value as all are -/
theorem pub_ret {e : Expr} {f : Ev → Option PyData} {pos : Pos} (h : PU X e f) : PUB X i (.Return (some e) pos) (fRetB f) :=
  ⟨convS (ps_ret h.pe) fun D σ H ⟨p, Hs, ev, o, ws, vs, B, e, q⟩ => by
    obtain ⟨w, e1, e⟩ := bindS e
    cases e
    obtain ⟨s1, r1, s2⟩ := B.full
    exact ⟨_, ev, w, s1, r1, e1, fun v H' Hs' x r => q v H' Hs' ⟨fun b o _ e => x.big b o e, s2.trans x.small, x.sub, fun b hb hn h' => x.new b (by rw [upd_ne hb]; exact hn) h'⟩ r⟩⟩
def fIfB (c : Ev → Option Bool) (F G : Ev → Option OutB) : Ev → Option OutB := fun ev => (c ev).bind fun b => if b = true then F ev else G ev
theorem pub_if {c : Expr} {a b : List Stmt} {fc : Ev → Option Bool} {F G : Ev → Option OutB} {pos : Pos} (hc : PUT X c fc) (ha : PUBs X i a F) (hb : PUBs X i b G) : PUB X i (.If c a b pos) (fIfB fc F G) :=
  ⟨convS (ps_if hc.pt ha.pss hb.pss) fun D σ H ⟨p, Hs, ev, o, ws, vs, B, e, q⟩ => by
    obtain ⟨k, e1, e⟩ := bindS e
    refine evBT_use B e1 fun H' x B' => ?_
    cases k with
    | true => exact iteT ⟨p, Hs, ev, o, ws, vs, B', e, q.later x rfl⟩
    | false => exact iteF ⟨p, Hs, ev, o, ws, vs, B', e, q.later x rfl⟩⟩
def fBrk : Ev → Option OutB := fun ev => some (.bk ev)
theorem pub_break {pos : Pos} : PUB X i (.Break pos) fBrk :=
  ⟨convS ps_break fun D σ H ⟨p, Hs, ev, o, ws, vs, B, e, q⟩ => by
    cases e
    exact q σ H Hs ws vs ⟨fun b o _ e => e, Same.refl _, B.sub, B.pn, fun b h _ => h⟩ B rfl⟩
def whileB (fc : Ev → Option Bool) (F : Ev → Option OutB) : Nat → Ev → Option OutB
  | 0, _ => none
  | n + 1, ev => (fc ev).bind fun b => if b = true then (F ev).bind fun o => match o with | .nx ev' => whileB fc F n ev' | .rt w => some (.rt w) | .bk ev' => some (.nx ev') else some (.nx ev)
theorem pub_while {c : Expr} {body : List Stmt} {fc : Ev → Option Bool} {F : Ev → Option OutB} {pos : Pos} (N : Ev → Nat) (hp : PassesOwn (model X.prog X.w) X.A X.env X.xe) (hc : PUT X c fc) (hb : PUBs X i body F) : PUB X i (.While c body [] pos) (fun ev => whileB fc F (N ev) ev) :=
  ⟨convS (ps_while hp hc.pt hb.pss) fun D σ H ⟨p, Hs, ev, o, ws, vs, B, e, q⟩ => by
    refine ⟨fun m σ2 H2 => ∃ Hs2 ev2 ws2 vs2, OwnB i p σ2 H2 Hs2 ev2 ws2 vs2 ∧ OutKB i p D σ2 H2 Hs2 o ∧ whileB fc F m ev2 = some o, ⟨N ev, Hs, ev, ws, vs, B, q, e⟩, ?_⟩
    rintro m σ2 H2 ⟨Hs2, ev2, ws2, vs2, B2, q2, e2⟩
    cases m with
    | zero => cases e2
    | succ m =>
      obtain ⟨b, eb, e2⟩ := bindS (show (fc ev2).bind _ = some o from e2)
      refine evBT_use B2 eb fun H3 x3 B3 => ?_
      have q3 := q2.later x3 rfl
      cases b with
      | true =>
        rw [if_pos rfl] at e2
        obtain ⟨o2, eo, e2⟩ := bindS e2
        refine iteT ⟨fun σ' H' => ∃ Hs2 ev2 ws2 vs2, OwnB i p σ' H' Hs2 ev2 ws2 vs2 ∧ OutKB i p D σ' H' Hs2 o ∧ whileB fc F m ev2 = some o, fun σ' H' h => ⟨m, Nat.lt_succ_self _, h⟩, p, Hs2, ev2, o2, ws2, vs2, B3, eo, ?_⟩
        cases o2 with
        | nx ev' => exact fun σ' H' Hs' ws' vs' x' B' hl => ⟨Hs', ev', ws', vs', B', q3.later x' hl, e2⟩
        | rt w =>
          cases e2
          exact q3
        | bk ev' =>
          cases e2
          exact q3
      | false =>
        rw [if_neg Bool.false_ne_true] at e2
        cases e2
        exact iteF (q3 σ2 H3 Hs2 ws2 vs2 ⟨fun b o _ e => e, Same.refl _, B3.sub, B3.pn, fun b h _ => h⟩ B3 rfl)⟩
def fSetB (i j : Nat) (f : Ev → Option PyData) : Ev → Option OutB := fun ev => (evB i f ev).bind fun w => some (.nx (ev.set j (some w)))
theorem pub_set {j : Nat} {x : Str} {e : Expr} {f : Ev → Option PyData} {pos pos' : Pos} (hij : i ≠ j) (hN : X.N.Nodup) (hi : X.N[j]? = some x) (hx : Loc X.env.scope x) (h : PU X e f) (hs : swapsWith e (some (.Name x pos')) pos.line X.env = pure false := by rfl) (hf : X.fn x = true ∨ X.env.scope.names.lookup x = some .local := by first | exact .inl rfl | exact .inr rfl | assumption) :
    PUB X i (.Assign [.Name x pos'] e pos) (fSetB i j f) :=
  ⟨convS (ps_set hN hi hx h.pe hs hf) fun D σ H ⟨p, Hs, ev, o, ws, vs, B, e, q⟩ => by
    obtain ⟨w, e1, e⟩ := bindS e
    cases e
    exact evB_use B e1 fun v H' Hs' x B' r => q _ H' Hs' ws vs x (B'.set hij r) (by rw [List.length_set])⟩
def fApp (i : Nat) (f : Ev → Option PyData) : Ev → Option OutB := fun ev => (evB i f ev).bind fun w => match ev[i]? with | some (some (.list ws)) => if ws.length < sizeLine then some (.nx (ev.set i (some (.list (ws ++ [w]))))) else none | _ => none
theorem OwnB.app {p : Addr} {σ : L2.St} {H Hs : Hp} {ev : Ev} {ws : List PyData} {vs : List V} {w : PyData} {v : V} (B : OwnB i p σ H Hs ev ws vs) (r : Rp Hs w v) : OwnB i p σ (upd H p (.lst (vs ++ [v]))) Hs (ev.set i (some (.list (ws ++ [w])))) (ws ++ [w]) (vs ++ [v]) := by
  refine ⟨fun b o e => ?_, by rw [List.set_set]; exact B.env, ?_, B.sl, upd_same, B.pn, B.rp.append (.cons r .nil)⟩
  · rw [upd_ne (ne_of_none e B.pn)]; exact B.sub _ _ e
  · have : i < ev.length := by
      rcases Nat.lt_or_ge i ev.length with h | h
      · exact h
      · have := B.ev_; rw [List.getElem?_eq_none h] at this; cases this
    rw [List.getElem?_set_self this]
theorem pub_app {x : Str} {e : Expr} {f : Ev → Option PyData} {px apos cpos pos : Pos} (hi : X.N[i]? = some x) (hv : Vis X.env.scope x) (h : PU X e f) (hd : (x == ("__debug__" : Str)) = false := by decide) (hcd : (x == ("__classdict__" : Str)) = false := by decide)
    (hst : starEach [e] X.env = (false, eval e X.env) :: starEach [] X.env := by rfl) (hpl : (backTo cpos (starEach [] X.env)).any (·.1) = false := by rfl) (hb : attributeBase (.Name x px) "append" X.env (eval (.Name x px) X.env) = eval (.Name x px) X.env := by rfl)
    (hfew : ((backTo cpos (starEach [e] X.env)).all (fun x => !x.1) && (backToKw cpos (keywordEach [] X.env)).all (fun x => x.1.isSome)
      && decide (([e] : List Expr).length + ([] : List Keyword).length + (if ([] : List Keyword).isEmpty then 0 else 1) < 30)) = true := by rfl)
    (hline : (apos.endLine == cpos.line) = true := by rfl) (hsw : swapsWith (.Call (.Attribute (.Name x px) "append" apos) [e] [] cpos) none pos.line X.env = pure false := by rfl) :
    PUB X i (.Expr (.Call (.Attribute (.Name x px) "append" apos) [e] [] cpos) pos) (fApp i f) := by
  refine ⟨convS (ps_expr (pe_bm PySem.F.plainAttrs_list PySem.F.slot_list_append PySem.F.type_list_append mt_append (pe_var hi hv hd hcd) (pa_cons h.pe pa_nil hst) hb hfew hline hst hpl) hsw) fun D σ H ⟨p, Hs, ev, o, ws, vs, B, e, q⟩ => ?_⟩
  obtain ⟨w, e1, e⟩ := bindS e
  rw [B.ev_] at e
  simp only at e
  split at e
  · rename_i hl
    cases e
    refine ⟨.ref p, B.sl, .inl ⟨rfl, vs, SqL.of B.at_⟩, ?_⟩
    show tPu f σ H fun v H1 => _
    refine evB_use B e1 fun v H1 Hs1 x B1 r => ?_
    refine ⟨p, vs, v, rfl, rfl, B1.at_, by rw [← B1.rp.len]; exact hl, ?_⟩
    exact q σ _ Hs1 _ _ ⟨fun b o hb z => by rw [upd_ne hb]; exact x.big b o hb z, x.small, fun b o z => by rw [upd_ne (ne_of_none z B1.pn)]; exact x.sub _ _ z, x.pn, x.new⟩ (B1.app r) rfl
  · cases e
end
end Pu

set_option Elab.async false
set_option linter.all false
set_option maxRecDepth 100000
set_option maxHeartbeats 2000000
/-! Where the list of the def's own begins. -/
namespace Pu
open PySem PySem.Spec PyProof.Rows L2
def outB (i : Nat) : OutB → Option Out
  | .nx ev => some (.nx ev)
  | .rt w => some (.rt w)
  | .bk _ => none
theorem ExtR.ext {p : Addr} {H Hs H1 H2 Hs2 : Hp} {o : HO} (hp : H p = none) (h1 : H1 = upd H p o) (x : ExtR p H1 Hs H2 Hs2) : Ext H Hs H2 Hs2 := by
  subst h1
  refine ⟨fun b o e => x.big b o (ne_of_none e hp) (by rw [upd_ne (ne_of_none e hp)]; exact e), x.small, x.sub, fun b h h' => ?_⟩
  have hb : b ≠ p := fun z => by subst z; exact h' hp
  exact x.new b hb h (by rw [upd_ne hb]; exact h')
theorem OutKB.toK {i : Nat} {p : Addr} {D : Ends} {σ σ0 : L2.St} {H H1 Hs : Hp} {o : OutB} {o' : Out} {xs : HO} (e : outB i o = some o') (hp : H p = none) (h1 : H1 = upd H p xs) (hl : σ.length = σ0.length) (k : OutK D σ0 H Hs o') : OutKB i p D σ H1 Hs o := by
  cases o with
  | nx ev =>
    cases e
    refine fun σ' H' Hs' ws vs x B h => ?_
    obtain ⟨s1, r1, s2⟩ := B.full
    exact k σ' H' _ (ExtR.ext hp h1 ⟨x.big, x.small.trans s2, s1, fun b hb hn h' => by rw [upd_ne hb]; exact x.new b hn h'⟩) r1 (h.trans hl)
  | rt w =>
    cases e
    exact fun v H' Hp' x r => k v H' Hp' (ExtR.ext hp h1 x) r
  | bk ev => cases e
section
variable {X : Cx}
/-- a, own, c = e1, [], e3: and all behind it with the list apart -/
def fOwn3 (j i l : Nat) (fa fc : Ev → Option PyData) (G : Ev → Option OutB) : Ev → Option Out := fun ev => (fa ev).bind fun u => (fc ev).bind fun w => if i < ev.length then (G (((ev.set j (some u)).set i (some (.list []))).set l (some w))).bind (outB i) else none
theorem puss_own3 {i j l : Nat} {x y z : Str} {a c : Expr} {fa fc : Ev → Option PyData} {G : Ev → Option OutB} {sts : List Stmt} {px py pz pt pos lp : Pos} {kt k2 pt2} (hN : X.N.Nodup) (hj : X.N[j]? = some x) (hi : X.N[i]? = some y) (hl : X.N[l]? = some z) (hji : j ≠ i) (hjl : j ≠ l) (hil : i ≠ l)
    (hx : X.env.scope.names.lookup x = some .local) (hy : X.env.scope.names.lookup y = some .local) (hz : X.env.scope.names.lookup z = some .local) (ha : PU X a fa) (hc' : PU X c fc) (hr : PUBs X i sts G)
    (hs1 : starEach [a, .List [] lp, c] X.env = (false, eval a X.env) :: starEach [.List [] lp, c] X.env := by rfl) (hs2 : starEach [.List [] lp, c] X.env = (false, eval (.List [] lp) X.env) :: starEach [c] X.env := by rfl) (hs3 : starEach [c] X.env = (false, eval c X.env) :: starEach [] X.env := by rfl)
    (hc : X.calm = true := by rfl) (hw : swappedStores [.Tuple [.Name x px, .Name y py, .Name z pz] kt pt] (.Tuple [a, .List [] lp, c] k2 pt2) X.env = pure (some [x, y, z]) := by rfl) (hs : swapsWithSole [.Tuple [.Name x px, .Name y py, .Name z pz] kt pt] (.Tuple [a, .List [] lp, c] k2 pt2) pos.line X.env = pure false := by rfl) :
    PUSs X (.Assign [.Tuple [.Name x px, .Name y py, .Name z pz] kt pt] (.Tuple [a, .List [] lp, c] k2 pt2) pos :: sts) (fOwn3 j i l fa fc G) :=
  ⟨convSs (pss_cons (ps_par3 hc hN hj hi hl hji hjl hil hx hy hz (pa_cons ha.pe (pa_cons (pe_lst pa_nil) (pa_cons hc'.pe pa_nil hs3) hs2) hs1) hw hs) hr.pss) fun D σ H ⟨Hs, ev, o, s, re, e, q⟩ => by
    obtain ⟨u, e1, e⟩ := bindS e
    obtain ⟨w, e2, e⟩ := bindS e
    split at e
    case isFalse => cases e
    rename_i hlt
    obtain ⟨o1, e3, e⟩ := bindS e
    refine ⟨Hs, ev, u, s, re, e1, fun v H1 Hs1 x1 r1 => ⟨Nat.zero_le _, fun p hp => ?_⟩⟩
    have hs1n : Hs1 p = none := x1.sub.free hp
    have sub2 : Same Hs1 (upd H1 p (.lst [])) := fun b o z => by rw [upd_ne (ne_of_none (x1.sub _ _ z) hp)]; exact x1.sub _ _ z
    refine ⟨Hs1, ev, w, sub2, re.mono x1.small, e2, fun v2 H3 Hs3 x3 r3 => ?_⟩
    refine ⟨v, .ref p, v2, rfl, ?_⟩
    have hp3 : H3 p = some (.lst []) := x3.big _ _ upd_same
    have hs3n : Hs3 p = none := x3.new p hs1n (by rw [upd_same]; exact fun z => nomatch z)
    have le := re.le
    refine ⟨p, Hs3, _, o1, [], [], ⟨x3.sub, ?_, ?_, ?_, hp3, hs3n, .nil⟩, e3, ?_⟩
    · have r0 : REnv Hs3 (((σ.set j (some v)).set i (some (.ref p))).set l (some v2)) ((((ev.set j (some u)).set i none).set l (some w))) :=
        (((re.mono (x1.small.trans x3.small)).set (r1.mono x3.small)).unset).set r3
      have e5 : ((((ev.set j (some u)).set i (some (PyData.list []))).set l (some w)).set i none) = ((ev.set j (some u)).set i none).set l (some w) := by
        rw [List.set_comm _ _ (Ne.symm hil), List.set_set]
      rw [e5]
      exact r0
    · rw [List.getElem?_set_ne (Ne.symm hil), List.getElem?_set_self (by rw [List.length_set]; exact hlt)]
    · rw [List.getElem?_set_ne (Ne.symm hil), List.getElem?_set_self (by rw [List.length_set]; omega)]
    · -- the list is new
      have k1 : OutK D σ H1 Hs1 o := q.later x1 rfl
      have k2 : OutKB i p D (((σ.set j (some v)).set i (some (.ref p))).set l (some v2)) (upd H1 p (.lst [])) Hs1 o1 := OutKB.toK e hp rfl (by simp) k1
      exact k2.later (ExtB.of x3 hs1n (by rw [upd_same]; exact fun z => nomatch z)) rfl⟩
end
end Pu

set_option Elab.async false
set_option linter.all false
set_option maxRecDepth 100000
set_option maxHeartbeats 2000000
/-! An object's attributes, read. -/
namespace Pu
open PySem PySem.Spec PyProof.Rows L2
def fGet (ps : List (PyData × PyData)) (f : Str) : Option PyData := (ps.find? fun p => keyB p.1 (.inr f)).map (·.2)
theorem RpF.get {H : Hp} {f : Str} {w : PyData} : ∀ {ps : List (PyData × PyData)} {fs : List (Str × V)}, RpF H ps fs → fGet ps f = some w → ∃ v, fs.lookup f = some v ∧ Rp H w v
  | _, _, .nil, e => by cases e
  | _, _, .cons (f := g) (d := d) (v := v) l r t, e => by
    by_cases h : g = f
    · subst h
      unfold fGet at e
      rw [List.find?_cons_of_pos (by simp [keyB])] at e
      cases e
      exact ⟨v, l, r⟩
    · unfold fGet at e
      rw [List.find?_cons_of_neg (by simp [keyB, h])] at e
      exact RpF.get t e
theorem RpKV.notOb {H : Hp} : ∀ {ps : List (PyData × PyData)} {kvs : List (Key × V)}, RpKV H ps kvs → isOb ps = false
  | _, _, .nil => rfl
  | _, _, .cons (k := k) _ _ => by cases k <;> rfl
def gFld (C : Addr) (f : Str) : PyData → Option PyData
  | .dict ((.none, .int c) :: ps) => if c = (C : Nat) then fGet ps f else none
  | _ => none
theorem gFld_of {C : Addr} {f : Str} {H : Hp} {d w : PyData} {v : V} (r : Rp H d v) (e : gFld C f d = some w) : ∃ a dx fs u, v = .ref a ∧ H a = some (.ins C dx fs) ∧ fs.lookup f = some u ∧ Rp H w u := by
  unfold gFld at e
  split at e
  · rename_i c ps
    split at e
    · rename_i hc
      cases r with
      | dic h r => have := r.notOb; cases this
      | ob h r =>
        have : (_ : Nat) = C := Int.ofNat.inj hc
        subst this
        obtain ⟨u, l, ru⟩ := r.get e
        exact ⟨_, _, _, u, rfl, h, l, ru⟩
    · cases e
  · cases e
def fFld (C : Addr) (f : Str) (fe : Ev → Option PyData) : Ev → Option PyData := fun ev => (fe ev).bind (gFld C f)
section
variable {X : Cx}
theorem pu_fld {e : Expr} {f : Str} {pos : Pos} {C : Addr} {fe : Ev → Option PyData} (h : PU X e fe) (c : Cls X.K C) (n : NoAttr X.K C f) (hb : attributeBase e f X.env (eval e X.env) = eval e X.env := by rfl) : PU X (.Attribute e f pos) (fFld C f fe) :=
  ⟨conv (pe_fld h.pe hb) fun σ H Q ⟨Hs, ev, w, s, re, e, q⟩ => by
    obtain ⟨w0, e1, e⟩ := bindS e
    refine ⟨Hs, ev, w0, s, re, e1, fun v H1 Hs1 x1 r1 => ?_⟩
    obtain ⟨a, dx, fs, u, rfl, h1, l, ru⟩ := gFld_of r1 e
    exact ⟨a, C, dx, fs, u, rfl, x1.sub _ _ h1, c, n, l, q u H1 Hs1 x1 ru⟩⟩
end
end Pu

set_option Elab.async false
set_option linter.all false
set_option maxRecDepth 100000
set_option maxHeartbeats 2000000
/-! o.f as a target; what a name reads. -/
namespace Pu
open PySem PySem.Spec PyProof.Rows L2
def gAtt (K : PySem.W.Frag) (ta : TE) (f : Str) : TG := fun y σ H Q => ta σ H fun x H2 => ∃ a C dx fs, x = .ref a ∧ H2 a = some (.ins C dx fs) ∧ Cls K C ∧ NoAttr K C f ∧ fs.length < 1000 ∧ Q σ (upd H2 a (.ins C dx (putF f y fs)))
section
variable {X : Cx}
theorem pg_att {o : Expr} {f : Str} {pos : Pos} {ta : TE} (ho : PE X o ta) : PG X (.Attribute o f pos) (gAtt X.K ta f) := by
  refine ⟨fun pins s σ H v u Q I r h => ?_⟩
  rw [arm_assign_Attribute]
  refine wpAny_bind (wpAny_holding (thn (ho.run pins s σ H _ I h) fun ov s1 ⟨x, H1, I1, r1, a, C, dx, fs, ex, ea, c, n, l, q⟩ => ?_))
  subst ex
  obtain rfl : ov = Value.ref a := r1
  refine wpAny_bind (wpAny_standAt (wpAny_bind (wpAny_holding (setattr_ok I1 ea c n l r fun s3 I3 => ?_))))
  exact wpAny_release ⟨σ, _, I3, q⟩
end
end Pu

set_option Elab.async false
set_option linter.all false
set_option maxRecDepth 100000
set_option maxHeartbeats 2000000
/-! for i, c in enumerate(a text). -/
namespace Pu
open PySem PySem.Spec PyProof.Rows L2
def Ites (z : Str) : It := ⟨fun i _ => i < z.cps.size, fun i H v H' => ∃ T c, v = .ref T ∧ H T = none ∧ H' = upd H T (.tup [.int (i : Nat), .str ⟨#[c]⟩]) ∧ z.cps[i]? = some c, fun i _ => i = z.cps.size⟩
theorem turn_ens {P : Program} {w : World} {K : PySem.W.Frag} {elts : List Expr} {kk : Nat} {tpos : Pos} (z : Str) (t : Tok) (e it : Addr) :
    Turn P w K (.Tuple elts kk tpos) (Ites z) [e, it] e (fun i h => (∃ old, IsEnum h e it ((i : Nat) : Int) old) ∧ h.IsStrIter it (strIterType z) z t i ∧ e ≠ it) where
  mem := by simp
  obj := fun i h ⟨⟨old, he⟩, ⟨o, ho, hc, hd⟩, _⟩ b hb => by
    rcases List.mem_cons.mp hb with rfl | hb
    · exact ⟨_, he, fun v q => nomatch q⟩
    · obtain rfl := List.mem_singleton.mp hb
      exact ⟨o, ho, fun v q => by rw [hd] at q; cases q⟩
  keep := fun i h h' ⟨⟨old, he⟩, ⟨o, ho, hr⟩, hne⟩ k => ⟨⟨old, k e (by simp) _ he⟩, ⟨o, k it (by simp) o ho, hr⟩, hne⟩
  item := by
    intro X hP hw hK hc i pins s σ H E I hf ⟨⟨old, he⟩, hit, hne⟩ hg
    subst hP hw hK
    have hel : e < s.heap.objs.size := Heap.lt_size he
    have hil : it < s.heap.objs.size := by obtain ⟨_, q, _⟩ := hit; exact Heap.lt_size q
    refine wpAny_pyNext_enum_itemD (Draws.text (A := X.A.in1) (I.ok.hd hc) it z t) he hit hg hne (by simpa using hne) fun x h' tk ⟨c, u, hx, ex⟩ ho hit' hT hsz hk => ?_
    subst ex
    refine ⟨_, rfl, wpAny_letOwnedTupleGo_enum (s := { s with heap := h', toks := tk + 1 }) ho fun h'' he' sb => ?_⟩
    have hT2 : h''.get? s.heap.objs.size = some { cls := .type "tuple", data := .seq #[.int i tk, .str ⟨#[c]⟩ u] } := (sb.2 _ (Nat.ne_of_gt hel)).trans hT
    have new : ObjOk X.prog X.w (upd H s.heap.objs.size (.tup [.int (i : Nat), .str ⟨#[c]⟩])) h'' s.heap.objs.size (.tup [.int (i : Nat), .str ⟨#[c]⟩]) :=
      ⟨by show 2 ≤ sizeLine; decide, [.int i tk, .str ⟨#[c]⟩ u], .cons ⟨_, rfl⟩ (.cons ⟨_, rfl⟩ .nil), ⟨_, hT2, rfl, _, rfl⟩⟩
    have nb : ∀ b, b ∉ [e, it] → b ≠ e ∧ b ≠ it := fun b hb => ⟨fun q => hb (by simp [q]), fun q => hb (by simp [q])⟩
    have I1 : Inv X pins σ (upd H s.heap.objs.size (.tup [.int (i : Nat), .str ⟨#[c]⟩])) { s with heap := h'', toks := tk + 1 } :=
      I.turnedNew (ch := [e, it]) (fun b ob hb q => (sb.2 b (nb b hb).1).trans (hk b ob (nb b hb).1 (nb b hb).2 q)) hf (Nat.le_refl _) new
    refine ⟨.ref s.heap.objs.size, _, I1, rfl, ⟨_, c, rfl, I.hok.fresh (Nat.le_refl _), rfl, hx⟩, ⟨⟨_, he'⟩, ?_, hne⟩, fun b hb => ?_⟩
    · obtain ⟨o, q1, q2⟩ := hit'
      exact ⟨o, (sb.2 it (Ne.symm hne)).trans q1, q2⟩
    · have hb' : b < s.heap.objs.size := by
        rcases List.mem_cons.mp hb with rfl | hb
        · exact hel
        · obtain rfl := List.mem_singleton.mp hb
          exact hil
      rw [upd_ne (Nat.ne_of_lt hb')]
      exact (hf b hb).1
  done := by
    intro X hP hw hK hc i pins s σ H E I hf ⟨⟨old, he⟩, hit, hne⟩ hg
    subst hP hw hK
    have hg : i = z.cps.size := hg
    subst hg
    obtain ⟨f0, f1, f2, f3, f4, f5⟩ := hf it (by simp)
    exact wpAny_pyNext_enum_endD (Draws.text (A := X.A.in1) (I.ok.hd hc) it z t) he hit fun h' eb => ⟨rfl, I.turned (t' := s.toks) (fun b o hb q => eb b o hb q) f0 f1 f3 f4 f5⟩
  self := fun A i s Q E ⟨⟨_, he⟩, _⟩ h => wpAny_pyIter_enum he h
def iEns (ta : TA) : TI := fun σ H R => ta σ H fun vs H1 => ∃ z, vs = [.str z] ∧ R (Ites z) H1
theorem pi_ens {X : Cx} {e : Expr} {ta : TA} {p pos tpos : Pos} {elts : List Expr} {kk : Nat} (hg : Gl X "enumerate") (hm : X.mg "enumerate" = none) (ha : PA X [e] ta) (hs : starEach [e] X.env = [(false, eval e X.env)] := by rfl) :
    PI X (.Tuple elts kk tpos) (.Call (.Name "enumerate" p) [e] [] pos) (iEns ta) := by
  refine ⟨fun pins s σ H R I h => Call_ (ld_blt I hg hm boot_enumerate (PyProof.Rows.callWith_type1 (thn (ha.run pos pins s σ H _ I h) fun us s1 ⟨vs, H1, I1, r1, z, ex, q⟩ => ?_) hs rfl))⟩
  subst ex
  cases r1 with
  | cons r rr =>
    cases rr
    obtain ⟨t, rfl⟩ := r
    refine call_enumerate_str fun h' he hit hsz hk => wpAny_pyIter_enum he ?_
    refine ⟨s1.heap.objs.size + 1, [s1.heap.objs.size + 1, s1.heap.objs.size], _, _, H1, rfl, I1.kept (t' := s1.toks) hk, turn_ens z t (s1.heap.objs.size + 1) s1.heap.objs.size, ⟨⟨.none, he⟩, hit, Nat.succ_ne_self _⟩, fun b hb => ?_, q⟩
    have hle : s1.heap.objs.size ≤ b := by
      rcases List.mem_cons.mp hb with rfl | hb
      · exact Nat.le_succ _
      · obtain rfl := List.mem_singleton.mp hb
        exact Nat.le_refl _
    exact I1.fpOk hle (I1.hok.fresh hle)
end Pu

set_option Elab.async false
set_option linter.all false
set_option maxRecDepth 100000
set_option maxHeartbeats 4000000
/-! A caught exception that is kept by another name behind the except clause. -/
namespace Pu
open PySem PySem.Spec PyProof.Rows L2
/-- at a: an exception of that class, its dict -/
def exk (a : Addr) (cl : Value) (d : Option Addr) : HO := .ext fun h => ∃ ob, h.get? a = some ob ∧ Zc cl d ob ∧ ∃ fl, ob.data = .fields fl
theorem exk_ok {P : Program} {w : World} {H : Hp} {h : Heap} {a : Addr} {cl : Value} {d : Option Addr} {ob : Obj} (e : h.get? a = some ob) (z : Zc cl d ob) (fl : ∃ fl, ob.data = .fields fl) : ObjOk P w H h a (exk a cl d) :=
  ⟨⟨ob, e, z, fl⟩, ⟨ob, e⟩, fun h1 h2 ⟨o1, e1, r1⟩ k => ⟨o1, k _ e1, r1⟩⟩
theorem exk_at {P : Program} {w : World} {H : Hp} {h : Heap} {a : Addr} {cl : Value} {d : Option Addr} (hok : HOk P w H h) (e : H a = some (exk a cl d)) : ∃ ob, h.get? a = some ob ∧ Zc cl d ob ∧ ∃ fl, ob.data = .fields fl := by
  have x : ObjOk P w H h a (.ext fun h => ∃ ob, h.get? a = some ob ∧ Zc cl d ob ∧ ∃ fl, ob.data = .fields fl) := hok a _ e
  exact x.1
section
variable {X : Cx} {pins : List (Addr × Obj)} {σ : L2.St} {H : Hp} {s : Shared}
/-- a thing that stands in the heap is taken in hand -/
theorem layAt {a : Addr} {u : HO} (I : Inv X pins σ H s) (na : H a = none) (n0 : X.s_0.heap.get? a = none) (nL : a ≠ X.env.locals) (nC : ∀ x c, X.env.cells.lookup x = some c → c ≠ a) (nP : ∀ p ∈ X.pn ++ pins, p.1 ≠ a) (new : ObjOk X.prog X.w (upd H a u) s.heap a u) : Inv X pins σ (upd H a u) s := by
  have up : ∀ {b : Addr} {o : HO}, H b = some o → upd H a u b = some o := fun {b o} e => by rw [upd_ne (ne_of_none e na)]; exact e
  refine ⟨I.ok, I.os, I.bare, ⟨I.base.keep, I.base.slot, fun b o e n hx => ?_, I.base.there, fun b xs e => up (I.base.tups b xs e), fun b o x e => up (I.base.frzs b o x e), fun b ps e => ?_⟩, I.loc, I.cell, ?_, fun x c e => ?_, fun p hp => ?_, fun b o e => ?_, I.len⟩
  · rw [upd_ne (fun z => by rw [z, n0] at e; cases e)]
    exact I.base.free b o e n hx
  · obtain ⟨m, q⟩ := I.base.tbls b ps e
    exact ⟨m, up q⟩
  · rw [upd_ne (Ne.symm nL)]; exact I.free
  · rw [upd_ne (nC x c e)]; exact I.freeC x c e
  · obtain ⟨p1, p2, p3⟩ := I.pin p hp
    exact ⟨p1, by rw [upd_ne (nP p hp)]; exact p2, p3⟩
  · by_cases hb : b = a
    · subst hb
      rw [upd_same] at e
      cases e
      exact new
    · rw [upd_ne hb] at e
      exact (I.hok b o e).stay (fun _ _ _ q => q) (fun _ q => up q) fun _ _ q => up q
/-- what such a clause wishes -/
def wKeep (K : PySem.W.Frag) (c : Value) (i : Nat) (ts : Addr → Value → Option Addr → TS) (Wo : WX) (D : Ends) : WX := fun cl d σ H =>
  ∃ b, PySem.W.exmOne K cl c = some b ∧ (b = false → Wo cl d σ H) ∧
    (b = true → ∀ a, H a = none → ts a cl d { nx := fun σ' H' => H' a = none → D.nx (σ'.set i none) (upd H' a (exk a cl d)), rt := fun _ _ => False } (σ.set i (some (.ref a))) H)
end
section
variable {X : Cx} {x n : Str} {c : Value} {i : Nat} {body more : List Stmt} {b1 : Stmt} {np pos pos' : Pos} {tb : WX → TS} {ts : Addr → Value → Option Addr → TS} {Wo : WX}
theorem ps_tryKeep (hex : X.ex = []) (hs : X.stack = X.env :: X.outer) (hf : X.env.frame = some X.env.locals) (hN : X.N.Nodup) (hi : X.N[i]? = some n) (hln : X.env.kindOf n = some .local) (hc : Names X x c) (tk : Takes X Wo)
    (hb : ∀ (W : WX) (pn : List (Addr × Obj)) (xe : Value → Shared → Prop), Takes (X.tr pn xe) W → PassesOwn (model X.prog X.w) X.A X.env xe → PSs (X.tr pn xe) body (tb W))
    (hsu : ∀ (a : Addr) (ob : Obj) (cl : Value) (d : Option Addr) (pn : List (Addr × Obj)), PSs (X.suite a ((a, ob) :: pn)) (b1 :: more) (ts a cl d)) :
    PS X (.Try body [.ExceptHandler (some (.Name x np)) (some n) (b1 :: more) pos'] [] [] pos) (fun D σ H => tb (wKeep X.K c i ts Wo D) D σ H) := by
  refine ⟨fun pins s σ H D I h => wpAny_Try_except ?_⟩
  have ok := I.ok
  have frames : X.A.frames = some (X.env :: X.outer) := by rw [ok.frames, hs]
  refine wpAny_mono ((hb (wKeep X.K c i ts Wo D) (X.pn ++ pins) (fun e sA => wpAny (model X.prog X.w) X.A (noteFrame e X.env) (fun _ sB => wpAny (model X.prog X.w) X.A (setFlight e none) (fun _ sC => wpAny (model X.prog X.w) X.A (handleBy e X.env [.ExceptHandler (some (.Name x np)) (some n) (b1 :: more) pos']) (SP X pins D) X.xe sC) X.xe sB) X.xe sA)
    (fun u s1 caught => ?_) PassesOwn.looking).run [] s σ H D (I.toTry _) h) (fun fl s1 done => ?_) (fun e s1 he => he)
  · obtain ⟨a, B, sI, pi1, σ1, H1, cl, d, rfl, J0, nb, up1, sky, na, os, ag, b, hb1, hno, hyes⟩ := caught
    have J : Inv X pins σ1 H1 sI := J0.ofTry ok
    rw [hs] at sky
    refine Sky.land Zc.steady frames hf sky fun hA flA upA => ?_
    have JA : Inv X pins σ1 H1 { s1 with heap := hA } := J.landed nb flA.1 (up1.trans upA) os ag
    obtain ⟨obA, vsA, heA, hzA, hdA⟩ := flA.there
    have nfr : a ∉ frs (X.env :: X.outer) := fun hm => by
      obtain ⟨_, o', e', hnf⟩ := flA.2.2.1.mem hm
      rw [heA] at e'
      cases e'
      exact hnf _ hdA
    have nL : a ≠ X.env.locals := fun z => nfr (List.mem_filterMap.mpr ⟨X.env, List.mem_cons_self, by rw [hf, z]⟩)
    have nF : a ∉ X.fs := fun hm => by
      obtain ⟨e, he, q⟩ := List.mem_filterMap.mp hm
      exact nfr (List.mem_filterMap.mpr ⟨e, List.mem_cons_of_mem _ he, q⟩)
    have SA := JA.suite heA hdA na nL nF
    refine wpAny_handleBy_cons (codeAny_handlers_test ?_) (by intro q; cases q)
    have LT : PySem.W.Looks (model X.prog X.w) hA (typeOf (.ref a)) cl := fun A Q E s k q => wpAny_typeOf_ref (k _ _ heA) (by rw [hzA.1]; exact q)
    have LM := PySem.W.exm_one (M := model X.prog X.w) (JA.kIn) LT hb1
    have test : ∀ {Q : Value → Shared → Prop} {E : Value → Shared → Prop}, Q c { s1 with heap := hA } → wpAny (model X.prog X.w) (X.A.mark (some (.ref a))) (eval (.Name x np) X.env) Q E { s1 with heap := hA } := fun {Q E} q => by
      obtain ⟨hg, hdb, hm | ⟨hm, hv, hnn⟩⟩ := hc
      · exact ld_glob (X := X.suite a ((a, obA) :: (X.pn ++ pins))) SA hg hm q hdb
      · exact ld_blt (X := X.suite a ((a, obA) :: (X.pn ++ pins))) SA hg hm hv q hnn hdb
    refine test (LM.here ?_)
    cases b with
    | true =>
      refine codeAny_handlers_suite_as (HandSPX.lands_againZ flA fun hB flB upB => ?_)
      have JB : Inv X pins σ1 H1 { s1 with heap := hB } := J.landed nb flB.1 ((up1.trans upA).trans upB) os ag
      obtain ⟨obB, vsB, heB, hzB, hdB⟩ := flB.there
      have SB := JB.suite heB hdB na nL nF
      -- a is none of the things that stood before
      have n0 : X.s_0.heap.get? a = none := by
        cases e0 : X.s_0.heap.get? a with
        | none => rfl
        | some o0 =>
          obtain ⟨o1, e1⟩ := J.base.there a o0 e0 (by rw [hex]; exact fun z => nomatch z)
          have := nb a o1 e1 (by rw [hs]; exact nfr)
          rw [flB.2.1] at this
          cases this
      have nP : ∀ p ∈ X.pn ++ pins, p.1 ≠ a := fun p hp z => by
        obtain ⟨e1, _⟩ := J.pin p hp
        rw [z] at e1
        have := nb a _ e1 (by rw [hs]; exact nfr)
        rw [flB.2.1] at this
        cases this
      refine store_ok (X := X.suite a ((a, obB) :: (X.pn ++ pins))) (v := .ref a) SB hN hi (.inl hln) rfl (fun s5 S5 => ?_) (.inr hln)
      refine wpAny_mono ((hsu a obB cl d (X.pn ++ pins)).run [] s5 _ H1 _ S5 (hyes rfl a na)) (fun fl s6 done => ?_) (fun _ _ z => False.elim z)
      cases fl with
      | next =>
        obtain ⟨σ6, H6, S6, q6⟩ := done
        refine gone_ok (X := X.suite a ((a, obB) :: (X.pn ++ pins))) (M := model X.prog X.w) (A := X.A) S6 hN hi hln fun s7 S7 => ?_
        obtain ⟨e7, n7, _⟩ := S7.pin (a, obB) (List.mem_append_left _ List.mem_cons_self)
        have J7 : Inv X pins (σ6.set i none) H6 s7 := S7.unsuite ok
        have nC : ∀ y c', X.env.cells.lookup y = some c' → c' ≠ a := fun y c' ey z => by
          obtain ⟨v', oc, e8, d8⟩ := J7.cell y c' ey
          rw [z] at e8
          have e7' : s7.heap.get? a = some obB := e7
          rw [e7'] at e8
          cases e8
          rw [hdB] at d8
          cases d8
        exact ⟨_, _, layAt J7 n7 n0 nL nC nP (exk_ok e7 hzB ⟨_, hdB⟩), q6 n7⟩
      | brk => obtain ⟨σ6, H6, S6, q6⟩ := done; exact q6.elim
      | cont => obtain ⟨σ6, H6, S6, q6⟩ := done; exact q6.elim
      | ret u => obtain ⟨v6, σ6, H6, S6, r6, q6⟩ := done; exact q6.elim
    | false =>
      show wpAny _ X.A (handleBy (.ref a) X.env []) _ _ _
      refine wpAny_handleBy_nil ?_
      obtain ⟨_, _, _, oe, vs, T, oT, ts', he, hz, hd, h1, hr⟩ := id flA
      unfold PySem.passOn
      refine wpAny_bind (wpAny_field he hd h1 ?_)
      rw [if_neg (show ¬ ((Value.ref T == Value.none) = true) from by simp)]
      have fin : wpAny (model X.prog X.w) X.A (setFlight (.ref a) X.env.frame) (fun _ sD => wpAny (model X.prog X.w) X.A (throw (.ref a) : Sem Flow) (SP X pins D) X.xe sD) X.xe { s1 with heap := hA } := by
        rw [hf]
        refine HandSPX.setFlight_upZ flA fun hD flD upD => wpAny_throw (tk _ _ ?_)
        exact ⟨a, B, sI, pins, σ1, H1, cl, d, rfl, J, nb, (up1.trans upA).trans upD, .inr (.inr (by rw [hs]; exact flD)), na, os, ag, hno rfl⟩
      first
        | exact wpAny_bind (wpAny_pure (wpAny_bind fin))
        | exact wpAny_bind fin
  · cases fl with
    | next => obtain ⟨σ1, H1, J1, q⟩ := done; exact wpAny_execs_nil ⟨σ1, H1, J1.ofTry ok, q⟩
    | brk => obtain ⟨σ1, H1, J1, q⟩ := done; exact ⟨σ1, H1, J1.ofTry ok, q⟩
    | cont => obtain ⟨σ1, H1, J1, q⟩ := done; exact ⟨σ1, H1, J1.ofTry ok, q⟩
    | ret u => obtain ⟨v, σ1, H1, J1, r, q⟩ := done; exact ⟨v, σ1, H1, J1.ofTry ok, r, q⟩
end
end Pu

set_option Elab.async false
set_option linter.all false
set_option maxRecDepth 100000
set_option maxHeartbeats 4000000
/-! What is asked of a kept exception; count of a flat list. -/
namespace Pu
open PySem PySem.Spec PyProof.Rows L2
/-- what the class at D must say -/
structure ExD (K : PySem.W.Frag) (D : Addr) : Prop where
  cl : (PySem.W.clsIn K D).isSome = true
  ga : PySem.W.findIn K (.ref D) "__getattribute__" = some (some (.builtin "BaseException.__getattribute__"))
  gg : PySem.W.findIn K (.ref D) "__getattr__" = some none
  sb : PySem.W.subIn K (.ref D) (.type "BaseException") = some true
  hd : PySem.W.hasDictIn K D = true
  ca : PySem.W.findIn K (.ref D) "__class__" = some (some (.builtin "object.__class__"))
  sg : PySem.W.specialIn K (.builtin "object.__class__") "__get__" = some (some (.builtin "getset_descriptor.__get__"))
  tk : PySem.W.takesIn K (.builtin "object.__class__") = some true
  mo : PySem.W.mroIn K D (.type "object") = some true
section
variable {X : Cx}
def rIsK (K : PySem.W.Frag) : List V → Hp → VK → Prop := fun xs H Q => ∃ (a D d : Addr) (fs : List (Str × V)) (c : Addr) (b : Bool), xs = [.ref a, .ref c] ∧ H a = some (exk a (.ref D) (some d)) ∧ H d = some (.xd fs) ∧ ExD K D ∧ PySem.W.kitOne K (.ref D) (.ref c) = some b ∧ Q (.bl b) H
theorem inst_of {pins : List (Addr × Obj)} {σ : L2.St} {H : Hp} {s : Shared} {a D d : Addr} {fs : List (Str × V)} (I : Inv X pins σ H s) (ha : H a = some (exk a (.ref D) (some d))) (hd : H d = some (.xd fs)) : ∃ ob od mA, PySem.W.InstAt s.heap a ob D (some od) ∧ s.heap.get? d = some od ∧ s.heap.Ns1 d mA ∧ (∀ f, RelO (fs.lookup f) (mA f)) := by
  obtain ⟨ob, e1, z, fl, hf⟩ := exk_at I.hok ha
  have hx : ObjOk X.prog X.w H s.heap d (.xd fs) := I.hok d _ hd
  obtain ⟨mA, hns, hr⟩ := hx
  obtain ⟨od, ho, hl⟩ := lookIn_ns hns
  exact ⟨ob, od, mA, ⟨e1, z.1, by unfold PySem.W.notCls; rw [hf] <;> rfl, by rw [z.2]; exact ho⟩, ho, hns, hr⟩
theorem call_isK : CallR X (.builtin "isinstance") (rIsK X.K) := by
  intro pins s σ H xs us Q I r ⟨a, D, d, fs, c, b, ex, ha, hd, T, e, q⟩
  subst ex
  obtain ⟨u1, u2, rfl, r1, r2⟩ := vals2 r
  cases (show u1 = Value.ref a from r1)
  cases (show u2 = Value.ref c from r2)
  obtain ⟨ob, od, mA, J, _⟩ := inst_of I ha hd
  exact PySem.W.kia_one (PySem.W.kitx_exc T.cl T.ga T.gg T.sb T.ca T.sg T.tk T.mo) I.kIn J e (fun z => nomatch z) fun tk => ⟨.bl b, H, I.tok tk, rfl, q⟩
/-- e.f of a kept exception -/
def tXk (K : PySem.W.Frag) (f : Str) (te : TE) : TE := fun σ H Q => te σ H fun x H1 => ∃ (a D d : Addr) (fs : List (Str × V)) (v : V), x = .ref a ∧ H1 a = some (exk a (.ref D) (some d)) ∧ H1 d = some (.xd fs) ∧ ExD K D ∧ PySem.W.findIn K (.ref D) f = some none ∧ fs.lookup f = some v ∧ Q v H1
theorem pe_xk {e : Expr} {te : TE} {pos : Pos} {f : Str} (he : PE X e te) (hb : attributeBase e f X.env (eval e X.env) = eval e X.env := by rfl) : PE X (.Attribute e f pos) (tXk X.K f te) := by
  refine ⟨fun pins s σ H Q I h => attr_of hb (thn (he.run pins s σ H _ I h) fun u s1 ⟨x, H1, I1, rx, a, D, d, fs, v, ex, ha, hd, T, hno, l, q⟩ => ?_)⟩
  subst ex
  cases (show u = Value.ref a from rx)
  obtain ⟨ob, e1, z, fl, hf⟩ := exk_at I1.hok ha
  have hx : ObjOk X.prog X.w H1 s1.heap d (.xd fs) := I1.hok d _ hd
  obtain ⟨mA, hns, hr⟩ := hx
  obtain ⟨od, ho, hl⟩ := lookIn_ns hns
  have J : PySem.W.InstAt s1.heap a ob D (some od) := ⟨e1, z.1, by unfold PySem.W.notCls; rw [hf] <;> rfl, by rw [z.2]; exact ho⟩
  obtain ⟨u', hu, ru⟩ := RelO.some_of (v := v) (o := mA f) (by rw [← l]; exact hr f)
  exact HandSPX.exc_get I1.kIn J T.ga T.gg T.sb (PySem.W.findObj_own T.hd hno rfl (by rw [hl, hu])) (handed_of ru) ⟨v, H1, I1.tok _, ru, q⟩
/-- xs.count(x), flat -/
theorem cnt_of {y : V} : ∀ {ys : List V} {us : List Value}, Vals ys us → ys.all flatV = true → us.countP (eqU y) = ys.countP fun z => eqV z y
  | _, _, .nil, _ => rfl
  | _, _, .cons r t, h => by
    rw [List.all_cons, Bool.and_eq_true] at h
    rw [List.countP_cons, List.countP_cons, cnt_of t h.2, eqU_of r h.1]
def rCntF (K : PySem.W.Frag) : V → List V → Hp → VK → Prop := fun x xs H Q => ∃ (a : Addr) (ys : List V) (y : V), x = .ref a ∧ xs = [y] ∧ SqL K H a ys ∧ flatV y = true ∧ ys.all flatV = true ∧ Q (.int ((ys.countP fun z => eqV z y : Nat))) H
theorem mt_cntF : MtR X "list.count" (rCntF X.K) := by
  intro pins s σ H x xs v us Q I rx rxs ⟨a, ys, y, ex, exs, hs, fy, fys, q⟩
  subst ex exs
  cases (show v = Value.ref a from rx)
  obtain ⟨u, rfl, ru⟩ := rxs.one
  obtain ⟨its, rv, ⟨⟨cls, dd, data, sl⟩, n, ho, hc, hdn, hd⟩, hlen⟩ := I.list hs
  simp only at hc hd
  subst hc hd
  refine call_meets PySem.F.slot_list_count ⟨_, ho, rfl⟩ PySem.F.entry_list_count (PySem.F.args_list_count_2 _ _) (SeqAt.list_countAt a its.toArray n dd sl u (eqU y)) ⟨ho, fun z hz => mem_eqAt ru fy rv fys z (by simpa using hz), ?_⟩
  have ec : its.toArray.toList.countP (eqU y) = ys.countP fun z => eqV z y := cnt_of rv fys
  rw [ec]
  exact ⟨.int _, H, I.tok _, ⟨_, rfl⟩, q⟩
end
end Pu

set_option Elab.async false
set_option linter.all false
set_option maxRecDepth 100000
set_option maxHeartbeats 2000000
/-! What a function on slots comes to, part by part. -/
namespace Pu
open PySem PySem.Spec PyProof.Rows L2
section
variable {ev ev' : Ev} {F G : Ev → Option Out} {c d : Ev → Option Bool} {f g : Ev → Option PyData} {fs : Ev → Option (List PyData)} {w u : PyData} {ws : List PyData} {a b : Bool} {o : Option Out} {i : Nat}
theorem z_rt (h : F ev = some (.rt w)) : fSeq F G ev = some (.rt w) := by unfold fSeq; rw [h]; rfl
theorem z_nx (h : F ev = some (.nx ev')) (k : G ev' = o) : fSeq F G ev = o := by unfold fSeq; rw [h]; exact k
theorem z_ifT (h : c ev = some true) (k : F ev = o) : fIfS c F G ev = o := by unfold fIfS; rw [h]; exact k
theorem z_ifF (h : c ev = some false) (k : G ev = o) : fIfS c F G ev = o := by unfold fIfS; rw [h]; exact k
theorem z_ret (h : f ev = some w) : fRet f ev = some (.rt w) := by unfold fRet; rw [h]; rfl
theorem z_set (h : f ev = some w) : fSet i f ev = some (.nx (ev.set i (some w))) := by unfold fSet; rw [h]; rfl
theorem z_B (h : c ev = some b) : fB c ev = some (.bool b) := by unfold fB; rw [h]; rfl
theorem z_T (h : f ev = some (.bool b)) : fT f ev = some b := by unfold fT; rw [h]; rfl
theorem z_not (h : c ev = some b) : fNot c ev = some (!b) := by unfold fNot; rw [h]; rfl
theorem z_orV (h : f ev = some (.bool a)) (k : g ev = some (.bool b)) : fOrV f g ev = some (.bool (a || b)) := by
  unfold fOrV
  rw [h]
  cases a with
  | true => rfl
  | false => exact k
theorem z_andV (h : f ev = some (.bool a)) (k : g ev = some (.bool b)) : fAndV f g ev = some (.bool (a && b)) := by
  unfold fAndV
  rw [h]
  cases a with
  | true => exact k
  | false => rfl
theorem z_or (h : c ev = some a) (k : d ev = some b) : fOr c d ev = some (a || b) := by
  unfold fOr
  rw [h]
  cases a with
  | true => rfl
  | false => exact k
theorem z_orT (h : c ev = some true) : fOr c d ev = some true := by unfold fOr; rw [h]; rfl
theorem z_orF (h : c ev = some false) (k : d ev = some b) : fOr c d ev = some b := by unfold fOr; rw [h]; exact k
theorem z_and (h : c ev = some a) (k : a = true → d ev = some b) : fAnd c d ev = some (a && b) := by
  unfold fAnd
  rw [h]
  cases a with
  | true => exact k rfl
  | false => rfl
theorem z_andT (h : c ev = some true) (k : d ev = some b) : fAnd c d ev = some b := by unfold fAnd; rw [h]; exact k
theorem z_andF (h : c ev = some false) : fAnd c d ev = some false := by unfold fAnd; rw [h]; rfl
theorem z_ifET (h : c ev = some true) (k : f ev = some w) : fIf c f g ev = some w := by unfold fIf; rw [h]; exact k
theorem z_ifEF (h : c ev = some false) (k : g ev = some w) : fIf c f g ev = some w := by unfold fIf; rw [h]; exact k
theorem z_2T {r : PyData → PyData → Option Bool} (h : f ev = some w) (k : g ev = some u) (e : r w u = some b) : f2T r f g ev = some b := by unfold f2T; rw [h]; show (g ev).bind _ = _; rw [k]; exact e
theorem z_2 {r : PyData → PyData → Option PyData} {x : PyData} (h : f ev = some w) (k : g ev = some u) (e : r w u = some x) : f2 r f g ev = some x := by unfold f2; rw [h]; show (g ev).bind _ = _; rw [k]; exact e
theorem z_cons (h : f ev = some w) (k : fs ev = some ws) : fCons f fs ev = some (w :: ws) := by unfold fCons; rw [h]; show (fs ev).bind _ = _; rw [k]; rfl
theorem z_call {r : List PyData → Option PyData} {x : PyData} (h : fs ev = some ws) (e : r ws = some x) : fCall r fs ev = some x := by unfold fCall; rw [h]; exact e
theorem z_lst (h : fs ev = some ws) (k : ws.length ≤ sizeLine) : fLst fs ev = some (.list ws) := by unfold fLst; rw [h]; show (if _ then _ else _) = _; rw [if_pos k]
theorem z_tup (h : fs ev = some ws) (k : ws.length ≤ sizeLine) : fTup fs ev = some (.tuple ws) := by unfold fTup; rw [h]; show (if _ then _ else _) = _; rw [if_pos k]
theorem z_run {N : List Str} {n : Nat} (hl : ws.length = n) (h : F (ev0 N ws) = some (.rt w)) : runF N n F ws = some w := by unfold runF; rw [if_pos hl, h]; rfl
end
end Pu

set_option Elab.async false
set_option linter.all false
set_option maxRecDepth 100000
set_option maxHeartbeats 2000000
namespace Pu
open PySem PySem.Spec PyProof.Rows L2
section
variable {ev ev' : Ev} {F G : Ev → Option OutB} {c : Ev → Option Bool} {f : Ev → Option PyData} {w : PyData} {ws : List PyData} {o : Option OutB} {i j : Nat}
theorem y_nx (h : F ev = some (.nx ev')) (k : G ev' = o) : fSeqB F G ev = o := by unfold fSeqB; rw [h]; exact k
theorem y_rt (h : F ev = some (.rt w)) : fSeqB F G ev = some (.rt w) := by unfold fSeqB; rw [h]; rfl
theorem y_bk (h : F ev = some (.bk ev')) : fSeqB F G ev = some (.bk ev') := by unfold fSeqB; rw [h]; rfl
theorem y_ifT (h : c ev = some true) (k : F ev = o) : fIfB c F G ev = o := by unfold fIfB; rw [h]; exact k
theorem y_ifF (h : c ev = some false) (k : G ev = o) : fIfB c F G ev = o := by unfold fIfB; rw [h]; exact k
theorem y_ret (h : f ev = some w) : fRetB f ev = some (.rt w) := by unfold fRetB; rw [h]; rfl
theorem y_evB (h : f (ev.set i none) = some w) : evB i f ev = some w := by unfold evB; rw [h]
theorem y_set (h : f (ev.set i none) = some w) : fSetB i j f ev = some (.nx (ev.set j (some w))) := by unfold fSetB; rw [y_evB h]; rfl
theorem y_app (h : f (ev.set i none) = some w) (hl : ev[i]? = some (some (.list ws))) (hz : ws.length < sizeLine) : fApp i f ev = some (.nx (ev.set i (some (.list (ws ++ [w]))))) := by
  unfold fApp
  rw [y_evB h, Option.bind_some, hl]
  simp only
  rw [if_pos hz]
end
end Pu

set_option Elab.async false
set_option linter.all false
set_option maxRecDepth 100000
set_option maxHeartbeats 4000000
namespace K88
open PySem PySem.Spec PyProof.Rows L2 Pu
def topS (i : Nat) : Stmt := PySem.Challenge.pw_comestoend_k88_whole_torn_texts_of_thing.main.body.getD i (.Pass ⟨0, 0, 0, 0⟩)
theorem of_cells {st : Stmt} (h : ((defScope st).names.all fun y => decide (y.2 ≠ .cell)) = true) : ∀ y ∈ (defScope st).names, y.2 ≠ .cell := fun y hy => of_decide_eq_true (List.all_eq_true.mp h y hy)
end K88

set_option Elab.async false
set_option linter.all false
set_option maxRecDepth 100000
set_option maxHeartbeats 4000000
namespace K88
open PySem PySem.Spec PyProof.Rows L2 Pu
section
variable {P : Program} {w : World} {K : PySem.W.Frag} {mg : Str → Option Value} {base : Heap}
abbrev s_is_paper_word : Stmt := topS 9
theorem sc_is_paper_word : FnScope ["value", "sign"] ["value"] (defScope s_is_paper_word) := ⟨rfl, rfl, rfl, by decide +kernel, rfl, by decide +kernel, by decide +kernel⟩
def F_is_paper_word  : Ev → Option Out := (fSeq (fIfS (fOr (fNot (fT (fIsi (fVar 0) ["str"]))) (fOr (f2T gEq (fVar 0) (fC (.str ""))) (fNot (fOr (fChain gLe gLe (fC (.str "a")) (f2 gIx (fVar 0) (fC (.int 0))) (fC (.str "z"))) (f2T gEq (f2 gIx (fVar 0) (fC (.int 0))) (fC (.str "?"))))))) (fSeq (fRet (fC (.bool false))) fNext) fNext) (fSeq (fIfS (fNot (fT (fCall gAll (fCons (fComp (fIt (fVar 0)) asOne [1] [1] (fun _ => some true) (fOrV (fB (fChain gLe gLe (fC (.str "a")) (fVar 1) (fC (.str "z")))) (fOrV (fB (fChain gLe gLe (fC (.str "0")) (fVar 1) (fC (.str "9")))) (fB (f2T gInD (fVar 1) (fC (.str "@? "))))))) fNil)))) (fSeq (fRet (fC (.bool false))) fNext) fNext) (fSeq (fRet (fAndV (fB (f2T gNe (f2 gIx (fVar 0) (fNeg (fC (.int 1)))) (fC (.str " ")))) (fB (f2T gNiD (fC (.str "  ")) (fVar 0))))) fNext)))
theorem d_is_paper_word {k : Nat}   (D : DefAt K mg "is_paper_word" "is_paper_word" s_is_paper_word ["value"]) (m_all : mg "all" = none) (m_isinstance : mg "isinstance" = none) (m_str : mg "str" = none) : DefP P w K mg base "is_paper_word" (k + 1) ["value"] (runF ["value", "sign"] 1 (F_is_paper_word )) :=
  defP_of D sc_is_paper_word fun f cdv A outer s H E hr nd => (puss_cons (pus_if (put_w (puw_or (put_not (put_val (pu_isi (x := "str") (T := "str") (pu_var 0) rfl m_isinstance rfl m_str (by decide +kernel) (by decide)))) (puw_or (put_cmp (o_eq (u64 hr)) g_eq (pu_var 0) pu_str (nomark _)) (puw_or1 (put_not (put_w (puw_or (put_chain o_le g_le o_le g_le pu_str (pu_ix (u1 hr) (pu_var 0) pu_int (fun _ _ => rfl) (fun _ _ => rfl)) pu_str) (puw_or1 (put_cmp (o_eq (u64 hr)) g_eq (pu_ix (u1 hr) (pu_var 0) pu_int (fun _ _ => rfl) (fun _ _ => rfl)) pu_str (nomark _)))))))))) (puss_cons (pus_ret pu_bl) puss_nil) puss_nil) (puss_cons (pus_if (put_not (put_val (pu_callB (cr_all rfl) gc_all rfl m_all boot_all (pua_cons (pu_lc (own := [("sign", 1)]) (is := [1]) rfl nd (pui_any (pu_var 0)) (blkOk_by (N := ["value", "sign"]) (sc := defScope s_is_paper_word) (by decide +kernel)) gp_one tp_yes (by decide) (fun _ _ _ _ _ => (pg_name (i := 1) nd rfl (Or.inl rfl))) (fun _ _ _ _ _ => pts_nil) (fun _ _ _ _ _ => (pu_or (pu_chain o_le g_le o_le g_le pu_str (pu_var 1) pu_str) (pu_or (pu_chain o_le g_le o_le g_le pu_str (pu_var 1) pu_str) (pu_one (pu_in (u1 hr) (pu_var 1) pu_str)))))) pua_nil)))) (puss_cons (pus_ret pu_bl) puss_nil) puss_nil) (puss_cons (pus_ret (pu_and (pu_cmp (o_ne (u64 hr)) g_ne (pu_ix (u1 hr) (pu_var 0) (pu_neg pu_int) (fun _ _ => rfl) (fun _ _ => rfl)) pu_str (nomark _)) (pu_one (pu_ni (u1 hr) pu_str (pu_var 0))))) puss_nil)))

abbrev s_is_thing : Stmt := topS 10
theorem sc_is_thing : FnScope ["value", "part"] ["value"] (defScope s_is_thing) := ⟨rfl, rfl, rfl, by decide +kernel, rfl, by decide +kernel, by decide +kernel⟩
def F_is_thing (g_is_paper_word : List PyData → Option PyData) (g_is_thing : List PyData → Option PyData) : Ev → Option Out := (fSeq (fIfS (fT (fIsi (fVar 0) ["list", "tuple"])) (fSeq (fRet (fCall gAll (fCons (fComp (fIt (fVar 0)) asOne [1] [1] (fun _ => some true) (fCall g_is_thing (fCons (fVar 1) fNil))) fNil))) fNext) fNext) (fSeq (fRet (fOrV (fB (f2T isD (fVar 0) (fC .none))) (fOrV (fIsi (fVar 0) ["int"]) (fCall g_is_paper_word (fCons (fVar 0) fNil))))) fNext))
theorem d_is_thing {k : Nat} {g_is_paper_word : List PyData → Option PyData} {g_is_thing : List PyData → Option PyData}  (D : DefAt K mg "is_thing" "is_thing" s_is_thing ["value"]) (m_isinstance : mg "isinstance" = none) (m_int : mg "int" = none) (m_list : mg "list" = none) (m_tuple : mg "tuple" = none) (m_all : mg "all" = none) (D_is_paper_word : DefP P w K mg base "is_paper_word" k ["value"] g_is_paper_word) (D_is_thing : DefP P w K mg base "is_thing" k ["value"] g_is_thing) : DefP P w K mg base "is_thing" (k + 1) ["value"] (runF ["value", "part"] 1 (F_is_thing g_is_paper_word g_is_thing)) :=
  defP_of D sc_is_thing fun f cdv A outer s H E hr nd => (puss_cons (pus_if (put_val (pu_isi2 (x := "list") (y := "tuple") (T := "list") (U := "tuple") (pu_var 0) rfl m_isinstance rfl m_list (by decide +kernel) (by decide) rfl m_tuple (by decide +kernel) (by decide))) (puss_cons (pus_ret (pu_callB (cr_all rfl) gc_all rfl m_all boot_all (pua_cons (pu_lc (own := [("part", 1)]) (is := [1]) rfl nd (pui_any (pu_var 0)) (blkOk_by (N := ["value", "part"]) (sc := defScope s_is_thing) (by decide +kernel)) gp_one tp_yes (by decide) (fun _ _ _ _ _ => (pg_name (i := 1) nd rfl (Or.inl rfl))) (fun _ _ _ _ _ => pts_nil) (fun _ _ _ _ _ => (pu_callD D_is_thing hr rfl (pua_cons (pu_var 1) pua_nil)))) pua_nil))) puss_nil) puss_nil) (puss_cons (pus_ret (pu_or (pu_cmp o_is g_is (pu_var 0) pu_non (nomark _)) (pu_or (pu_isi (x := "int") (T := "int") (pu_var 0) rfl m_isinstance rfl m_int (by decide +kernel) (by decide)) (pu_one (pu_callD D_is_paper_word hr rfl (pua_cons (pu_var 0) pua_nil)))))) puss_nil))

abbrev s_thing_told : Stmt := topS 11
theorem sc_thing_told : FnScope ["thing", "text", "part"] ["thing"] (defScope s_thing_told) := ⟨rfl, rfl, rfl, by decide +kernel, rfl, by decide +kernel, by decide +kernel⟩
def F_thing_told (g_thing_told : List PyData → Option PyData) : Ev → Option Out := (fSeq (fIfS (fT (fIsi (fVar 0) ["list", "tuple"])) (fSeq (fSet 1 (fJoin (fC (.str " ")) (fComp (fIt (fVar 0)) asOne [2] [2] (fun _ => some true) (fCall g_thing_told (fCons (fVar 2) fNil))))) (fSeq (fRet (fIf (fT (fIsi (fVar 0) ["tuple"])) (f2 gAdd (f2 gAdd (fC (.str "(")) (fVar 1)) (fC (.str ")"))) (f2 gAdd (f2 gAdd (fC (.str "[")) (fVar 1)) (fC (.str "]"))))) fNext)) fNext) (fSeq (fIfS (f2T isD (fVar 0) (fC .none)) (fSeq (fRet (fC (.str "~"))) fNext) fNext) (fSeq (fIfS (fT (fIsi (fVar 0) ["bool"])) (fSeq (fRet (fIf (fT (fVar 0)) (fC (.str "!")) (fC (.str ".")))) fNext) fNext) (fSeq (fRet (fIf (fT (fIsi (fVar 0) ["int"])) (fCall gStr (fCons (fVar 0) fNil)) (fRepl " " "_" (fVar 0)))) fNext))))
theorem d_thing_told {k : Nat} {g_thing_told : List PyData → Option PyData}  (D : DefAt K mg "thing_told" "thing_told" s_thing_told ["thing"]) (m_isinstance : mg "isinstance" = none) (m_int : mg "int" = none) (m_str : mg "str" = none) (m_bool : mg "bool" = none) (m_list : mg "list" = none) (m_tuple : mg "tuple" = none) (D_thing_told : DefP P w K mg base "thing_told" k ["thing"] g_thing_told) : DefP P w K mg base "thing_told" (k + 1) ["thing"] (runF ["thing", "text", "part"] 1 (F_thing_told g_thing_told)) :=
  defPT_of D sc_thing_told (by decide +kernel) (by decide) fun f cdv A outer s H E hr nd => (pusst_cons (pust_of (pus_if (put_val (pu_isi2 (x := "list") (y := "tuple") (T := "list") (U := "tuple") (pu_var 0) rfl m_isinstance rfl m_list (by decide +kernel) (by decide) rfl m_tuple (by decide +kernel) (by decide))) (puss_cons (pus_set (i := 1) nd rfl (Or.inl rfl) (pu_join pu_str (pu_lc (own := [("part", 2)]) (is := [2]) rfl nd (pui_any (pu_var 0)) (blkOk_by (N := ["thing", "text", "part"]) (sc := defScope s_thing_told) (by decide +kernel)) gp_one tp_yes (by decide) (fun _ _ _ _ _ => (pg_name (i := 2) nd rfl (Or.inl rfl))) (fun _ _ _ _ _ => pts_nil) (fun _ _ _ _ _ => (pu_callD D_thing_told hr rfl (pua_cons (pu_var 2) pua_nil)))))) (puss_cons (pus_ret (pu_ifE (put_val (pu_isi (x := "tuple") (T := "tuple") (pu_var 0) rfl m_isinstance rfl m_tuple (by decide +kernel) (by decide))) (pu_op o_add g_add (pu_op o_add g_add pu_str (pu_var 1)) pu_str) (pu_op o_add g_add (pu_op o_add g_add pu_str (pu_var 1)) pu_str))) puss_nil)) puss_nil)) (pusst_cons (pust_of (pus_if (put_cmp o_is g_is (pu_var 0) pu_non (nomark _)) (puss_cons (pus_ret pu_str) puss_nil) puss_nil)) (pusst_cons (pust_of (pus_if (put_val (pu_isi (x := "bool") (T := "bool") (pu_var 0) rfl m_isinstance rfl m_bool (by decide +kernel) (by decide))) (puss_cons (pus_ret (pu_ifE (put_val (pu_var 0)) pu_str pu_str)) puss_nil) puss_nil)) (pusst_cons (pust_ret (puet_ifE (put_val (pu_isi (x := "int") (T := "int") (pu_var 0) rfl m_isinstance rfl m_int (by decide +kernel) (by decide))) (puet_of (pu_callTy call_str_int gc_str rfl m_str boot_str (pua_cons (pu_var 0) pua_nil))) (puet_repl (pu_var 0)))) pusst_nil))))

abbrev s__law_exact : Stmt := topS 22
theorem sc__law_exact : FnScope ["mine", "theirs", "key", "is_list", "is_like", "a", "b"] ["mine", "theirs"] (defScope s__law_exact) := ⟨rfl, rfl, rfl, by decide +kernel, rfl, by decide +kernel, by decide +kernel⟩
def F__law_exact (g__law_exact : List PyData → Option PyData) : Ev → Option Out := (fSeq (fIfS (fT (fIsi (fVar 0) ["dict"])) (fSeq (fIfS (fOr (fNot (fT (fIsi (fVar 1) ["dict"]))) (f2T gNe (fCall gLen (fCons (fVar 0) fNil)) (fCall gLen (fCons (fVar 1) fNil)))) (fSeq (fRet (fC (.bool false))) fNext) fNext) (fSeq (fRet (fCall gAll (fCons (fComp (fIt (fVar 0)) asOne [2] [2] (fun _ => some true) (fAndV (fB (f2T gInD (fVar 2) (fVar 1))) (fCall g__law_exact (fCons (f2 gIx (fVar 0) (fVar 2)) (fCons (f2 gIx (fVar 1) (fVar 2)) fNil))))) fNil))) fNext)) fNext) (fSeq (fIfS (fT (fIsi (fVar 0) ["list", "tuple"])) (fSeq (fSet 3 (fB (f2T gEq (fIsi (fVar 1) ["list"]) (fIsi (fVar 0) ["list"])))) (fSeq (fSet 4 (fAndV (fVar 3) (fB (f2T gEq (fIsi (fVar 1) ["tuple"]) (fIsi (fVar 0) ["tuple"]))))) (fSeq (fRet (fAndV (fVar 4) (fAndV (fB (f2T gEq (fCall gLen (fCons (fVar 0) fNil)) (fCall gLen (fCons (fVar 1) fNil)))) (fCall gAll (fCons (fComp (fZip (fVar 0) (fVar 1)) (asTup 2) [5, 6] [5, 6] (fun _ => some true) (fCall g__law_exact (fCons (fVar 5) (fCons (fVar 6) fNil)))) fNil))))) fNext))) fNext) (fSeq (fIfS (fOr (fT (fIsi (fVar 1) ["list", "tuple", "dict"])) (f2T gNe (fB (f2T isD (fVar 0) (fC .none))) (fB (f2T isD (fVar 1) (fC .none))))) (fSeq (fRet (fC (.bool false))) fNext) fNext) (fSeq (fSet 4 (fAndV (fB (f2T gEq (fIsi (fVar 0) ["int"]) (fIsi (fVar 1) ["int"]))) (fB (f2T gEq (fIsi (fVar 0) ["str"]) (fIsi (fVar 1) ["str"]))))) (fSeq (fRet (fAndV (fVar 4) (fAndV (fB (f2T gEq (fIsi (fVar 0) ["bool"]) (fIsi (fVar 1) ["bool"]))) (fB (f2T gEq (fVar 0) (fVar 1)))))) fNext)))))
theorem d__law_exact {k : Nat} {g__law_exact : List PyData → Option PyData}  (D : DefAt K mg "_law_exact" "_law_exact" s__law_exact ["mine", "theirs"]) (m_isinstance : mg "isinstance" = none) (m_bool : mg "bool" = none) (m_str : mg "str" = none) (m_int : mg "int" = none) (m_list : mg "list" = none) (m_tuple : mg "tuple" = none) (m_dict : mg "dict" = none) (m_zip : mg "zip" = none) (m_all : mg "all" = none) (m_len : mg "len" = none) (D__law_exact : DefP P w K mg base "_law_exact" k ["mine", "theirs"] g__law_exact) : DefP P w K mg base "_law_exact" (k + 1) ["mine", "theirs"] (runF ["mine", "theirs", "key", "is_list", "is_like", "a", "b"] 2 (F__law_exact g__law_exact)) :=
  defP_of D sc__law_exact fun f cdv A outer s H E hr nd => (puss_cons (pus_if (put_val (pu_isi (x := "dict") (T := "dict") (pu_var 0) rfl m_isinstance rfl m_dict (by decide +kernel) (by decide))) (puss_cons (pus_if (put_w (puw_or (put_not (put_val (pu_isi (x := "dict") (T := "dict") (pu_var 1) rfl m_isinstance rfl m_dict (by decide +kernel) (by decide)))) (puw_or1 (put_cmp (o_ne (u64 hr)) g_ne (pu_callB c_len gc_len rfl m_len boot_len (pua_cons (pu_var 0) pua_nil)) (pu_callB c_len gc_len rfl m_len boot_len (pua_cons (pu_var 1) pua_nil)) (nomark _))))) (puss_cons (pus_ret pu_bl) puss_nil) puss_nil) (puss_cons (pus_ret (pu_callB (cr_all rfl) gc_all rfl m_all boot_all (pua_cons (pu_lc (own := [("key", 2)]) (is := [2]) rfl nd (pui_any (pu_var 0)) (blkOk_by (N := ["mine", "theirs", "key", "is_list", "is_like", "a", "b"]) (sc := defScope s__law_exact) (by decide +kernel)) gp_one tp_yes (by decide) (fun _ _ _ _ _ => (pg_name (i := 2) nd rfl (Or.inl rfl))) (fun _ _ _ _ _ => pts_nil) (fun _ _ _ _ _ => (pu_and (pu_in (u1 hr) (pu_var 2) (pu_var 1)) (pu_one (pu_callD D__law_exact hr rfl (pua_cons (pu_ix (u1 hr) (pu_var 0) (pu_var 2) (fun _ _ => rfl) (fun _ _ => rfl)) (pua_cons (pu_ix (u1 hr) (pu_var 1) (pu_var 2) (fun _ _ => rfl) (fun _ _ => rfl)) pua_nil))))))) pua_nil))) puss_nil)) puss_nil) (puss_cons (pus_if (put_val (pu_isi2 (x := "list") (y := "tuple") (T := "list") (U := "tuple") (pu_var 0) rfl m_isinstance rfl m_list (by decide +kernel) (by decide) rfl m_tuple (by decide +kernel) (by decide))) (puss_cons (pus_set (i := 3) nd rfl (Or.inl rfl) (pu_cmp (o_eq (u64 hr)) g_eq (pu_isi (x := "list") (T := "list") (pu_var 1) rfl m_isinstance rfl m_list (by decide +kernel) (by decide)) (pu_isi (x := "list") (T := "list") (pu_var 0) rfl m_isinstance rfl m_list (by decide +kernel) (by decide)) (nomark _))) (puss_cons (pus_set (i := 4) nd rfl (Or.inl rfl) (pu_and (pu_var 3) (pu_one (pu_cmp (o_eq (u64 hr)) g_eq (pu_isi (x := "tuple") (T := "tuple") (pu_var 1) rfl m_isinstance rfl m_tuple (by decide +kernel) (by decide)) (pu_isi (x := "tuple") (T := "tuple") (pu_var 0) rfl m_isinstance rfl m_tuple (by decide +kernel) (by decide)) (nomark _))))) (puss_cons (pus_ret (pu_and (pu_var 4) (pu_and (pu_cmp (o_eq (u64 hr)) g_eq (pu_callB c_len gc_len rfl m_len boot_len (pua_cons (pu_var 0) pua_nil)) (pu_callB c_len gc_len rfl m_len boot_len (pua_cons (pu_var 1) pua_nil)) (nomark _)) (pu_one (pu_callB (cr_all rfl) gc_all rfl m_all boot_all (pua_cons (pu_lc (own := [("a", 5), ("b", 6)]) (is := [5, 6]) rfl nd (pui_zip (pu_var 0) (pu_var 1) rfl m_zip) (blkOk_by (N := ["mine", "theirs", "key", "is_list", "is_like", "a", "b"]) (sc := defScope s__law_exact) (by decide +kernel)) gp_tup2 tp_yes (by decide) (fun _ _ _ _ _ => (pg_tup rfl (pgs_cons (pg_name (i := 5) nd rfl (Or.inl rfl)) (pgs_cons (pg_name (i := 6) nd rfl (Or.inl rfl)) pgs_nil)))) (fun _ _ _ _ _ => pts_nil) (fun _ _ _ _ _ => (pu_callD D__law_exact hr rfl (pua_cons (pu_var 5) (pua_cons (pu_var 6) pua_nil))))) pua_nil)))))) puss_nil))) puss_nil) (puss_cons (pus_if (put_w (puw_or (put_val (pu_isi3 (x := "list") (y := "tuple") (z := "dict") (T := "list") (U := "tuple") (W := "dict") (pu_var 1) rfl m_isinstance rfl m_list (by decide +kernel) (by decide) rfl m_tuple (by decide +kernel) (by decide) rfl m_dict (by decide +kernel) (by decide))) (puw_or1 (put_cmp (o_ne (u64 hr)) g_ne (pu_cmp o_is g_is (pu_var 0) pu_non (nomark _)) (pu_cmp o_is g_is (pu_var 1) pu_non (nomark _)) (nomark _))))) (puss_cons (pus_ret pu_bl) puss_nil) puss_nil) (puss_cons (pus_set (i := 4) nd rfl (Or.inl rfl) (pu_and (pu_cmp (o_eq (u64 hr)) g_eq (pu_isi (x := "int") (T := "int") (pu_var 0) rfl m_isinstance rfl m_int (by decide +kernel) (by decide)) (pu_isi (x := "int") (T := "int") (pu_var 1) rfl m_isinstance rfl m_int (by decide +kernel) (by decide)) (nomark _)) (pu_one (pu_cmp (o_eq (u64 hr)) g_eq (pu_isi (x := "str") (T := "str") (pu_var 0) rfl m_isinstance rfl m_str (by decide +kernel) (by decide)) (pu_isi (x := "str") (T := "str") (pu_var 1) rfl m_isinstance rfl m_str (by decide +kernel) (by decide)) (nomark _))))) (puss_cons (pus_ret (pu_and (pu_var 4) (pu_and (pu_cmp (o_eq (u64 hr)) g_eq (pu_isi (x := "bool") (T := "bool") (pu_var 0) rfl m_isinstance rfl m_bool (by decide +kernel) (by decide)) (pu_isi (x := "bool") (T := "bool") (pu_var 1) rfl m_isinstance rfl m_bool (by decide +kernel) (by decide)) (nomark _)) (pu_one (pu_cmp (o_eq (u64 hr)) g_eq (pu_var 0) (pu_var 1) (nomark _)))))) puss_nil)))))

abbrev s__law_thing_text : Stmt := topS 23
theorem sc__law_thing_text : FnScope ["thing", "text", "part"] ["thing"] (defScope s__law_thing_text) := ⟨rfl, rfl, rfl, by decide +kernel, rfl, by decide +kernel, by decide +kernel⟩
def F__law_thing_text (g__law_thing_text : List PyData → Option PyData) : Ev → Option Out := (fSeq (fIfS (fT (fIsi (fVar 0) ["tuple", "list"])) (fSeq (fSet 1 (fJoin (fC (.str " ")) (fComp (fIt (fVar 0)) asOne [2] [2] (fun _ => some true) (fCall g__law_thing_text (fCons (fVar 2) fNil))))) (fSeq (fRet (fIf (fT (fIsi (fVar 0) ["tuple"])) (f2 gAdd (f2 gAdd (fC (.str "(")) (fVar 1)) (fC (.str ")"))) (f2 gAdd (f2 gAdd (fC (.str "[")) (fVar 1)) (fC (.str "]"))))) fNext)) fNext) (fSeq (fIfS (fOr (f2T isD (fVar 0) (fC .none)) (fOr (f2T isD (fVar 0) (fC (.bool true))) (f2T isD (fVar 0) (fC (.bool false))))) (fSeq (fRet (fIf (f2T isD (fVar 0) (fC .none)) (fC (.str "~")) (fIf (fT (fVar 0)) (fC (.str "!")) (fC (.str "."))))) fNext) fNext) (fSeq (fRet (fIf (fT (fIsi (fVar 0) ["int"])) (fCall gStr (fCons (fVar 0) fNil)) (fRepl " " "_" (fVar 0)))) fNext)))
theorem d__law_thing_text {k : Nat} {g__law_thing_text : List PyData → Option PyData}  (D : DefAt K mg "_law_thing_text" "_law_thing_text" s__law_thing_text ["thing"]) (m_isinstance : mg "isinstance" = none) (m_int : mg "int" = none) (m_str : mg "str" = none) (m_tuple : mg "tuple" = none) (m_list : mg "list" = none) (D__law_thing_text : DefP P w K mg base "_law_thing_text" k ["thing"] g__law_thing_text) : DefP P w K mg base "_law_thing_text" (k + 1) ["thing"] (runF ["thing", "text", "part"] 1 (F__law_thing_text g__law_thing_text)) :=
  defPT_of D sc__law_thing_text (by decide +kernel) (by decide) fun f cdv A outer s H E hr nd => (pusst_cons (pust_of (pus_if (put_val (pu_isi2 (x := "tuple") (y := "list") (T := "tuple") (U := "list") (pu_var 0) rfl m_isinstance rfl m_tuple (by decide +kernel) (by decide) rfl m_list (by decide +kernel) (by decide))) (puss_cons (pus_set (i := 1) nd rfl (Or.inl rfl) (pu_join pu_str (pu_lc (own := [("part", 2)]) (is := [2]) rfl nd (pui_any (pu_var 0)) (blkOk_by (N := ["thing", "text", "part"]) (sc := defScope s__law_thing_text) (by decide +kernel)) gp_one tp_yes (by decide) (fun _ _ _ _ _ => (pg_name (i := 2) nd rfl (Or.inl rfl))) (fun _ _ _ _ _ => pts_nil) (fun _ _ _ _ _ => (pu_callD D__law_thing_text hr rfl (pua_cons (pu_var 2) pua_nil)))))) (puss_cons (pus_ret (pu_ifE (put_val (pu_isi (x := "tuple") (T := "tuple") (pu_var 0) rfl m_isinstance rfl m_tuple (by decide +kernel) (by decide))) (pu_op o_add g_add (pu_op o_add g_add pu_str (pu_var 1)) pu_str) (pu_op o_add g_add (pu_op o_add g_add pu_str (pu_var 1)) pu_str))) puss_nil)) puss_nil)) (pusst_cons (pust_of (pus_if (put_w (puw_or (put_cmp o_is g_is (pu_var 0) pu_non (nomark _)) (puw_or (put_cmp o_is g_is (pu_var 0) pu_bl (nomark _)) (puw_or1 (put_cmp o_is g_is (pu_var 0) pu_bl (nomark _)))))) (puss_cons (pus_ret (pu_ifE (put_cmp o_is g_is (pu_var 0) pu_non (nomark _)) pu_str (pu_ifE (put_val (pu_var 0)) pu_str pu_str))) puss_nil) puss_nil)) (pusst_cons (pust_ret (puet_ifE (put_val (pu_isi (x := "int") (T := "int") (pu_var 0) rfl m_isinstance rfl m_int (by decide +kernel) (by decide))) (puet_of (pu_callTy call_str_int gc_str rfl m_str boot_str (pua_cons (pu_var 0) pua_nil))) (puet_repl (pu_var 0)))) pusst_nil)))

abbrev s__law_due : Stmt := topS 27
theorem sc__law_due : FnScope ["text", "told"] ["text"] (defScope s__law_due) := ⟨rfl, rfl, rfl, by decide +kernel, rfl, by decide +kernel, by decide +kernel⟩
def F__law_due (g__law_parsed : List PyData → Option PyData) : Ev → Option Out := (fSeq (fSet 1 (fCall g__law_parsed (fCons (fVar 0) (fCons (fC (.int 0)) fNil)))) (fSeq (fIfS (fAnd (f2T gEq (f2 gIx (fVar 1) (fC (.int 0))) (fC (.str "good"))) (f2T gEq (f2 gIx (fVar 1) (fC (.int 1))) (fCall gLen (fCons (fVar 0) fNil)))) (fSeq (fRet (fLst (fCons (fC (.str "told")) (fCons (f2 gIx (fVar 1) (fC (.int 2))) fNil)))) fNext) fNext) (fSeq (fRet (fLst (fCons (fC (.str "unread")) (fCons (f2 gIx (fVar 1) (fC (.int 1))) fNil)))) fNext)))
theorem d__law_due {k : Nat} {g__law_parsed : List PyData → Option PyData}  (D : DefAt K mg "_law_due" "_law_due" s__law_due ["text"]) (m_len : mg "len" = none) (D__law_parsed : DefP P w K mg base "_law_parsed" k ["text", "at"] g__law_parsed) : DefP P w K mg base "_law_due" (k + 1) ["text"] (runF ["text", "told"] 1 (F__law_due g__law_parsed)) :=
  defP_of D sc__law_due fun f cdv A outer s H E hr nd => (puss_cons (pus_set (i := 1) nd rfl (Or.inl rfl) (pu_callD D__law_parsed hr rfl (pua_cons (pu_var 0) (pua_cons pu_int pua_nil)))) (puss_cons (pus_if (put_w (puw_and (put_cmp (o_eq (u64 hr)) g_eq (pu_ix (u1 hr) (pu_var 1) pu_int (fun _ _ => rfl) (fun _ _ => rfl)) pu_str (nomark _)) (puw_and1 (put_cmp (o_eq (u64 hr)) g_eq (pu_ix (u1 hr) (pu_var 1) pu_int (fun _ _ => rfl) (fun _ _ => rfl)) (pu_callB c_len gc_len rfl m_len boot_len (pua_cons (pu_var 0) pua_nil)) (nomark _))))) (puss_cons (pus_ret (pu_lst (pua_cons pu_str (pua_cons (pu_ix (u1 hr) (pu_var 1) pu_int (fun _ _ => rfl) (fun _ _ => rfl)) pua_nil)))) puss_nil) puss_nil) (puss_cons (pus_ret (pu_lst (pua_cons pu_str (pua_cons (pu_ix (u1 hr) (pu_var 1) pu_int (fun _ _ => rfl) (fun _ _ => rfl)) pua_nil)))) puss_nil)))

abbrev s__law_token : Stmt := topS 25
theorem sc__law_token : FnScope ["text", "at", "sign", "end", "start"] ["text", "at"] (defScope s__law_token) := ⟨rfl, rfl, rfl, by decide +kernel, rfl, by decide +kernel, by decide +kernel⟩
def F__law_token  (WN : Ev → Nat) : Ev → Option Out := (fSeq (fSet 2 (f2 gIx (fVar 0) (fVar 1))) (fSeq (fIfS (f2T gInD (fVar 2) (fC (.str "!.~"))) (fSeq (fRet (fLst (fCons (fC (.str "good")) (fCons (f2 gAdd (fVar 1) (fC (.int 1))) (fCons (f2 gIx (fDict [(.inr "!", (fC (.bool true))), (.inr ".", (fC (.bool false))), (.inr "~", (fC .none))]) (fVar 2)) fNil))))) fNext) fNext) (fSeq (fIfS (f2T gInD (fVar 2) (fC (.str "abcdefghijklmnopqrstuvwxyz?"))) (fSeq (fSet 3 (f2 gAdd (fVar 1) (fC (.int 1)))) (fSeq (fun ev => whileN (fAnd (f2T gLt (fVar 3) (fCall gLen (fCons (fVar 0) fNil))) (fAnd (f2T gInD (f2 gIx (fVar 0) (fVar 3)) (fC (.str "abcdefghijklmnopqrstuvwxyz0123456789@?_"))) (fNot (fAnd (f2T gEq (f2 gIx (fVar 0) (fVar 3)) (fC (.str "_"))) (f2T gEq (f2 gIx (fVar 0) (f2 gSub (fVar 3) (fC (.int 1)))) (fC (.str "_"))))))) (fSeq (fSet 3 (f2 gAdd (fVar 3) (fC (.int 1)))) fNext) (WN ev) ev) (fSeq (fIfS (f2T gEq (f2 gIx (fVar 0) (f2 gSub (fVar 3) (fC (.int 1)))) (fC (.str "_"))) (fSeq (fRet (fLst (fCons (fIf (f2T gEq (fVar 3) (fCall gLen (fCons (fVar 0) fNil))) (fC (.str "open")) (fC (.str "bad"))) (fCons (fVar 3) (fCons (fC .none) fNil))))) fNext) fNext) (fSeq (fRet (fLst (fCons (fC (.str "good")) (fCons (fVar 3) (fCons (fRepl "_" " " (fSl (fVar 0) (fO (fVar 1)) (fO (fVar 3)))) fNil))))) fNext)))) fNext) (fSeq (fSet 4 (fIf (f2T gEq (fVar 2) (fC (.str "-"))) (f2 gAdd (fVar 1) (fC (.int 1))) (fVar 1))) (fSeq (fIfS (f2T gEq (fVar 4) (fCall gLen (fCons (fVar 0) fNil))) (fSeq (fRet (fLst (fCons (fC (.str "open")) (fCons (fVar 4) (fCons (fC .none) fNil))))) fNext) fNext) (fSeq (fIfS (fOr (f2T gNiD (f2 gIx (fVar 0) (fVar 4)) (fC (.str "0123456789"))) (fAnd (f2T gEq (fVar 2) (fC (.str "-"))) (f2T gEq (f2 gIx (fVar 0) (fVar 4)) (fC (.str "0"))))) (fSeq (fRet (fLst (fCons (fC (.str "bad")) (fCons (fVar 4) (fCons (fC .none) fNil))))) fNext) fNext) (fSeq (fSet 3 (f2 gAdd (fVar 4) (fC (.int 1)))) (fSeq (fun ev => whileN (fAnd (f2T gLt (fVar 3) (fCall gLen (fCons (fVar 0) fNil))) (fAnd (f2T gInD (f2 gIx (fVar 0) (fVar 3)) (fC (.str "0123456789"))) (f2T gNe (f2 gIx (fVar 0) (fVar 4)) (fC (.str "0"))))) (fSeq (fSet 3 (f2 gAdd (fVar 3) (fC (.int 1)))) fNext) (WN ev) ev) (fSeq (fRet (fLst (fCons (fC (.str "good")) (fCons (fVar 3) (fCons (fCall gInt (fCons (fSl (fVar 0) (fO (fVar 1)) (fO (fVar 3))) fNil)) fNil))))) fNext)))))))))
theorem d__law_token {k : Nat}  (WN : Ev → Nat)  (D : DefAt K mg "_law_token" "_law_token" s__law_token ["text", "at"]) (m_int : mg "int" = none) (m_len : mg "len" = none) : DefP P w K mg base "_law_token" (k + 1) ["text", "at"] (runF ["text", "at", "sign", "end", "start"] 2 (F__law_token WN)) :=
  defPT_of D sc__law_token (by decide +kernel) (by decide) fun f cdv A outer s H E hr nd => (pusst_cons (pust_of (pus_set (i := 2) nd rfl (Or.inl rfl) (pu_ix (u1 hr) (pu_var 0) (pu_var 1) (fun _ _ => rfl) (fun _ _ => rfl)))) (pusst_cons (pust_of (pus_if (put_in (u1 hr) (pu_var 2) pu_str) (puss_cons (pus_ret (pu_lst (pua_cons pu_str (pua_cons (pu_op o_add g_add (pu_var 1) pu_int) (pua_cons (pu_ix (u1 hr) (pu_dic (.str pu_bl (.str pu_bl (.str pu_non .nil))) (by decide) (by decide) (by decide +kernel)) (pu_var 2) (fun _ _ => rfl) (fun _ _ => rfl)) pua_nil))))) puss_nil) puss_nil)) (pusst_cons (pust_if (put_in (u1 hr) (pu_var 2) pu_str) (pusst_cons (pust_of (pus_set (i := 3) nd rfl (Or.inl rfl) (pu_op o_add g_add (pu_var 1) pu_int))) (pusst_cons (pust_of (pus_while WN PassesOwn.never (put_w (puw_and (put_cmp o_lt g_lt (pu_var 3) (pu_callB c_len gc_len rfl m_len boot_len (pua_cons (pu_var 0) pua_nil)) (nomark _)) (puw_and (put_in (u1 hr) (pu_ix (u1 hr) (pu_var 0) (pu_var 3) (fun _ _ => rfl) (fun _ _ => rfl)) pu_str) (puw_and1 (put_not (put_w (puw_and (put_cmp (o_eq (u64 hr)) g_eq (pu_ix (u1 hr) (pu_var 0) (pu_var 3) (fun _ _ => rfl) (fun _ _ => rfl)) pu_str (nomark _)) (puw_and1 (put_cmp (o_eq (u64 hr)) g_eq (pu_ix (u1 hr) (pu_var 0) (pu_op o_sub g_sub (pu_var 3) pu_int) (fun _ _ => rfl) (fun _ _ => rfl)) pu_str (nomark _)))))))))) (puss_cons (pus_set (i := 3) nd rfl (Or.inl rfl) (pu_op o_add g_add (pu_var 3) pu_int)) puss_nil))) (pusst_cons (pust_of (pus_if (put_cmp (o_eq (u64 hr)) g_eq (pu_ix (u1 hr) (pu_var 0) (pu_op o_sub g_sub (pu_var 3) pu_int) (fun _ _ => rfl) (fun _ _ => rfl)) pu_str (nomark _)) (puss_cons (pus_ret (pu_lst (pua_cons (pu_ifE (put_cmp (o_eq (u64 hr)) g_eq (pu_var 3) (pu_callB c_len gc_len rfl m_len boot_len (pua_cons (pu_var 0) pua_nil)) (nomark _)) pu_str pu_str) (pua_cons (pu_var 3) (pua_cons pu_non pua_nil))))) puss_nil) puss_nil)) (pusst_cons (pust_ret (puet_lst (puat_cons (puet_of pu_str) (puat_cons (puet_of (pu_var 3)) (puat_cons (puet_repl (pu_sl (pu_var 0) (puo_some (pu_var 1)) (puo_some (pu_var 3)))) puat_nil))))) pusst_nil)))) pusst_nil) (pusst_cons (pust_of (pus_set (i := 4) nd rfl (Or.inl rfl) (pu_ifE (put_cmp (o_eq (u64 hr)) g_eq (pu_var 2) pu_str (nomark _)) (pu_op o_add g_add (pu_var 1) pu_int) (pu_var 1)))) (pusst_cons (pust_of (pus_if (put_cmp (o_eq (u64 hr)) g_eq (pu_var 4) (pu_callB c_len gc_len rfl m_len boot_len (pua_cons (pu_var 0) pua_nil)) (nomark _)) (puss_cons (pus_ret (pu_lst (pua_cons pu_str (pua_cons (pu_var 4) (pua_cons pu_non pua_nil))))) puss_nil) puss_nil)) (pusst_cons (pust_of (pus_if (put_w (puw_or (put_ni (u1 hr) (pu_ix (u1 hr) (pu_var 0) (pu_var 4) (fun _ _ => rfl) (fun _ _ => rfl)) pu_str) (puw_or1 (put_w (puw_and (put_cmp (o_eq (u64 hr)) g_eq (pu_var 2) pu_str (nomark _)) (puw_and1 (put_cmp (o_eq (u64 hr)) g_eq (pu_ix (u1 hr) (pu_var 0) (pu_var 4) (fun _ _ => rfl) (fun _ _ => rfl)) pu_str (nomark _)))))))) (puss_cons (pus_ret (pu_lst (pua_cons pu_str (pua_cons (pu_var 4) (pua_cons pu_non pua_nil))))) puss_nil) puss_nil)) (pusst_cons (pust_of (pus_set (i := 3) nd rfl (Or.inl rfl) (pu_op o_add g_add (pu_var 4) pu_int))) (pusst_cons (pust_of (pus_while WN PassesOwn.never (put_w (puw_and (put_cmp o_lt g_lt (pu_var 3) (pu_callB c_len gc_len rfl m_len boot_len (pua_cons (pu_var 0) pua_nil)) (nomark _)) (puw_and (put_in (u1 hr) (pu_ix (u1 hr) (pu_var 0) (pu_var 3) (fun _ _ => rfl) (fun _ _ => rfl)) pu_str) (puw_and1 (put_cmp (o_ne (u64 hr)) g_ne (pu_ix (u1 hr) (pu_var 0) (pu_var 4) (fun _ _ => rfl) (fun _ _ => rfl)) pu_str (nomark _)))))) (puss_cons (pus_set (i := 3) nd rfl (Or.inl rfl) (pu_op o_add g_add (pu_var 3) pu_int)) puss_nil))) (pusst_cons (pust_of (pus_ret (pu_lst (pua_cons pu_str (pua_cons (pu_var 3) (pua_cons (pu_callTy c_int gc_int rfl m_int boot_int (pua_cons (pu_sl (pu_var 0) (puo_some (pu_var 1)) (puo_some (pu_var 3))) pua_nil)) pua_nil)))))) pusst_nil)))))))))

end
end K88

set_option Elab.async false
set_option linter.all false
set_option maxRecDepth 100000
set_option maxHeartbeats 4000000
namespace K88
open PySem PySem.Spec PyProof.Rows L2 Pu
section
variable {P : Program} {w : World} {K : PySem.W.Frag} {mg : Str → Option Value} {base : Heap}
abbrev s_ThingReader_goes_on : Stmt := inClass (topS 13) 2
theorem sc_ThingReader_goes_on : FnScope ["self", "sign", "is_sign"] ["self", "sign"] (defScope s_ThingReader_goes_on) := ⟨rfl, rfl, rfl, by decide +kernel, rfl, by decide +kernel, by decide +kernel⟩
def F_ThingReader_goes_on (C : Addr)  : Ev → Option Out := (fSeq (fIfS (f2T gEq (fFld C "word" (fVar 0)) (fC (.str ""))) (fSeq (fRet (fOrV (fB (fChain gLe gLe (fC (.str "a")) (fVar 1) (fC (.str "z")))) (fOrV (fB (fChain gLe gLe (fC (.str "0")) (fVar 1) (fC (.str "9")))) (fB (f2T gInD (fVar 1) (fC (.str "?-!.~"))))))) fNext) fNext) (fSeq (fIfS (f2T gInD (f2 gIx (fFld C "word" (fVar 0)) (fC (.int 0))) (fC (.str "-0123456789"))) (fSeq (fRet (fAndV (fB (fChain gLe gLe (fC (.str "0")) (fVar 1) (fC (.str "9")))) (fAndV (fB (f2T gNe (fFld C "word" (fVar 0)) (fC (.str "0")))) (fOrV (fB (f2T gNe (fFld C "word" (fVar 0)) (fC (.str "-")))) (fB (f2T gNe (fVar 1) (fC (.str "0")))))))) fNext) fNext) (fSeq (fIfS (f2T gInD (fFld C "word" (fVar 0)) (fTup (fCons (fC (.str "!")) (fCons (fC (.str ".")) (fCons (fC (.str "~")) fNil))))) (fSeq (fRet (fC (.bool false))) fNext) fNext) (fSeq (fSet 2 (fOrV (fB (fChain gLe gLe (fC (.str "a")) (fVar 1) (fC (.str "z")))) (fOrV (fB (fChain gLe gLe (fC (.str "0")) (fVar 1) (fC (.str "9")))) (fB (f2T gInD (fVar 1) (fC (.str "@?"))))))) (fSeq (fRet (fOrV (fVar 2) (fAndV (fB (f2T gEq (fVar 1) (fC (.str "_")))) (fB (f2T gNe (f2 gIx (fFld C "word" (fVar 0)) (fNeg (fC (.int 1)))) (fC (.str "_"))))))) fNext)))))
theorem d_ThingReader_goes_on {k : Nat} {f0 : Addr} {fd0 : FuncData}  {C : Addr} (Fn : Fun K "goes_on" "ThingReader.goes_on" s_ThingReader_goes_on f0 fd0) (cl : Cls K C) (n_word : NoAttr K C "word") : FnOk P w K mg base CX0 (k + 1) f0 fd0 ["self", "sign"] (spP (runF ["self", "sign", "is_sign"] 2 (F_ThingReader_goes_on C ))) :=
  pu_def Fn sc_ThingReader_goes_on fun cdv A outer s H E hr => have nd := sc_ThingReader_goes_on.nd; (puss_cons (pus_if (put_cmp (o_eq (u64 hr)) g_eq (pu_fld (pu_var 0) cl n_word) pu_str (nomark _)) (puss_cons (pus_ret (pu_or (pu_chain o_le g_le o_le g_le pu_str (pu_var 1) pu_str) (pu_or (pu_chain o_le g_le o_le g_le pu_str (pu_var 1) pu_str) (pu_one (pu_in (u1 hr) (pu_var 1) pu_str))))) puss_nil) puss_nil) (puss_cons (pus_if (put_in (u1 hr) (pu_ix (u1 hr) (pu_fld (pu_var 0) cl n_word) pu_int (fun _ _ => rfl) (fun _ _ => rfl)) pu_str) (puss_cons (pus_ret (pu_and (pu_chain o_le g_le o_le g_le pu_str (pu_var 1) pu_str) (pu_and (pu_cmp (o_ne (u64 hr)) g_ne (pu_fld (pu_var 0) cl n_word) pu_str (nomark _)) (pu_one (pu_or (pu_cmp (o_ne (u64 hr)) g_ne (pu_fld (pu_var 0) cl n_word) pu_str (nomark _)) (pu_one (pu_cmp (o_ne (u64 hr)) g_ne (pu_var 1) pu_str (nomark _)))))))) puss_nil) puss_nil) (puss_cons (pus_if (put_in (u1 hr) (pu_fld (pu_var 0) cl n_word) (pu_tup (pua_cons pu_str (pua_cons pu_str (pua_cons pu_str pua_nil))))) (puss_cons (pus_ret pu_bl) puss_nil) puss_nil) (puss_cons (pus_set (i := 2) nd rfl (Or.inl rfl) (pu_or (pu_chain o_le g_le o_le g_le pu_str (pu_var 1) pu_str) (pu_or (pu_chain o_le g_le o_le g_le pu_str (pu_var 1) pu_str) (pu_one (pu_in (u1 hr) (pu_var 1) pu_str))))) (puss_cons (pus_ret (pu_or (pu_var 2) (pu_one (pu_and (pu_cmp (o_eq (u64 hr)) g_eq (pu_var 1) pu_str (nomark _)) (pu_one (pu_cmp (o_ne (u64 hr)) g_ne (pu_ix (u1 hr) (pu_fld (pu_var 0) cl n_word) (pu_neg pu_int) (fun _ _ => rfl) (fun _ _ => rfl)) pu_str (nomark _))))))) puss_nil)))))

abbrev s_ThingReader_item : Stmt := inClass (topS 13) 3
theorem sc_ThingReader_item : FnScope ["self", "items"] ["self"] (defScope s_ThingReader_item) := ⟨rfl, rfl, rfl, by decide +kernel, rfl, by decide +kernel, by decide +kernel⟩
def F_ThingReader_item (C : Addr)  : Ev → Option Out := (fSeq (fIfS (fOr (f2T gInD (fFld C "word" (fVar 0)) (fTup (fCons (fC (.str "")) (fCons (fC (.str "-")) fNil)))) (f2T gEq (f2 gIx (fFld C "word" (fVar 0)) (fNeg (fC (.int 1)))) (fC (.str "_")))) (fSeq (fRet (fC .none)) fNext) fNext) (fSeq (fIfS (f2T gInD (f2 gIx (fFld C "word" (fVar 0)) (fC (.int 0))) (fC (.str "-0123456789"))) (fSeq (fRet (fTup (fCons (fCall gInt (fCons (fFld C "word" (fVar 0)) fNil)) fNil))) fNext) fNext) (fSeq (fSet 1 (fDict [(.inr "!", (fC (.bool true))), (.inr ".", (fC (.bool false))), (.inr "~", (fC .none))])) (fSeq (fRet (fTup (fCons (fIf (f2T gInD (fFld C "word" (fVar 0)) (fVar 1)) (f2 gIx (fVar 1) (fFld C "word" (fVar 0))) (fRepl "_" " " (fFld C "word" (fVar 0)))) fNil))) fNext))))
theorem d_ThingReader_item {k : Nat} {f0 : Addr} {fd0 : FuncData}  {C : Addr} (Fn : Fun K "item" "ThingReader.item" s_ThingReader_item f0 fd0) (cl : Cls K C) (n_word : NoAttr K C "word") (m_int : mg "int" = none) : FnOk P w K mg base CX0 (k + 1) f0 fd0 ["self"] (spP (runF ["self", "items"] 1 (F_ThingReader_item C ))) :=
  pu_defT Fn sc_ThingReader_item (of_cells (by decide +kernel)) (by decide) fun cdv A outer s H E hr => have nd := sc_ThingReader_item.nd; (pusst_cons (pust_of (pus_if (put_w (puw_or (put_in (u1 hr) (pu_fld (pu_var 0) cl n_word) (pu_tup (pua_cons pu_str (pua_cons pu_str pua_nil)))) (puw_or1 (put_cmp (o_eq (u64 hr)) g_eq (pu_ix (u1 hr) (pu_fld (pu_var 0) cl n_word) (pu_neg pu_int) (fun _ _ => rfl) (fun _ _ => rfl)) pu_str (nomark _))))) (puss_cons (pus_ret pu_non) puss_nil) puss_nil)) (pusst_cons (pust_of (pus_if (put_in (u1 hr) (pu_ix (u1 hr) (pu_fld (pu_var 0) cl n_word) pu_int (fun _ _ => rfl) (fun _ _ => rfl)) pu_str) (puss_cons (pus_ret (pu_tup (pua_cons (pu_callTy c_int gc_int rfl m_int boot_int (pua_cons (pu_fld (pu_var 0) cl n_word) pua_nil)) pua_nil))) puss_nil) puss_nil)) (pusst_cons (pust_of (pus_set (i := 1) nd rfl (Or.inl rfl) (pu_dic (.str pu_bl (.str pu_bl (.str pu_non .nil))) (by decide) (by decide) (by decide +kernel)))) (pusst_cons (pust_ret (puet_tup (puat_cons (puet_ifE (put_in (u1 hr) (pu_fld (pu_var 0) cl n_word) (pu_var 1)) (puet_of (pu_ix (u1 hr) (pu_var 1) (pu_fld (pu_var 0) cl n_word) (fun _ _ => rfl) (fun _ _ => rfl))) (puet_repl (pu_fld (pu_var 0) cl n_word))) puat_nil))) pusst_nil))))

end
end K88

set_option Elab.async false
set_option linter.all false
set_option maxRecDepth 100000
set_option maxHeartbeats 4000000
namespace K88
open PySem PySem.Spec PyProof.Rows L2 Pu
section
variable {P : Program} {w : World} {K : PySem.W.Frag} {mg : Str → Option Value} {base : Heap}
abbrev s__law_parsed : Stmt := topS 26
theorem sc__law_parsed : FnScope ["text", "at", "shut", "found", "here", "told"] ["text", "at"] (defScope s__law_parsed) := ⟨rfl, rfl, rfl, by decide +kernel, rfl, by decide +kernel, by decide +kernel⟩
def F__law_parsed (g__law_parsed : List PyData → Option PyData) (g__law_token : List PyData → Option PyData) (WN : Ev → Nat) : Ev → Option Out := (fSeq (fIfS (f2T gEq (fVar 1) (fCall gLen (fCons (fVar 0) fNil))) (fSeq (fRet (fLst (fCons (fC (.str "open")) (fCons (fVar 1) (fCons (fC .none) fNil))))) fNext) fNext) (fSeq (fIfS (f2T gNiD (f2 gIx (fVar 0) (fVar 1)) (fC (.str "(["))) (fSeq (fRet (fCall g__law_token (fCons (fVar 0) (fCons (fVar 1) fNil)))) fNext) fNext) (fOwn3 2 3 4 (fIf (f2T gEq (f2 gIx (fVar 0) (fVar 1)) (fC (.str "("))) (fC (.str ")")) (fC (.str "]"))) (f2 gAdd (fVar 1) (fC (.int 1))) (fSeqB (fun ev => whileB (fAnd (f2T gLt (fVar 4) (fCall gLen (fCons (fVar 0) fNil))) (fNot (fAnd (f2T gEq (fVar 3) (fLst fNil)) (f2T gEq (f2 gIx (fVar 0) (fVar 4)) (fVar 2))))) (fSeqB (fSetB 3 5 (fCall g__law_parsed (fCons (fVar 0) (fCons (fVar 4) fNil)))) (fSeqB (fIfB (f2T gNe (f2 gIx (fVar 5) (fC (.int 0))) (fC (.str "good"))) (fSeqB (fRetB (fVar 5)) fNextB) fNextB) (fSeqB (fApp 3 (f2 gIx (fVar 5) (fC (.int 2)))) (fSeqB (fSetB 3 4 (f2 gIx (fVar 5) (fC (.int 1)))) (fSeqB (fIfB (fAnd (f2T gLt (fVar 4) (fCall gLen (fCons (fVar 0) fNil))) (f2T gNiD (f2 gIx (fVar 0) (fVar 4)) (fLst (fCons (fC (.str " ")) (fCons (fVar 2) fNil))))) (fSeqB (fRetB (fLst (fCons (fC (.str "bad")) (fCons (fVar 4) (fCons (fC .none) fNil))))) fNextB) fNextB) (fSeqB (fIfB (fAnd (f2T gLt (fVar 4) (fCall gLen (fCons (fVar 0) fNil))) (f2T gEq (f2 gIx (fVar 0) (fVar 4)) (fVar 2))) (fSeqB fBrk fNextB) fNextB) (fSeqB (fSetB 3 4 (f2 gAdd (fVar 4) (fC (.int 1)))) fNextB))))))) (WN ev) ev) (fSeqB (fIfB (f2T gGe (fVar 4) (fCall gLen (fCons (fVar 0) fNil))) (fSeqB (fRetB (fLst (fCons (fC (.str "open")) (fCons (fCall gLen (fCons (fVar 0) fNil)) (fCons (fC .none) fNil))))) fNextB) fNextB) (fSeqB (fRetB (fLst (fCons (fC (.str "good")) (fCons (f2 gAdd (fVar 4) (fC (.int 1))) (fCons (fIf (f2T gEq (fVar 2) (fC (.str ")"))) (fCall gTuple (fCons (fVar 3) fNil)) (fVar 3)) fNil))))) fNextB))))))
theorem d__law_parsed {k : Nat} {g__law_parsed : List PyData → Option PyData} {g__law_token : List PyData → Option PyData} (WN : Ev → Nat)  (D : DefAt K mg "_law_parsed" "_law_parsed" s__law_parsed ["text", "at"]) (m_tuple : mg "tuple" = none) (m_len : mg "len" = none) (D__law_parsed : DefP P w K mg base "_law_parsed" k ["text", "at"] g__law_parsed) (D__law_token : DefP P w K mg base "_law_token" k ["text", "at"] g__law_token) : DefP P w K mg base "_law_parsed" (k + 1) ["text", "at"] (runF ["text", "at", "shut", "found", "here", "told"] 2 (F__law_parsed g__law_parsed g__law_token WN)) :=
  defP_of D sc__law_parsed fun f cdv A outer s H E hr nd => (puss_cons (pus_if (put_cmp (o_eq (u64 hr)) g_eq (pu_var 1) (pu_callB c_len gc_len rfl m_len boot_len (pua_cons (pu_var 0) pua_nil)) (nomark _)) (puss_cons (pus_ret (pu_lst (pua_cons pu_str (pua_cons (pu_var 1) (pua_cons pu_non pua_nil))))) puss_nil) puss_nil) (puss_cons (pus_if (put_ni (u1 hr) (pu_ix (u1 hr) (pu_var 0) (pu_var 1) (fun _ _ => rfl) (fun _ _ => rfl)) pu_str) (puss_cons (pus_ret (pu_callD D__law_token hr rfl (pua_cons (pu_var 0) (pua_cons (pu_var 1) pua_nil)))) puss_nil) puss_nil) (puss_own3 (j := 2) (i := 3) (l := 4) nd rfl rfl rfl (by decide) (by decide) (by decide) rfl rfl rfl (pu_ifE (put_cmp (o_eq (u64 hr)) g_eq (pu_ix (u1 hr) (pu_var 0) (pu_var 1) (fun _ _ => rfl) (fun _ _ => rfl)) pu_str (nomark _)) pu_str pu_str) (pu_op o_add g_add (pu_var 1) pu_int) (pubs_cons (pub_while WN PassesOwn.never (put_w (puw_and (put_cmp o_lt g_lt (pu_var 4) (pu_callB c_len gc_len rfl m_len boot_len (pua_cons (pu_var 0) pua_nil)) (nomark _)) (puw_and1 (put_not (put_w (puw_and (put_cmp (o_eq (u64 hr)) g_eq (pu_var 3) (pu_lst pua_nil) (nomark _)) (puw_and1 (put_cmp (o_eq (u64 hr)) g_eq (pu_ix (u1 hr) (pu_var 0) (pu_var 4) (fun _ _ => rfl) (fun _ _ => rfl)) (pu_var 2) (nomark _))))))))) (pubs_cons (pub_set (i := 3) (j := 5) (by decide) nd rfl (Or.inl rfl) (pu_callD D__law_parsed hr rfl (pua_cons (pu_var 0) (pua_cons (pu_var 4) pua_nil)))) (pubs_cons (pub_if (put_cmp (o_ne (u64 hr)) g_ne (pu_ix (u1 hr) (pu_var 5) pu_int (fun _ _ => rfl) (fun _ _ => rfl)) pu_str (nomark _)) (pubs_cons (pub_ret (pu_var 5)) pubs_nil) pubs_nil) (pubs_cons (pub_app (i := 3) rfl (Or.inl rfl) (pu_ix (u1 hr) (pu_var 5) pu_int (fun _ _ => rfl) (fun _ _ => rfl))) (pubs_cons (pub_set (i := 3) (j := 4) (by decide) nd rfl (Or.inl rfl) (pu_ix (u1 hr) (pu_var 5) pu_int (fun _ _ => rfl) (fun _ _ => rfl))) (pubs_cons (pub_if (put_w (puw_and (put_cmp o_lt g_lt (pu_var 4) (pu_callB c_len gc_len rfl m_len boot_len (pua_cons (pu_var 0) pua_nil)) (nomark _)) (puw_and1 (put_ni (u1 hr) (pu_ix (u1 hr) (pu_var 0) (pu_var 4) (fun _ _ => rfl) (fun _ _ => rfl)) (pu_lst (pua_cons pu_str (pua_cons (pu_var 2) pua_nil))))))) (pubs_cons (pub_ret (pu_lst (pua_cons pu_str (pua_cons (pu_var 4) (pua_cons pu_non pua_nil))))) pubs_nil) pubs_nil) (pubs_cons (pub_if (put_w (puw_and (put_cmp o_lt g_lt (pu_var 4) (pu_callB c_len gc_len rfl m_len boot_len (pua_cons (pu_var 0) pua_nil)) (nomark _)) (puw_and1 (put_cmp (o_eq (u64 hr)) g_eq (pu_ix (u1 hr) (pu_var 0) (pu_var 4) (fun _ _ => rfl) (fun _ _ => rfl)) (pu_var 2) (nomark _))))) (pubs_cons pub_break pubs_nil) pubs_nil) (pubs_cons (pub_set (i := 3) (j := 4) (by decide) nd rfl (Or.inl rfl) (pu_op o_add g_add (pu_var 4) pu_int)) pubs_nil)))))))) (pubs_cons (pub_if (put_cmp o_ge g_ge (pu_var 4) (pu_callB c_len gc_len rfl m_len boot_len (pua_cons (pu_var 0) pua_nil)) (nomark _)) (pubs_cons (pub_ret (pu_lst (pua_cons pu_str (pua_cons (pu_callB c_len gc_len rfl m_len boot_len (pua_cons (pu_var 0) pua_nil)) (pua_cons pu_non pua_nil))))) pubs_nil) pubs_nil) (pubs_cons (pub_ret (pu_lst (pua_cons pu_str (pua_cons (pu_op o_add g_add (pu_var 4) pu_int) (pua_cons (pu_ifE (put_cmp (o_eq (u64 hr)) g_eq (pu_var 2) pu_str (nomark _)) (pu_callTy call_tuple_of gc_tuple rfl m_tuple boot_tuple (pua_cons (pu_var 3) pua_nil)) (pu_var 3)) pua_nil))))) pubs_nil))))))

end
end K88

set_option Elab.async false
set_option linter.all false
set_option maxRecDepth 100000
set_option maxHeartbeats 4000000
/-! The reader's object: what it holds, how it grows. -/
namespace K88
open PySem PySem.Spec PyProof.Rows L2 Pu
structure RdSt where
  lots : List (List PyData)
  signs : List Str
  word : Str
  ended : Bool
def rdF (L S : Addr) (w : Str) (b : Bool) : List (Str × V) := [("lots", .ref L), ("signs", .ref S), ("word", .str w), ("is_ended", .bl b)]
theorem rd_lots {L S w b} : (rdF L S w b).lookup ("lots" : Str) = some (.ref L) := rfl
theorem rd_signs {L S w b} : (rdF L S w b).lookup ("signs" : Str) = some (.ref S) := rfl
theorem rd_word {L S w b} : (rdF L S w b).lookup ("word" : Str) = some (.str w) := rfl
theorem rd_ended {L S w b} : (rdF L S w b).lookup ("is_ended" : Str) = some (.bl b) := rfl
theorem rd_put_word {L S w b u} : putF "word" (.str u) (rdF L S w b) = rdF L S u b := rfl
theorem rd_put_ended {L S w b u} : putF "is_ended" (.bl u) (rdF L S w b) = rdF L S w u := rfl
def obD (C : Addr) (st : RdSt) : PyData := .dict ((.none, .int (C : Nat)) :: [(.str "lots", .list (st.lots.map .list).reverse), (.str "signs", .list (st.signs.map .str).reverse), (.str "word", .str st.word), (.str "is_ended", .bool st.ended)])
inductive Lots (H Hs : Hp) : List Addr → List (List PyData) → Prop
  | nil : Lots H Hs [] []
  | cons {l : Addr} {ds : List PyData} {vs : List V} {ls : List Addr} {dss : List (List PyData)} : H l = some (.lst vs) → RpAll Hs ds vs → Lots H Hs ls dss → Lots H Hs (l :: ls) (ds :: dss)
theorem Lots.mono {H H' Hs Hs' : Hp} : ∀ {ls : List Addr} {dss : List (List PyData)}, (∀ l ∈ ls, ∀ o, H l = some o → H' l = some o) → Same Hs Hs' → Lots H Hs ls dss → Lots H' Hs' ls dss
  | _, _, _, _, .nil => .nil
  | _, _, h, s, .cons e r t => .cons (h _ List.mem_cons_self _ e) (r.mono s) (Lots.mono (fun l hl => h l (List.mem_cons_of_mem _ hl)) s t)
theorem Lots.all {H Hs : Hp} : ∀ {ls : List Addr} {dss : List (List PyData)}, Same Hs H → Lots H Hs ls dss → RpAll H (dss.map .list) (ls.map .ref)
  | _, _, _, .nil => .nil
  | _, _, s, .cons e r t => .cons (.lst e (r.mono s)) (Lots.all s t)
theorem Lots.len {H Hs : Hp} : ∀ {ls : List Addr} {dss : List (List PyData)}, Lots H Hs ls dss → ls.length = dss.length
  | _, _, .nil => rfl
  | _, _, .cons _ _ t => by rw [List.length_cons, List.length_cons, t.len]
theorem rpAll_rev {H : Hp} : ∀ {ds : List PyData} {vs : List V}, RpAll H ds vs → RpAll H ds.reverse vs.reverse
  | _, _, .nil => .nil
  | _, _, .cons r t => by rw [List.reverse_cons, List.reverse_cons]; exact (rpAll_rev t).append (.cons r .nil)
theorem rpAll_strs {H : Hp} : ∀ (zs : List Str), RpAll H (zs.map .str) (zs.map .str)
  | [] => .nil
  | z :: zs => .cons (.str z) (rpAll_strs zs)
/-- the reader at r, all it owns new behind H0 -/
structure RdA (H0 Hs0 H Hs : Hp) (C r dx L S : Addr) (ls : List Addr) (st : RdSt) : Prop where
  ext : Ext H0 Hs0 H Hs
  nd : (r :: L :: S :: ls).Nodup
  out : ∀ x ∈ r :: L :: S :: ls, H0 x = none ∧ Hs x = none
  ro : H r = some (.ins C dx (rdF L S st.word st.ended))
  lo : H L = some (.lst (ls.map V.ref).reverse)
  so : H S = some (.lst (st.signs.map V.str).reverse)
  lots : Lots H Hs ls st.lots
def Rd (H0 Hs0 : Hp) (C r : Addr) (st : RdSt) (H : Hp) : Prop := ∃ Hs dx L S ls, RdA H0 Hs0 H Hs C r dx L S ls st
section
variable {H0 Hs0 H Hs H' : Hp} {C r dx L S : Addr} {ls : List Addr} {st : RdSt}
theorem RdA.view (R : RdA H0 Hs0 H Hs C r dx L S ls st) : Rp H (obD C st) (.ref r) :=
  .ob R.ro (.cons rd_lots (.lst R.lo (rpAll_rev (R.lots.all R.ext.sub))) (.cons rd_signs (.lst R.so (rpAll_rev (rpAll_strs _))) (.cons rd_word (.str _) (.cons rd_ended (.bl _) .nil))))
theorem RdA.grow (R : RdA H0 Hs0 H Hs C r dx L S ls st) (s : Same H H') : RdA H0 Hs0 H' Hs C r dx L S ls st :=
  ⟨⟨R.ext.big.trans s, R.ext.small, R.ext.sub.trans s, R.ext.new⟩, R.nd, R.out, s _ _ R.ro, s _ _ R.lo, s _ _ R.so, R.lots.mono (fun l _ o e => s l o e) (Same.refl _)⟩
theorem Rd.grow (R : Rd H0 Hs0 C r st H) (s : Same H H') : Rd H0 Hs0 C r st H' := let ⟨Hs, dx, L, S, ls, R⟩ := R; ⟨Hs, dx, L, S, ls, R.grow s⟩
/-- one of its own objects is changed -/
theorem RdA.exo (R : RdA H0 Hs0 H Hs C r dx L S ls st) {x : Addr} {o : HO} (hx : x ∈ r :: L :: S :: ls) : Ext H0 Hs0 (upd H x o) Hs :=
  ⟨fun b u e => by rw [upd_ne (ne_of_none e (R.out x hx).1)]; exact R.ext.big _ _ e, R.ext.small, fun b u e => by rw [upd_ne (ne_of_none e (R.out x hx).2)]; exact R.ext.sub _ _ e, R.ext.new⟩
theorem RdA.r_in (R : RdA H0 Hs0 H Hs C r dx L S ls st) : r ∈ r :: L :: S :: ls := List.mem_cons_self
theorem RdA.nrL (R : RdA H0 Hs0 H Hs C r dx L S ls st) : r ≠ L := fun e => by have := R.nd; simp [e] at this
theorem RdA.nrS (R : RdA H0 Hs0 H Hs C r dx L S ls st) : r ≠ S := fun e => by have := R.nd; simp [e] at this
theorem RdA.nLS (R : RdA H0 Hs0 H Hs C r dx L S ls st) : L ≠ S := fun e => by have := R.nd; simp [e] at this
theorem RdA.nrl (R : RdA H0 Hs0 H Hs C r dx L S ls st) {l : Addr} (h : l ∈ ls) : l ≠ r := fun e => by subst e; have := R.nd; simp [h] at this
theorem RdA.nLl (R : RdA H0 Hs0 H Hs C r dx L S ls st) {l : Addr} (h : l ∈ ls) : l ≠ L := fun e => by subst e; have := R.nd; simp [h] at this
theorem RdA.nSl (R : RdA H0 Hs0 H Hs C r dx L S ls st) {l : Addr} (h : l ∈ ls) : l ≠ S := fun e => by subst e; have := R.nd; simp [h] at this
/-- word, is_ended -/
theorem RdA.fields (R : RdA H0 Hs0 H Hs C r dx L S ls st) (w : Str) (b : Bool) : RdA H0 Hs0 (upd H r (.ins C dx (rdF L S w b))) Hs C r dx L S ls { st with word := w, ended := b } :=
  ⟨R.exo List.mem_cons_self, R.nd, R.out, upd_same, by rw [upd_ne R.nrL.symm]; exact R.lo, by rw [upd_ne R.nrS.symm]; exact R.so, R.lots.mono (fun l hl o e => by rw [upd_ne (R.nrl hl)]; exact e) (Same.refl _)⟩
/-- signs -/
theorem RdA.signs (R : RdA H0 Hs0 H Hs C r dx L S ls st) (zs : List Str) : RdA H0 Hs0 (upd H S (.lst (zs.map V.str).reverse)) Hs C r dx L S ls { st with signs := zs } :=
  ⟨R.exo (by simp), R.nd, R.out, by rw [upd_ne R.nrS]; exact R.ro, by rw [upd_ne R.nLS]; exact R.lo, upd_same, R.lots.mono (fun l hl o e => by rw [upd_ne (R.nSl hl)]; exact e) (Same.refl _)⟩
/-- a new lot -/
theorem RdA.push (R : RdA H0 Hs0 H Hs C r dx L S ls st) {p : Addr} (hp : H p = none) : RdA H0 Hs0 (upd (upd H p (.lst [])) L (.lst ((ls.map V.ref).reverse ++ [.ref p]))) Hs C r dx L S (p :: ls) { st with lots := [] :: st.lots } := by
  have g := R.grow (H' := upd H p (.lst [])) fun b u e => by rw [upd_ne (ne_of_none e hp)]; exact e
  have nr : r ≠ p := ne_of_none R.ro hp
  have nL : L ≠ p := ne_of_none R.lo hp
  have nS : S ≠ p := ne_of_none R.so hp
  have nl : p ∉ ls := fun h => by
    have : ∀ {ls : List Addr} {dss : List (List PyData)}, Lots H Hs ls dss → p ∈ ls → False := by
      intro ls dss t
      induction t with
      | nil => intro h; cases h
      | cons e r t ih =>
        intro h
        rcases List.mem_cons.mp h with rfl | h
        · rw [hp] at e; cases e
        · exact ih h
    exact this R.lots h
  refine ⟨g.exo (by simp), ?_, fun x hx => ?_, by rw [upd_ne R.nrL]; exact g.ro, ?_, by rw [upd_ne R.nLS.symm]; exact g.so, .cons ?_ .nil (g.lots.mono (fun l hl o e => by rw [upd_ne (R.nLl hl)]; exact e) (Same.refl _))⟩
  · have := R.nd
    simp only [List.nodup_cons, List.mem_cons, not_or] at this ⊢
    exact ⟨⟨this.1.1, this.1.2.1, nr, this.1.2.2⟩, ⟨this.2.1.1, nL, this.2.1.2⟩, ⟨nS, this.2.2.1⟩, nl, this.2.2.2⟩
  · by_cases h : x = p
    · subst h; exact ⟨R.ext.big.free hp, R.ext.sub.free hp⟩
    · refine R.out x ?_
      simp only [List.mem_cons] at hx ⊢
      rcases hx with z | z | z | z | z
      · exact .inl z
      · exact .inr (.inl z)
      · exact .inr (.inr (.inl z))
      · exact absurd z h
      · exact .inr (.inr (.inr z))
  · rw [upd_same, List.map_cons, List.reverse_cons] <;> rfl
  · rw [upd_ne nL.symm, upd_same] <;> rfl
/-- a thing into the lot on top -/
theorem RdA.put {l : Addr} {ds : List PyData} {dss : List (List PyData)} {d : PyData} {v : V} (R : RdA H0 Hs0 H Hs C r dx L S (l :: ls) st) (e : st.lots = ds :: dss) (rv : Rp Hs d v) : ∃ vs, H l = some (.lst vs) ∧ vs.length = ds.length ∧ RdA H0 Hs0 (upd H l (.lst (vs ++ [v]))) Hs C r dx L S (l :: ls) { st with lots := (ds ++ [d]) :: dss } := by
  have t := R.lots
  rw [e] at t
  cases t with
  | cons hl rl t =>
    rename_i vs
    have hm : l ∈ l :: ls := List.mem_cons_self
    refine ⟨vs, hl, rl.len.symm, R.exo (by simp), R.nd, R.out, by rw [upd_ne (R.nrl hm).symm]; exact R.ro, by rw [upd_ne (R.nLl hm).symm]; exact R.lo, by rw [upd_ne (R.nSl hm).symm]; exact R.so, .cons upd_same (rl.append (.cons rv .nil)) (t.mono (fun k hk o e => ?_) (Same.refl _))⟩
    have nk : k ≠ l := fun z => by
      subst z
      have := R.nd
      simp only [List.nodup_cons, List.mem_cons, not_or] at this
      exact this.2.2.2.1 hk
    rw [upd_ne nk]
    exact e
theorem RdA.np (R : RdA H0 Hs0 H Hs C r dx L S ls st) {x : Addr} (hx : x ∈ r :: L :: S :: ls) : H x ≠ none := by
  have : ∀ {ls : List Addr} {dss : List (List PyData)}, Lots H Hs ls dss → x ∈ ls → H x ≠ none := by
    intro ls dss t
    induction t with
    | nil => intro h; cases h
    | cons e r t ih =>
      intro h
      rcases List.mem_cons.mp h with rfl | h
      · rw [e]; exact fun z => nomatch z
      · exact ih h
  simp only [List.mem_cons] at hx
  rcases hx with rfl | rfl | rfl | h
  · rw [R.ro]; exact fun z => nomatch z
  · rw [R.lo]; exact fun z => nomatch z
  · rw [R.so]; exact fun z => nomatch z
  · exact this R.lots h
theorem RdA.more {Hs' : Hp} (R : RdA H0 Hs0 H Hs C r dx L S ls st) (x : Ext H Hs H' Hs') : RdA H0 Hs0 H' Hs' C r dx L S ls st :=
  ⟨R.ext.trans x, R.nd, fun y hy => ⟨(R.out y hy).1, x.new y (R.out y hy).2 (R.np hy)⟩, x.big _ _ R.ro, x.big _ _ R.lo, x.big _ _ R.so, R.lots.mono (fun l _ o e => x.big _ _ e) x.small⟩
/-- the lot on top is taken off: a value as all are -/
theorem RdA.pop {l : Addr} {ds : List PyData} {dss : List (List PyData)} (R : RdA H0 Hs0 H Hs C r dx L S (l :: ls) st) (e : st.lots = ds :: dss) : ∃ vs, RdA H0 Hs0 (upd H L (.lst (ls.map V.ref).reverse)) (upd Hs l (.lst vs)) C r dx L S ls { st with lots := dss } ∧ Rp (upd Hs l (.lst vs)) (.list ds) (.ref l) := by
  have t := R.lots
  rw [e] at t
  cases t with
  | cons hl rl t =>
    rename_i vs
    have hm : l ∈ l :: ls := List.mem_cons_self
    have hsl : Hs l = none := (R.out l (by simp)).2
    have s2 : Same Hs (upd Hs l (.lst vs)) := fun b u z => by rw [upd_ne (ne_of_none z hsl)]; exact z
    have nd := R.nd
    simp only [List.nodup_cons, List.mem_cons, not_or] at nd
    refine ⟨vs, ⟨⟨fun b u z => ?_, R.ext.small.trans s2, fun b u z => ?_, fun b h h' => ?_⟩, ?_, fun x hx => ?_, by rw [upd_ne R.nrL]; exact R.ro, upd_same, by rw [upd_ne R.nLS.symm]; exact R.so, t.mono (fun k hk o z => ?_) s2⟩, .lst upd_same (rl.mono s2)⟩
    · rw [upd_ne (ne_of_none z (R.out L (by simp)).1)]; exact R.ext.big _ _ z
    · by_cases hb : b = l
      · subst hb
        rw [upd_same] at z
        rw [upd_ne (R.nLl hm), ← z]
        exact hl
      · rw [upd_ne hb] at z
        rw [upd_ne (ne_of_none z (R.out L (by simp)).2)]
        exact R.ext.sub _ _ z
    · have hb : b ≠ l := fun q => by subst q; exact h' (R.out b (by simp)).1
      rw [upd_ne hb]
      exact R.ext.new b h h'
    · simp only [List.nodup_cons, List.mem_cons, not_or]
      exact ⟨⟨nd.1.1, nd.1.2.1, nd.1.2.2.2⟩, ⟨nd.2.1.1, nd.2.1.2.2⟩, nd.2.2.1.2, nd.2.2.2.2⟩
    · have hb : x ≠ l := fun q => by
        subst q
        simp only [List.mem_cons] at hx
        rcases hx with z | z | z | z
        · exact nd.1.2.2.1 z.symm
        · exact nd.2.1.2.1 z.symm
        · exact nd.2.2.1.1 z.symm
        · exact nd.2.2.2.1 z
      rw [upd_ne hb]
      refine R.out x ?_
      simp only [List.mem_cons] at hx ⊢
      rcases hx with z | z | z | z
      · exact .inl z
      · exact .inr (.inl z)
      · exact .inr (.inr (.inl z))
      · exact .inr (.inr (.inr (.inr z)))
    · rw [upd_ne (R.nLl (List.mem_cons_of_mem _ hk))]
      exact z
end
end K88

set_option Elab.async false
set_option linter.all false
set_option maxRecDepth 100000
set_option maxHeartbeats 4000000
/-! The reader's methods. -/
namespace K88
open PySem PySem.Spec PyProof.Rows L2 Pu
structure TR (K : PySem.W.Frag) (C : Addr) : Prop where
  cl : Cls K C
  nL : NoAttr K C "lots"
  nS : NoAttr K C "signs"
  nW : NoAttr K C "word"
  nE : NoAttr K C "is_ended"
theorem rd_noM {L S w b} {m : Str} (h1 : (m == "lots") = false) (h2 : (m == "signs") = false) (h3 : (m == "word") = false) (h4 : (m == "is_ended") = false) : (rdF L S w b).lookup m = none := by
  unfold rdF
  simp only [List.lookup, h1, h2, h3, h4]
section
variable {C : Addr} {st : RdSt} {ev : Ev} {i : Nat}
theorem g_lots : gFld C "lots" (obD C st) = some (.list (st.lots.map .list).reverse) := by unfold gFld obD; simp only; rw [if_pos trivial]; rfl
theorem g_signs : gFld C "signs" (obD C st) = some (.list (st.signs.map .str).reverse) := by unfold gFld obD; simp only; rw [if_pos trivial]; rfl
theorem g_word : gFld C "word" (obD C st) = some (.str st.word) := by unfold gFld obD; simp only; rw [if_pos trivial]; rfl
theorem g_ended : gFld C "is_ended" (obD C st) = some (.bool st.ended) := by unfold gFld obD; simp only; rw [if_pos trivial]; rfl
end
theorem atI_last {α : Type} (xs : List α) (x : α) : atI (xs ++ [x]) (-1) = some x := by
  unfold atI ixN
  rw [if_neg (by decide), if_pos (by rw [List.length_append, List.length_singleton]; omega)]
  show (xs ++ [x])[_]? = some x
  rw [List.length_append, List.length_singleton]
  have e : ((-1 : Int) + ((xs.length + 1 : Nat) : Int)).toNat = xs.length := by omega
  rw [e, List.getElem?_append_right (Nat.le_refl _), Nat.sub_self]
  rfl
def itemD : Option PyData → PyData
  | none => .none
  | some d => .tuple [d]
def itF (C : Addr) (st : RdSt) : Option (Option PyData) := match runF ["self", "items"] 1 (F_ThingReader_item C) [obD C st] with
  | some .none => some none
  | some (.tuple [d]) => if flatD d = true then some (some d) else none
  | _ => none
theorem itF_some {C : Addr} {st : RdSt} {f : Option PyData} (h : itF C st = some f) : runF ["self", "items"] 1 (F_ThingReader_item C) [obD C st] = some (itemD f) ∧ ∀ d, f = some d → flatD d = true := by
  unfold itF at h
  split at h
  · rename_i e; cases h; exact ⟨e, fun d z => nomatch z⟩
  · rename_i e
    split at h
    · rename_i hf; cases h; exact ⟨e, fun d z => by cases z; exact hf⟩
    · cases h
  · cases h
def endsF (C : Addr) (st : RdSt) : Option (Bool × RdSt) := (itF C st).bind fun f => if st.ended = true then some (true, { st with word := "", ended := false }) else match f with
  | none => some (false, st)
  | some d => match st.lots with
    | ds :: dss => if ds.length < sizeLine then some (true, { lots := (ds ++ [d]) :: dss, signs := st.signs, word := "", ended := false }) else none
    | [] => none
def spEnds (C : Addr) : Sp := fun vs H Q _ => ∃ H0 Hs0 r st b st', vs = [.ref r] ∧ Rd H0 Hs0 C r st H ∧ endsF C st = some (b, st') ∧ ∀ H', Rd H0 Hs0 C r st' H' → Q (.bl b) H'
abbrev s_ends : Stmt := inClass (topS 13) 4
theorem sc_ends : FnScope ["self", "found"] ["self"] (defScope s_ends) := ⟨rfl, rfl, rfl, by decide +kernel, rfl, by decide +kernel, by decide +kernel⟩
section
variable {P : Program} {w : World} {K : PySem.W.Frag} {mg : Str → Option Value} {base : Heap}
theorem ok_ends {C f fi : Addr} {fd fdi : FuncData} {k : Nat} (F : Fun K "ends" "ThingReader.ends" s_ends f fd) (T : TR K C) (FI : FnOk P w K mg base CX0 k fi fdi ["self"] (spP (runF ["self", "items"] 1 (F_ThingReader_item C)))) (bI : Binds K fdi ["self"] []) (mI : Meth K C "item" fi) :
    FnOk P w K mg base CX0 (k + 1) f fd ["self"] (spEnds C) := by
  refine F.ok sc_ends (fun vs H Q E h => ?_) (fun cdv A outer s H vs Q E hr h => ?_)
  · obtain ⟨H0, Hs0, r, st, b, st', rfl, _⟩ := h
    rfl
  · obtain ⟨H0, Hs0, r, st, b, st', rfl, ⟨Hs, dx, L, S, ls, R⟩, e, q⟩ := h
    obtain ⟨cl, nL, nS, nW, nE⟩ := T
    have nd := sc_ends.nd
    refine ⟨_, pss_cons (ps_set (i := 1) nd rfl (Or.inl rfl) (pe_meth0 (pv 0) cl mI FI hr bI .nil pass0))
      (pss_cons (ps_if (put_w (puw_and (put_cmp (o_is) g_is (pu_var 1) pu_non (nomark _)) (puw_and1 (put_not (put_val (pu_fld (pu_var 0) cl nE)))))).pt (pss_one (ps_ret pe_bl)) pss_nil)
      (pss_cons (ps_if (put_not (put_val (pu_fld (pu_var 0) cl nE))).pt (pss_one (ps_expr (pe_bm PySem.F.plainAttrs_list PySem.F.slot_list_append PySem.F.type_list_append mt_append (pe_ix ix_list (pe_fld (f := "lots") (pv 0) rfl) (pu_neg pu_int).pe (fun _ _ => rfl)) (pa_cons (pu_ix (u1 hr) (pu_var 1) pu_int (fun _ _ => rfl) (fun _ _ => rfl)).pe pa_nil)))) pss_nil)
      (pss_cons (ps_asg (pe_tup (pa_cons pe_str (pa_cons pe_bl pa_nil))) (pg_tup rfl (pgs_cons (pg_att (f := "word") (pv 0)) (pgs_cons (pg_att (f := "is_ended") (pv 0)) pgs_nil))))
      (pss_one (ps_ret pe_bl))))), ?_⟩
    obtain ⟨it, e1, e⟩ := bindS e
    obtain ⟨e2, hfl⟩ := itF_some e1
    refine ⟨_, rfl, r, dx, _, rfl, R.ro, rd_noM (by decide +kernel) (by decide +kernel) (by decide +kernel) (by decide +kernel), H, [obD C st], itemD it, Same.refl _, .cons R.view .nil, e2, fun v1 H1 Hs1 x1 r1 => ?_⟩
    have R1 := R.grow x1.big
    -- found is None and (not self.is_ended)
    have re1 : REnv Hs1 [some (.ref r), some v1] [some (obD C st), some (itemD it)] := REnv.start (N := ["self", "found"]) (ws := [obD C st, itemD it]) (vs := [.ref r, v1]) (.cons (R.view.mono x1.small) (.cons r1 .nil))
    have R2 : ∀ {H2 Hs2}, Ext H1 Hs1 H2 Hs2 → RdA H0 Hs0 H2 Hs C r dx L S ls st := fun x => R1.grow x.big
    have fin : ∀ (H2 : Hp) (st2 : RdSt), RdA H0 Hs0 H2 Hs C r dx L S ls st2 → b = true → st' = { st2 with word := "", ended := false } → tSeq (tAsg (tTup (tCons (tC (.str "")) (tCons (tC (.bl false)) tNil))) (gTup K 2 (gCons (gAtt K (tVar 0) "word") (gCons (gAtt K (tVar 0) "is_ended") gNil)))) (tRet (tC (.bl true))) { nx := fun _ H' => Q .non H', rt := Q } [some (.ref r), some v1] H2 := by
      rintro H2 st2 R2 rfl rfl
      refine ⟨by show 2 ≤ sizeLine; decide, fun t ht => ?_⟩
      have R3 := R2.grow (H' := upd H2 t (.tup [.str "", .bl false])) fun b o z => by rw [upd_ne (ne_of_none z ht)]; exact z
      refine ⟨t, _, rfl, SqT.of upd_same, rfl, _, _, rfl, _, rfl, r, C, dx, _, rfl, R3.ro, cl, nW, (by show 4 < 1000; decide), _, _, rfl, _, rfl, r, C, dx, _, rfl, upd_same, cl, nE, (by show 4 < 1000; decide), rfl, ?_⟩
      rw [rd_put_word, rd_put_ended, upd_upd]
      exact q _ ⟨Hs, dx, L, S, ls, R3.fields _ _⟩
    have hend : fNot (fT (fFld C "is_ended" (fVar 0))) [some (obD C st), some (itemD it)] = some (!st.ended) := by simp [fVar, fNot, fT, fFld, g_ended, asB]
    have htest : fAnd (f2T isD (fVar 1) (fC .none)) (fNot (fT (fFld C "is_ended" (fVar 0)))) [some (obD C st), some (itemD it)] = some (it.isNone && !st.ended) := by
      cases it <;> simp [fAnd, f2T, fVar, fC, isD, fNot, fT, fFld, g_ended, itemD, asB, flatD]
    cases hb : st.ended with
    | true =>
      rw [hb] at e
      simp only [if_true, Option.some.injEq, Prod.mk.injEq] at e
      refine ⟨Hs1, _, false, x1.sub, re1, by rw [htest, hb]; cases it <;> rfl, fun H2 Hs2 x2 => iteF ?_⟩
      refine ⟨Hs2, _, false, x2.sub, re1.mono x2.small, by rw [hend, hb]; rfl, fun H3 Hs3 x3 => iteF ?_⟩
      exact fin H3 st (R2 (x2.trans x3)) e.1.symm e.2.symm
    | false =>
      rw [hb] at e
      cases it with
      | none =>
        simp only [if_false, Option.some.injEq, Prod.mk.injEq, Bool.false_eq_true] at e
        obtain ⟨rfl, rfl⟩ := e
        refine ⟨Hs1, _, true, x1.sub, re1, by rw [htest, hb]; rfl, fun H2 Hs2 x2 => iteT ?_⟩
        exact q _ ⟨Hs, dx, L, S, ls, R2 x2⟩
      | some d =>
        simp only [if_false, Bool.false_eq_true] at e
        split at e
        · rename_i ds dss hl
          split at e
          · rename_i hlen
            cases e
            refine ⟨Hs1, _, false, x1.sub, re1, by rw [htest]; rfl, fun H2 Hs2 x2 => iteF ?_⟩
            refine ⟨Hs2, _, true, x2.sub, re1.mono x2.small, by rw [hend, hb]; rfl, fun H3 Hs3 x3 => iteT ?_⟩
            have R3 := R2 (x2.trans x3)
            cases ls with
            | nil => have := R3.lots.len; rw [hl] at this; cases this
            | cons l ls =>
            refine ⟨_, rfl, r, C, dx, _, _, rfl, R3.ro, cl, nL, rd_lots, ?_⟩
            refine ⟨H3, [], .int (-1), Same.refl _, ⟨Nat.zero_le _, fun i w z => by cases z⟩, rfl, fun v4 H4 Hs4 x4 r4 => ?_⟩
            have R4 := R3.grow x4.big
            refine ⟨L, _, -1, .ref l, rfl, r4.int_of, SqL.of R4.lo, by rw [List.map_cons, List.reverse_cons]; exact atI_last _ _, ?_⟩
            obtain ⟨vs, h5, h6, _⟩ := R4.put hl (Rp.non (H := Hs))
            refine ⟨.inl ⟨rfl, _, SqL.of h5⟩, ?_⟩
            refine ⟨H4, _, d, Same.refl _, (re1.mono (x2.small.trans (x3.small.trans x3.sub))).mono x4.big, ?_, fun v5 H5 Hs5 x5 r5 => ?_⟩
            · simp [f2, fVar, fC, gIx, itemD, atI, ixN]
            have R5 := R4.grow x5.big
            obtain ⟨vs', h7, h8, R6⟩ := R5.put hl (r5.flat (H' := Hs) (hfl d rfl))
            refine ⟨l, vs', v5, rfl, rfl, h7, by rw [h8]; exact hlen, ?_⟩
            exact fin _ _ R6 rfl rfl
          · cases e
        · cases e
end
end K88

set_option Elab.async false
set_option linter.all false
set_option maxRecDepth 100000
set_option maxHeartbeats 4000000
namespace K88
open PySem PySem.Spec PyProof.Rows L2 Pu
def goShut (st : RdSt) (sg : Str) : Option RdSt := match st.lots with
  | ds :: es :: dss => if es.length < sizeLine then some { lots := (es ++ [if sg = ")" then PyData.tuple ds else .list ds]) :: dss, signs := st.signs.tail, word := st.word, ended := true } else none
  | _ => none
def opens (sg : Str) : Str := if sg = ")" then "(" else "["
def bareB (st : RdSt) (ds : List PyData) : Bool := st.word == "" && !st.ended && ds.isEmpty
def shutsF (C : Addr) (st : RdSt) (sg : Str) : Option (Bool × RdSt) :=
  if sg = ")" ∨ sg = "]" then match st.lots with
    | [] => none
    | ds :: _ => if PyData.plainAll ds = true then match st.signs with
      | [] => some (false, st)
      | z :: _ => if z = opens sg then (if bareB st ds = true then (goShut st sg).map fun s => (true, s) else (endsF C st).bind fun p => if p.1 = true then (goShut p.2 sg).map fun s => (true, s) else some (false, p.2)) else some (false, st)
      else none
  else none
def spShuts (C : Addr) : Sp := fun vs H Q _ => ∃ H0 Hs0 r st sg b st', vs = [.ref r, .str sg] ∧ Rd H0 Hs0 C r st H ∧ shutsF C st sg = some (b, st') ∧ ∀ H', Rd H0 Hs0 C r st' H' → Q (.bl b) H'
abbrev s_shuts : Stmt := inClass (topS 13) 5
theorem sc_shuts : FnScope ["self", "sign", "is_bare", "lot"] ["self", "sign"] (defScope s_shuts) := ⟨rfl, rfl, rfl, by decide +kernel, rfl, by decide +kernel, by decide +kernel⟩
theorem endsF_signs {C : Addr} {st st' : RdSt} {b : Bool} (h : endsF C st = some (b, st')) : st'.signs = st.signs := by
  obtain ⟨it, e1, e⟩ := bindS h
  cases hb : st.ended with
  | true => rw [hb] at e; cases e; rfl
  | false =>
    rw [hb] at e
    cases it with
    | none => cases e; rfl
    | some d =>
      simp only [Bool.false_eq_true, if_false] at e
      split at e
      · split at e
        · cases e; rfl
        · cases e
      · cases e
theorem plain_strs : ∀ zs : List Str, PyData.plainAll (zs.map .str) = true
  | [] => rfl
  | z :: zs => by unfold List.map PyData.plainAll; rw [plain_strs zs]; rfl
theorem plainAll_app : ∀ xs ys : List PyData, PyData.plainAll (xs ++ ys) = (PyData.plainAll xs && PyData.plainAll ys)
  | [], ys => by rw [List.nil_append]; unfold PyData.plainAll; cases ys <;> rfl
  | x :: xs, ys => by rw [List.cons_append, PyData.plainAll, PyData.plainAll, plainAll_app xs ys, Bool.and_assoc]
theorem gEq_nil {ds : List PyData} (h : PyData.plainAll ds = true) : gEq (.list ds) (.list []) = some ds.isEmpty := by
  cases ds with
  | nil => rfl
  | cons d ds =>
    show eqG _ _ = _
    unfold eqG
    have e1 : (PyData.list (d :: ds)).plain = true := by unfold PyData.plain; exact h
    have e2 : (PyData.list []).plain = true := rfl
    have e3 : decide (min (PyData.list (d :: ds)).depth (PyData.list []).depth ≤ 64) = true := decide_eq_true (Nat.le_trans (Nat.min_le_right _ _) (by decide))
    rw [e1, e2, e3]
    rfl
theorem gNe_nil {ds : List PyData} (h : PyData.plainAll ds = true) : gNe (.list ds) (.list []) = some (!ds.isEmpty) := by
  unfold gNe
  rw [gEq_nil h]
  rfl
theorem rev_last {α : Type} (x : α) (xs : List α) : (x :: xs).reverse[(x :: xs).reverse.length - 1]? = some x := by
  rw [List.reverse_cons, List.length_append, List.length_singleton, Nat.add_sub_cancel, List.getElem?_append_right (Nat.le_refl _), Nat.sub_self]
  rfl
theorem rev_drop {α : Type} (x : α) (xs : List α) : (x :: xs).reverse.dropLast = xs.reverse := by rw [List.reverse_cons, List.dropLast_concat]
section
variable {P : Program} {w : World} {K : PySem.W.Frag} {mg : Str → Option Value} {base : Heap}
theorem ok_shuts {C f fe : Addr} {fd fde : FuncData} {k : Nat} (F : Fun K "shuts" "ThingReader.shuts" s_shuts f fd) (T : TR K C) (FE : FnOk P w K mg base CX0 k fe fde ["self"] (spEnds C)) (bE : Binds K fde ["self"] []) (mE : Meth K C "ends" fe) (m_tuple : mg "tuple" = none) :
    FnOk P w K mg base CX0 (k + 1) f fd ["self", "sign"] (spShuts C) := by
  refine F.ok sc_shuts (fun vs H Q E h => ?_) (fun cdv A outer s H vs Q E hr h => ?_)
  · obtain ⟨H0, Hs0, r, st, sg, b, st', rfl, _⟩ := h
    rfl
  · obtain ⟨H0, Hs0, r, st, sg, b, st', rfl, ⟨Hs, dx, L, S, ls, R⟩, e, q⟩ := h
    obtain ⟨cl, nL, nS, nW, nE⟩ := T
    have nd := sc_shuts.nd
    refine ⟨_, pss_cons (ps_set (i := 2) nd rfl (Or.inl rfl) (pu_and (pu_cmp (o_eq (u64 hr)) g_eq (pu_fld (pu_var 0) cl nW) pu_str (nomark _)) (pu_and (pu_not (pu_fld (pu_var 0) cl nE)) (pu_one (pu_cmp (o_eq (u64 hr)) g_eq (pu_ix (u1 hr) (pu_fld (pu_var 0) cl nL) (pu_neg pu_int) (fun _ _ => rfl) (fun _ _ => rfl)) (pu_lst pua_nil) (nomark _))))).pe)
      (pss_cons (ps_if (pw_or (put_cmp (o_eq (u64 hr)) g_eq (pu_fld (pu_var 0) cl nS) (pu_lst pua_nil) (nomark _)).pt (pw_or (put_cmp (o_ne (u64 hr)) g_ne (pu_ix (u1 hr) (pu_fld (pu_var 0) cl nS) (pu_neg pu_int) (fun _ _ => rfl) (fun _ _ => rfl)) (pu_ix (u1 hr) (pu_dic (.str pu_str (.str pu_str .nil)) (by decide) (by decide) (by decide +kernel)) (pu_var 1) (fun _ _ => rfl) (fun _ _ => rfl)) (nomark _)).pt (pw_or1 (pt_not (pw_or (put_val (pu_var 2)).pt (pw_or1 (pt_val (pe_meth0 (pv 0) cl mE FE hr bE .nil pass0)))).pt)))).pt (pss_one (ps_ret pe_bl)) pss_nil)
      (pss_cons (ps_expr (pe_bm0 PySem.F.plainAttrs_list PySem.F.slot_list_pop PySem.F.type_list_pop mt_pop (pe_fld (f := "signs") (pv 0) rfl)))
      (pss_cons (ps_set (i := 3) nd rfl (Or.inl rfl) (pe_bm0 PySem.F.plainAttrs_list PySem.F.slot_list_pop PySem.F.type_list_pop mt_pop (pe_fld (f := "lots") (pv 0) rfl)))
      (pss_cons (ps_expr (pe_bm PySem.F.plainAttrs_list PySem.F.slot_list_append PySem.F.type_list_append mt_append (pe_ix ix_list (pe_fld (f := "lots") (pv 0) rfl) (pu_neg pu_int).pe (fun _ _ => rfl)) (pa_cons (PU.pe (pu_ifE (put_cmp (o_eq (u64 hr)) g_eq (pu_var 1) pu_str (nomark _)) (pu_callTy call_tuple_of gc_tuple rfl m_tuple boot_tuple (pua_cons (pu_var 3) pua_nil)) (pu_var 3))) pa_nil)))
      (pss_cons (ps_fld (f := "is_ended") (pv 0) pe_bl rfl)
      (pss_one (ps_ret pe_bl))))))), ?_⟩
    unfold shutsF at e
    split at e
    case isFalse => cases e
    rename_i hsg
    split at e
    · cases e
    rename_i ds dss hl
    split at e
    case isFalse => cases e
    rename_i hp
    have re0 : ∀ {H : Hp}, RdA H0 Hs0 H Hs C r dx L S ls st → REnv H [some (.ref r), some (.str sg), none, none] [some (obD C st), some (.str sg), none, none] := fun R => REnv.start (N := ["self", "sign", "is_bare", "lot"]) (ws := [obD C st, .str sg]) (vs := [.ref r, .str sg]) (.cons R.view (.cons (.str sg) .nil))
    have hbare : fAndV (fB (f2T gEq (fFld C "word" (fVar 0)) (fC (.str "")))) (fAndV (fB (fNot (fT (fFld C "is_ended" (fVar 0))))) (fB (f2T gEq (f2 gIx (fFld C "lots" (fVar 0)) (fNeg (fC (.int 1)))) (fLst fNil)))) [some (obD C st), some (.str sg), none, none] = some (.bool (bareB st ds)) := by
      have e1 : gIx (.list (st.lots.map .list).reverse) (.int (-1)) = some (.list ds) := by
        rw [hl, List.map_cons, List.reverse_cons]
        exact atI_last _ _
      have e0 : fVar 0 [some (obD C st), some (PyData.str sg), none, none] = some (obD C st) := rfl
      have e2 : f2 gIx (fFld C "lots" (fVar 0)) (fNeg (fC (.int 1))) [some (obD C st), some (.str sg), none, none] = some (.list ds) := by
        unfold f2 fFld
        rw [e0, Option.bind_some, g_lots, Option.bind_some]
        exact e1
      have e3 : f2T gEq (f2 gIx (fFld C "lots" (fVar 0)) (fNeg (fC (.int 1)))) (fLst fNil) [some (obD C st), some (.str sg), none, none] = some ds.isEmpty := by
        unfold f2T
        rw [e2]
        exact gEq_nil hp
      have e4 : f2T gEq (fFld C "word" (fVar 0)) (fC (.str "")) [some (obD C st), some (.str sg), none, none] = some (st.word == "") := by
        unfold f2T fFld
        rw [e0, Option.bind_some, g_word]
        rfl
      have e5 : fNot (fT (fFld C "is_ended" (fVar 0))) [some (obD C st), some (.str sg), none, none] = some (!st.ended) := by
        unfold fNot fT fFld
        rw [e0, Option.bind_some, g_ended]
        rfl
      unfold fAndV fB bareB
      rw [e4, e5, e3]
      cases (st.word == "") <;> cases st.ended <;> cases ds.isEmpty <;> rfl
    refine ⟨H, _, _, Same.refl _, re0 R, hbare, fun v1 H1 Hs1 x1 r1 => ?_⟩
    obtain rfl := r1.bl_of
    have R1 := R.grow x1.big
    generalize hbb : bareB st ds = bb at e ⊢
    have re1 : ∀ {H : Hp} {st : RdSt} {ls : List Addr}, RdA H0 Hs0 H Hs C r dx L S ls st → REnv H [some (.ref r), some (.str sg), some (.bl (bb)), none] [some (obD C st), some (.str sg), some (.bool (bb)), none] := fun R =>
      (REnv.start (N := ["self", "sign", "is_bare", "lot"]) (ws := [obD C _, .str sg]) (vs := [.ref r, .str sg]) (.cons R.view (.cons (.str sg) .nil))).set (i := 2) (.bl _)
    have fin : ∀ (H2 Hs : Hp) (dx L S : Addr) (st2 s2 : RdSt) (ls : List Addr), RdA H0 Hs0 H2 Hs C r dx L S ls st2 → st2.signs ≠ [] → goShut st2 sg = some s2 → b = true → st' = s2 →
        tSeq (tDrop (tBM0 K "list" rPop (tFld K (tVar 0) "signs"))) (tSeq (tAsg (tBM0 K "list" rPop (tFld K (tVar 0) "lots")) (gName 3)) (tSeq (tDrop (tBM K "list" rAppend (tOp (rIxL K) (tFld K (tVar 0) "lots") (tPu (fNeg (fC (.int 1))))) (tCons (tPu (fIf (f2T gEq (fVar 1) (fC (.str ")"))) (fCall gTuple (fCons (fVar 3) fNil)) (fVar 3))) tNil))) (tSeq (sFld K (tVar 0) (tC (.bl true)) "is_ended") (tRet (tC (.bl true)))))) { nx := fun _ H' => Q .non H', rt := Q } [some (.ref r), some (.str sg), some (.bl (bb)), none] H2 := by
      rintro H2 Hs dx L S st2 s2 ls R2 hsn hgo rfl rfl
      unfold goShut at hgo
      split at hgo
      case h_2 => cases hgo
      rename_i ds2 es dss2 hl2
      split at hgo
      case isFalse => cases hgo
      rename_i hlen
      cases hgo
      cases hs2 : st2.signs with
      | nil => exact absurd hs2 hsn
      | cons z zs =>
      have so2 := R2.so
      rw [hs2, List.map_cons] at so2
      refine ⟨_, rfl, r, C, dx, _, _, rfl, R2.ro, cl, nS, rd_signs, .inl ⟨rfl, _, SqL.of so2⟩, S, _, .str z, rfl, rfl, so2, rev_last _ _, ?_⟩
      rw [rev_drop]
      have R3 := R2.signs zs
      cases ls with
      | nil => have := R2.lots.len; rw [hl2] at this; cases this
      | cons l1 ls =>
      cases ls with
      | nil => have := R2.lots.len; rw [hl2] at this; cases this
      | cons l2 ls =>
      have lo3 := R3.lo
      rw [List.map_cons] at lo3
      refine ⟨_, rfl, r, C, dx, _, _, rfl, R3.ro, cl, nL, rd_lots, .inl ⟨rfl, _, SqL.of lo3⟩, L, _, .ref l1, rfl, rfl, lo3, rev_last _ _, ?_⟩
      rw [rev_drop]
      obtain ⟨vs4, R4, r4⟩ := R3.pop hl2
      refine ⟨_, rfl, r, C, dx, _, _, rfl, R4.ro, cl, nL, rd_lots, ?_⟩
      refine ⟨_, [], .int (-1), Same.refl _, ⟨Nat.zero_le _, fun i w z => by cases z⟩, rfl, fun v5 H5 Hs5 x5 r5 => ?_⟩
      have R5 := R4.grow x5.big
      refine ⟨L, _, -1, .ref l2, rfl, r5.int_of, SqL.of R5.lo, by rw [List.map_cons, List.reverse_cons]; exact atI_last _ _, ?_⟩
      obtain ⟨vs6, h6, _, _⟩ := R5.put rfl (Rp.non (H := _))
      refine ⟨.inl ⟨rfl, _, SqL.of h6⟩, ?_⟩
      have re5 : REnv (upd Hs l1 (.lst vs4)) [some (.ref r), some (.str sg), some (.bl bb), some (.ref l1)] [none, some (.str sg), none, some (.list ds2)] := ⟨Nat.le_refl 4, fun i w hi => by
        rcases i with _ | _ | _ | _ | i
        · cases hi
        · cases hi; exact ⟨_, rfl, .str _⟩
        · cases hi
        · cases hi; exact ⟨_, rfl, r4⟩
        · cases hi⟩
      refine ⟨_, _, if sg = ")" then PyData.tuple ds2 else .list ds2, R5.ext.sub, re5, ?_, fun v7 H7 Hs7 x7 r7 => ?_⟩
      · by_cases hq : sg = ")"
        · rw [if_pos hq, hq]; rfl
        · rw [if_neg hq]
          rcases hsg with z | z
          · exact absurd z hq
          · rw [z]; rfl
      have R7 := R5.more x7
      obtain ⟨vs8, h8, e8, R8⟩ := R7.put rfl r7
      refine ⟨l2, vs8, v7, rfl, rfl, h8, by rw [e8]; exact hlen, ?_⟩
      refine ⟨_, rfl, r, C, dx, _, rfl, R8.ro, cl, nE, (by show 4 < 1000; decide), ?_⟩
      rw [rd_put_ended]
      have R9 := R8.fields st2.word true
      have es : (st2.signs.tail) = zs := by rw [hs2]; rfl
      rw [es] at q
      exact q _ ⟨_, _, _, _, _, R9⟩
    refine ⟨H1, _, st.signs.isEmpty, Same.refl _, re1 R1, ?_, fun H2 Hs2 x2 => ?_⟩
    · unfold f2T fFld
      rw [show fVar 0 [some (obD C st), some (PyData.str sg), some (PyData.bool bb), none] = some (obD C st) from rfl, Option.bind_some, g_signs]
      have := gEq_nil (ds := (st.signs.map PyData.str).reverse) (by rw [← List.map_reverse]; exact plain_strs _)
      refine this.trans ?_
      cases st.signs with
      | nil => rfl
      | cons z zs => simp
    have R2 := R1.grow x2.big
    cases hsg2 : st.signs with
    | nil =>
      rw [hsg2] at e
      cases e
      exact iteT (iteT (q _ ⟨_, _, _, _, _, R2⟩))
    | cons z zs =>
    rw [hsg2] at e
    simp only at e
    refine iteF ?_
    have hB : f2T gNe (f2 gIx (fFld C "signs" (fVar 0)) (fNeg (fC (.int 1)))) (f2 gIx (fDict [(.inr ")", (fC (.str "("))), (.inr "]", (fC (.str "[")))]) (fVar 1)) [some (obD C st), some (.str sg), some (.bool bb), none] = some (!(z == opens sg)) := by
      have e1 : f2 gIx (fFld C "signs" (fVar 0)) (fNeg (fC (.int 1))) [some (obD C st), some (.str sg), some (.bool bb), none] = some (.str z) := by
        unfold f2 fFld
        rw [show fVar 0 [some (obD C st), some (PyData.str sg), some (PyData.bool bb), none] = some (obD C st) from rfl, Option.bind_some, g_signs, hsg2, List.map_cons, List.reverse_cons]
        exact atI_last _ _
      have e2 : f2 gIx (fDict [(.inr ")", (fC (.str "("))), (.inr "]", (fC (.str "[")))]) (fVar 1) [some (obD C st), some (.str sg), some (.bool bb), none] = some (.str (opens sg)) := by
        rcases hsg with z | z <;> (rw [z]; rfl)
      unfold f2T
      rw [e1, e2]
      rfl
    refine ⟨H2, _, _, Same.refl _, re1 R2, hB, fun H3 Hs3 x3 => ?_⟩
    have R3 := R2.grow x3.big
    split at e
    case isFalse hz =>
      cases e
      rw [beq_eq_false_iff_ne.mpr hz]
      exact iteT (iteT (q _ ⟨_, _, _, _, _, R3⟩))
    rename_i hz
    rw [beq_iff_eq.mpr hz]
    refine iteF ?_
    refine ⟨H3, _, bb, Same.refl _, re1 R3, rfl, fun H4 Hs4 x4 => ?_⟩
    have R4 := R3.grow x4.big
    have hsn : st.signs ≠ [] := by rw [hsg2]; exact fun z => nomatch z
    split at e
    · rename_i hb
      obtain ⟨s2, e2, e3⟩ := Option.map_eq_some_iff.mp e
      cases e3
      subst hb
      refine iteT (iteF ?_)
      exact fin _ _ _ _ _ st _ _ R4 hsn e2 rfl rfl
    · rename_i hb
      obtain rfl := Bool.eq_false_iff.mpr hb
      refine iteF ?_
      obtain ⟨⟨b1, st1⟩, e1, e⟩ := bindS e
      refine ⟨_, rfl, r, dx, _, rfl, R4.ro, rd_noM (by decide +kernel) (by decide +kernel) (by decide +kernel) (by decide +kernel), ?_⟩
      refine ⟨H0, Hs0, r, st, b1, st1, rfl, ⟨_, _, _, _, _, R4⟩, e1, fun H5 ⟨Hs5, dx5, L5, S5, ls5, R5⟩ => ⟨b1, rfl, ?_⟩⟩
      cases b1 with
      | true =>
        obtain ⟨s2, e2, e3⟩ := Option.map_eq_some_iff.mp e
        cases e3
        exact iteF (fin _ _ _ _ _ _ _ _ R5 (by rw [endsF_signs e1]; exact hsn) e2 rfl rfl)
      | false =>
        cases e
        exact iteT (q _ ⟨_, _, _, _, _, R5⟩)
end
end K88

set_option Elab.async false
set_option linter.all false
set_option maxRecDepth 100000
set_option maxHeartbeats 4000000
namespace K88
open PySem PySem.Spec PyProof.Rows L2 Pu
def one (c : Nat) : Str := ⟨#[c]⟩
def goF (C : Addr) (st : RdSt) (c : Nat) : Option Bool := match runF ["self", "sign", "is_sign"] 2 (F_ThingReader_goes_on C) [obD C st, .str (one c)] with
  | some (.bool b) => some b
  | _ => none
theorem goF_some {C : Addr} {st : RdSt} {c : Nat} {b : Bool} (h : goF C st c = some b) : runF ["self", "sign", "is_sign"] 2 (F_ThingReader_goes_on C) [obD C st, .str (one c)] = some (.bool b) := by
  unfold goF at h
  split at h
  · rename_i e; cases h; exact e
  · cases h
def takesF (C : Addr) (st : RdSt) (c : Nat) : Option (Bool × RdSt) :=
  if c = 41 ∨ c = 93 then shutsF C st (one c)
  else if c = 32 then (if st.signs.isEmpty = true then some (false, st) else endsF C st)
  else if st.ended = true then some (false, st)
  else if (st.word == "" && (c == 40 || c == 91)) = true then (if st.lots.length < sizeLine ∧ st.signs.length < sizeLine then some (true, { lots := [] :: st.lots, signs := one c :: st.signs, word := st.word, ended := st.ended }) else none)
  else (goF C st c).bind fun g => if g = true then (if st.word.length + 1 ≤ sizeLine then some (true, { lots := st.lots, signs := st.signs, word := st.word ++ one c, ended := st.ended }) else none) else some (false, st)
def spTakes (C : Addr) : Sp := fun vs H Q _ => ∃ H0 Hs0 r st c b st', vs = [.ref r, .str (one c)] ∧ Rd H0 Hs0 C r st H ∧ takesF C st c = some (b, st') ∧ ∀ H', Rd H0 Hs0 C r st' H' → Q (.bl b) H'
abbrev s_takes : Stmt := inClass (topS 13) 1
theorem sc_takes : FnScope ["self", "sign", "is_good"] ["self", "sign"] (defScope s_takes) := ⟨rfl, rfl, rfl, by decide +kernel, rfl, by decide +kernel, by decide +kernel⟩
theorem one_in (c a b : Nat) (z : Str) (h : z.cps.toList = [a, b]) : gInD (.str (one c)) (.str z) = some (decide (c = a ∨ c = b)) := by
  show some (inS ⟨#[c]⟩ z) = _
  rw [inS_one, h]
  simp
theorem one_eq (c a : Nat) (z : Str) (h : z = one a) : gEq (.str (one c)) (.str z) = some (decide (c = a)) := by
  show some (one c == z) = _
  rw [h]
  congr 1
  by_cases e : c = a
  · subst e; simp
  · rw [decide_eq_false e, beq_eq_false_iff_ne]
    intro z
    apply e
    have : (one c).cps = (one a).cps := by rw [z]
    simpa [one] using this
section
variable {P : Program} {w : World} {K : PySem.W.Frag} {mg : Str → Option Value} {base : Heap}
theorem ok_takes {C f fe fs fg : Addr} {fd fde fds fdg : FuncData} {k : Nat} (F : Fun K "takes" "ThingReader.takes" s_takes f fd) (T : TR K C) (FE : FnOk P w K mg base CX0 k fe fde ["self"] (spEnds C)) (bE : Binds K fde ["self"] []) (mE : Meth K C "ends" fe)
    (FS : FnOk P w K mg base CX0 k fs fds ["self", "sign"] (spShuts C)) (bS : Binds K fds ["self", "sign"] []) (mS : Meth K C "shuts" fs) (FG : FnOk P w K mg base CX0 k fg fdg ["self", "sign"] (spP (runF ["self", "sign", "is_sign"] 2 (F_ThingReader_goes_on C)))) (bG : Binds K fdg ["self", "sign"] []) (mG : Meth K C "goes_on" fg) :
    FnOk P w K mg base CX0 (k + 1) f fd ["self", "sign"] (spTakes C) := by
  refine F.ok sc_takes (fun vs H Q E h => ?_) (fun cdv A outer s H vs Q E hr h => ?_)
  · obtain ⟨H0, Hs0, r, st, c, b, st', rfl, _⟩ := h
    rfl
  · obtain ⟨H0, Hs0, r, st, c, b, st', rfl, ⟨Hs, dx, L, S, ls, R⟩, e, q⟩ := h
    obtain ⟨cl, nL, nS, nW, nE⟩ := T
    have nd := sc_takes.nd
    refine ⟨_, pss_cons (ps_if (put_in (u1 hr) (pu_var 1) pu_str).pt (pss_one (ps_ret (pe_meth (pv 0) cl mS FS hr bS .nil pass0 (pa_cons (pv 1) pa_nil)))) pss_nil)
      (pss_cons (ps_if (put_cmp (o_eq (u64 hr)) g_eq (pu_var 1) pu_str (nomark _)).pt (pss_one (ps_ret (pe_and (PU.pe (pu_cmp (o_ne (u64 hr)) g_ne (pu_fld (pu_var 0) cl nS) (pu_lst pua_nil) (nomark _))) (pe_one (pe_meth0 (pv 0) cl mE FE hr bE .nil pass0))))) pss_nil)
      (pss_cons (ps_if (put_val (pu_fld (pu_var 0) cl nE)).pt (pss_one (ps_ret pe_bl)) pss_nil)
      (pss_cons (ps_if (put_w (puw_and (put_cmp (o_eq (u64 hr)) g_eq (pu_fld (pu_var 0) cl nW) pu_str (nomark _)) (puw_and1 (put_in (u1 hr) (pu_var 1) pu_str)))).pt
        (pss_cons (ps_expr (pe_bm PySem.F.plainAttrs_list PySem.F.slot_list_append PySem.F.type_list_append mt_append (pe_fld (f := "lots") (pv 0) rfl) (pa_cons (pe_lst pa_nil) pa_nil)))
        (pss_cons (ps_expr (pe_bm PySem.F.plainAttrs_list PySem.F.slot_list_append PySem.F.type_list_append mt_append (pe_fld (f := "signs") (pv 0) rfl) (pa_cons (pv 1) pa_nil)))
        (pss_one (ps_ret pe_bl)))) pss_nil)
      (pss_cons (ps_set (i := 2) nd rfl (Or.inl rfl) (pe_meth (pv 0) cl mG FG hr bG .nil pass0 (pa_cons (pv 1) pa_nil)))
      (pss_cons (ps_fld (f := "word") (pv 0) (PU.pe (pu_ifE (put_val (pu_var 2)) (pu_op o_add g_add (pu_fld (pu_var 0) cl nW) (pu_var 1)) (pu_fld (pu_var 0) cl nW))) rfl)
      (pss_one (ps_ret (pv 2)))))))), ?_⟩
    have re0 : ∀ {H : Hp} {st : RdSt} {ls : List Addr}, RdA H0 Hs0 H Hs C r dx L S ls st → REnv H [some (.ref r), some (.str (one c)), none] [some (obD C st), some (.str (one c)), none] := fun R => REnv.start (N := ["self", "sign", "is_good"]) (ws := [obD C _, .str (one c)]) (vs := [.ref r, .str (one c)]) (.cons R.view (.cons (.str (one c)) .nil))
    have e0 : ∀ (st : RdSt), fVar 0 [some (obD C st), some (PyData.str (one c)), none] = some (obD C st) := fun _ => rfl
    have nm : ∀ {st : RdSt} {m : Str}, (m == "lots") = false → (m == "signs") = false → (m == "word") = false → (m == "is_ended") = false → (rdF L S st.word st.ended).lookup m = none := fun h1 h2 h3 h4 => rd_noM h1 h2 h3 h4
    unfold takesF at e
    refine ⟨H, _, _, Same.refl _, re0 R, one_in c 41 93 ")]" rfl, fun H1 Hs1 x1 => ?_⟩
    have R1 := R.grow x1.big
    split at e
    · rename_i hc
      rw [decide_eq_true hc]
      refine iteT ?_
      refine ⟨_, rfl, r, dx, _, rfl, R1.ro, nm (by decide +kernel) (by decide +kernel) (by decide +kernel) (by decide +kernel), ?_⟩
      exact ⟨_, rfl, H0, Hs0, r, st, one c, b, st', rfl, ⟨_, _, _, _, _, R1⟩, e, q⟩
    rename_i hc
    rw [decide_eq_false hc]
    refine iteF ?_
    refine ⟨H1, _, _, Same.refl _, re0 R1, one_eq c 32 " " rfl, fun H2 Hs2 x2 => ?_⟩
    have R2 := R1.grow x2.big
    split at e
    · rename_i hc2
      rw [decide_eq_true hc2]
      refine iteT ?_
      refine ⟨H2, _, .bool (!st.signs.isEmpty), Same.refl _, re0 R2, ?_, fun v3 H3 Hs3 x3 r3 => ⟨!st.signs.isEmpty, r3.bl_of, ?_⟩⟩
      · unfold fB f2T fFld
        rw [e0, Option.bind_some, g_signs]
        have := gNe_nil (ds := (st.signs.map PyData.str).reverse) (by rw [← List.map_reverse]; exact plain_strs _)
        show (gNe (PyData.list (st.signs.map PyData.str).reverse) (.list [])).map PyData.bool = _
        rw [this]
        cases st.signs with
        | nil => rfl
        | cons z zs => simp
      have R3 := R2.grow x3.big
      cases hs : st.signs.isEmpty with
      | true =>
        rw [hs] at e
        cases e
        exact iteF (q _ ⟨_, _, _, _, _, R3⟩)
      | false =>
        rw [hs] at e
        refine iteT ?_
        refine ⟨_, rfl, r, dx, _, rfl, R3.ro, nm (by decide +kernel) (by decide +kernel) (by decide +kernel) (by decide +kernel), ?_⟩
        exact ⟨H0, Hs0, r, st, b, st', rfl, ⟨_, _, _, _, _, R3⟩, e, q⟩
    rename_i hc2
    rw [decide_eq_false hc2]
    refine iteF ?_
    refine ⟨H2, _, st.ended, Same.refl _, re0 R2, ?_, fun H3 Hs3 x3 => ?_⟩
    · unfold fT fFld
      rw [e0, Option.bind_some, g_ended]
      rfl
    have R3 := R2.grow x3.big
    split at e
    · rename_i he
      cases e
      rw [he]
      exact iteT (q _ ⟨_, _, _, _, _, R3⟩)
    rename_i he
    rw [Bool.eq_false_iff.mpr he]
    refine iteF ?_
    refine ⟨H3, _, (st.word == "" && (c == 40 || c == 91)), Same.refl _, re0 R3, ?_, fun H4 Hs4 x4 => ?_⟩
    · unfold fAnd f2T fFld
      rw [e0, Option.bind_some, g_word, Option.bind_some]
      show (some (st.word == "")).bind _ = _
      cases (st.word == "") with
      | false => rfl
      | true =>
        show gInD (.str (one c)) (.str "([") = _
        rw [one_in c 40 91 "([" rfl]
        by_cases h1 : c = 40 <;> by_cases h2 : c = 91 <;> simp [h1, h2]
    have R4 := R3.grow x4.big
    split at e
    · rename_i hw
      split at e
      case isFalse => cases e
      rename_i hlen
      cases e
      rw [hw]
      refine iteT ?_
      refine ⟨_, rfl, r, C, dx, _, _, rfl, R4.ro, cl, nL, rd_lots, .inl ⟨rfl, _, SqL.of R4.lo⟩, Nat.zero_le _, fun p hp => ?_⟩
      have np : L ≠ p := ne_of_none R4.lo hp
      refine ⟨L, _, .ref p, rfl, rfl, (upd_ne np).trans R4.lo, by rw [List.length_reverse, List.length_map, R4.lots.len]; exact hlen.1, ?_⟩
      have R5 := R4.push hp
      have so5 := R5.so
      refine ⟨_, rfl, r, C, dx, _, _, rfl, R5.ro, cl, nS, rd_signs, .inl ⟨rfl, _, SqL.of so5⟩, _, rfl, S, _, .str (one c), rfl, rfl, so5, by rw [List.length_reverse, List.length_map]; exact hlen.2, ?_⟩
      have R6 := R5.signs (one c :: st.signs)
      rw [List.map_cons, List.reverse_cons] at R6
      exact q _ ⟨_, _, _, _, _, R6⟩
    rename_i hw
    rw [Bool.eq_false_iff.mpr hw]
    refine iteF ?_
    obtain ⟨g, eg, e⟩ := bindS e
    refine ⟨_, rfl, r, dx, _, rfl, R4.ro, nm (by decide +kernel) (by decide +kernel) (by decide +kernel) (by decide +kernel), _, rfl, H4, [obD C st, .str (one c)], .bool g, Same.refl _, .cons R4.view (.cons (.str _) .nil), goF_some eg, fun v5 H5 Hs5 x5 r5 => ?_⟩
    obtain rfl := r5.bl_of
    have R5 := R4.grow x5.big
    have re5 : REnv H5 [some (.ref r), some (.str (one c)), some (.bl g)] [some (obD C st), some (.str (one c)), some (.bool g)] := (re0 R5).set (i := 2) (.bl g)
    have e5 : fVar 0 [some (obD C st), some (PyData.str (one c)), some (PyData.bool g)] = some (obD C st) := rfl
    have ew : fFld C "word" (fVar 0) [some (obD C st), some (PyData.str (one c)), some (PyData.bool g)] = some (.str st.word) := by
      unfold fFld
      rw [e5, Option.bind_some, g_word]
    have fin : ∀ w' : Str, fIf (fT (fVar 2)) (f2 gAdd (fFld C "word" (fVar 0)) (fVar 1)) (fFld C "word" (fVar 0)) [some (obD C st), some (PyData.str (one c)), some (PyData.bool g)] = some (.str w') → b = g → st' = { st with word := w' } → sFld K (tVar 0) (tPu (fIf (fT (fVar 2)) (f2 gAdd (fFld C "word" (fVar 0)) (fVar 1)) (fFld C "word" (fVar 0)))) "word" { nx := tRet (tVar 2) { nx := fun _ H' => Q .non H', rt := Q }, rt := Q } [some (.ref r), some (.str (one c)), some (.bl g)] H5 := by
      rintro w' h1 rfl rfl
      refine ⟨H5, _, .str w', Same.refl _, re5, h1, fun v6 H6 Hs6 x6 r6 => ?_⟩
      obtain rfl := r6.str_of
      have R6 := R5.grow x6.big
      refine ⟨_, rfl, r, C, dx, _, rfl, R6.ro, cl, nW, (by show 4 < 1000; decide), _, rfl, ?_⟩
      rw [rd_put_word]
      exact q _ ⟨_, _, _, _, _, R6.fields w' st.ended⟩
    cases g with
    | true =>
      rw [if_pos rfl] at e
      split at e
      case isFalse => cases e
      rename_i hl
      cases e
      refine fin (st.word ++ one c) ?_ rfl rfl
      unfold fIf f2
      rw [ew]
      show gAdd (.str st.word) (.str (one c)) = _
      show (if st.word.length + (one c).length ≤ sizeLine then some (PyData.str (st.word ++ one c)) else none) = _
      rw [if_pos (by show st.word.length + 1 ≤ sizeLine; exact hl)]
    | false =>
      cases e
      refine fin st.word ?_ rfl rfl
      unfold fIf
      rw [ew]
      rfl
end
end K88

set_option Elab.async false
set_option linter.all false
set_option maxRecDepth 100000
set_option maxHeartbeats 4000000
namespace K88
open PySem PySem.Spec PyProof.Rows L2 Pu
theorem atI_first {α : Type} (x : α) (xs : List α) : atI (x :: xs) 0 = some x := by
  unfold atI ixN
  rw [if_pos (Int.le_refl 0), if_pos (by rw [List.length_cons]; omega)]
  rfl
def st0 : RdSt := ⟨[[]], [], "", false⟩
def spInit (C : Addr) : Sp := fun vs H Q _ => ∃ H0 Hs0 r dx, vs = [.ref r] ∧ Same Hs0 H0 ∧ H = upd (upd H0 dx (.own r)) r (.ins C dx []) ∧ H0 r = none ∧ H0 dx = none ∧ dx ≠ r ∧ ∀ H', Rd H0 Hs0 C r st0 H' → Q .non H'
abbrev s_init : Stmt := inClass (topS 13) 0
theorem sc_init : FnScope ["self"] ["self"] (defScope s_init) := ⟨rfl, rfl, rfl, by decide +kernel, rfl, by decide +kernel, by decide +kernel⟩
def runT (C : Addr) : RdSt → Nat → List Nat → Option (Nat ⊕ RdSt)
  | st, _, [] => some (.inr st)
  | st, i, c :: cs => (takesF C st c).bind fun p => if p.1 = true then runT C p.2 (i + 1) cs else some (.inl i)
def doneF (C : Addr) (z : Str) : Nat ⊕ RdSt → Option PyData
  | .inl i => some (.tuple [.none, .int (i : Nat)])
  | .inr st => if st.signs.isEmpty = true then (endsF C st).bind fun p => if p.1 = true then (match p.2.lots with | [d :: _] => some (.tuple [d, .none]) | _ => none) else some (.tuple [.none, .int z.length]) else some (.tuple [.none, .int z.length])
def readF (C : Addr) : List PyData → Option PyData
  | [.str z] => if z.length ≤ sizeLine then (runT C st0 0 z.cps.toList).bind (doneF C z) else none
  | _ => none
abbrev s_thing_read : Stmt := topS 14
theorem sc_thing_read : FnScope ["text", "reader", "at", "sign"] ["text"] (defScope s_thing_read) := ⟨rfl, rfl, rfl, by decide +kernel, rfl, by decide +kernel, by decide +kernel⟩
section
variable {P : Program} {w : World} {K : PySem.W.Frag} {mg : Str → Option Value} {base : Heap}
theorem ok_init {C f : Addr} {fd : FuncData} {k : Nat} (F : Fun K "__init__" "ThingReader.__init__" s_init f fd) (T : TR K C) : FnOk P w K mg base CX0 (k + 1) f fd ["self"] (spInit C) := by
  refine F.ok sc_init (fun vs H Q E h => ?_) (fun cdv A outer s H vs Q E hr h => ?_)
  · obtain ⟨H0, Hs0, r, dx, rfl, _⟩ := h
    rfl
  · obtain ⟨H0, Hs0, r, dx, rfl, s0, rfl, r0, d0, hne, q⟩ := h
    obtain ⟨cl, nL, nS, nW, nE⟩ := T
    refine ⟨_, pss_cons (ps_fld (f := "lots") (pv 0) (pe_lst (pa_cons (pe_lst pa_nil) pa_nil)) rfl) (pss_cons (ps_fld (f := "signs") (pv 0) (pe_lst pa_nil) rfl) (pss_cons (ps_fld (f := "word") (pv 0) pe_str rfl) (pss_one (ps_fld (f := "is_ended") (pv 0) pe_bl rfl)))), ?_⟩
    refine ⟨Nat.zero_le _, fun p hp => ⟨by show 1 ≤ sizeLine; decide, fun L hL => ?_⟩⟩
    have npr : r ≠ p := ne_of_none upd_same hp
    have nLr : r ≠ L := ne_of_none ((upd_ne npr).trans upd_same) hL
    have nLp : p ≠ L := ne_of_none upd_same hL
    refine ⟨_, rfl, r, C, dx, [], rfl, (upd_ne nLr).trans ((upd_ne npr).trans upd_same), cl, nL, (by show 0 < 1000; decide), Nat.zero_le _, fun S hS => ?_⟩
    have nSr : r ≠ S := ne_of_none upd_same hS
    have nSL : L ≠ S := ne_of_none ((upd_ne nLr.symm).trans upd_same) hS
    have nSp : p ≠ S := ne_of_none ((upd_ne npr.symm).trans ((upd_ne nLp).trans upd_same)) hS
    refine ⟨_, rfl, r, C, dx, _, rfl, (upd_ne nSr).trans upd_same, cl, nS, (by show 1 < 1000; decide), _, rfl, r, C, dx, _, rfl, upd_same, cl, nW, (by show 2 < 1000; decide), _, rfl, r, C, dx, _, rfl, upd_same, cl, nE, (by show 3 < 1000; decide), ?_⟩
    rw [upd_upd, upd_upd]
    have ndr : ∀ {b}, H0 b ≠ none → b ≠ dx := fun h z => h (z ▸ d0)
    have out : ∀ {b : Addr}, H0 b ≠ none → b ≠ r ∧ b ≠ dx ∧ b ≠ p ∧ b ≠ L ∧ b ≠ S := by
      intro b h
      have h1 : b ≠ r := fun z => h (z ▸ r0)
      have h2 : b ≠ dx := fun z => h (z ▸ d0)
      have h3 : b ≠ p := fun z => by
        subst z
        rw [upd_ne h1, upd_ne h2] at hp
        exact h hp
      have h4 : b ≠ L := fun z => by
        subst z
        rw [upd_ne h3, upd_ne h1, upd_ne h2] at hL
        exact h hL
      have h5 : b ≠ S := fun z => by
        subst z
        rw [upd_ne h1, upd_ne h4, upd_ne h3, upd_ne h1, upd_ne h2] at hS
        exact h hS
      exact ⟨h1, h2, h3, h4, h5⟩
    have big : ∀ b o, H0 b = some o → (upd (upd (upd (upd (upd (upd (upd H0 dx (.own r)) r (.ins C dx [])) p (.lst [])) L (.lst [.ref p])) r (.ins C dx (putF "lots" (.ref L) []))) S (.lst [])) r (.ins C dx (rdF L S "" false))) b = some o := fun b o e => by
      obtain ⟨h1, h2, h3, h4, h5⟩ := out (b := b) (by rw [e]; exact fun z => nomatch z)
      rw [upd_ne h1, upd_ne h5, upd_ne h1, upd_ne h4, upd_ne h3, upd_ne h1, upd_ne h2]
      exact e
    have nn : ∀ {b : Addr}, (b = r ∨ b = L ∨ b = S ∨ b = p) → H0 b = none := by
      intro b hb
      cases h : H0 b with
      | none => rfl
      | some o =>
        obtain ⟨h1, h2, h3, h4, h5⟩ := out (b := b) (by rw [h]; exact fun z => nomatch z)
        rcases hb with z | z | z | z
        · exact absurd z h1
        · exact absurd z h4
        · exact absurd z h5
        · exact absurd z h3
    refine q _ ⟨Hs0, dx, L, S, [p], ⟨big, Same.refl _, fun b o e => big _ _ (s0 _ _ e), fun b h _ => h⟩, ?_, fun x hx => ?_, upd_same, ?_, ?_, .cons (vs := []) ?_ .nil .nil⟩
    · simp only [List.nodup_cons, List.mem_cons, List.not_mem_nil, or_false, not_or, List.nodup_nil, and_true, not_false_iff]
      exact ⟨⟨nLr, nSr, npr⟩, ⟨nSL, nLp.symm⟩, nSp.symm⟩
    · have : x = r ∨ x = L ∨ x = S ∨ x = p := by simpa using hx
      exact ⟨nn this, s0.free (nn this)⟩
    · rw [upd_ne nLr.symm, upd_ne nSL, upd_ne nLr.symm, upd_same] <;> rfl
    · rw [upd_ne nSr.symm, upd_same] <;> rfl
    · rw [upd_ne npr.symm, upd_ne nSp, upd_ne npr.symm, upd_ne nLp, upd_same] <;> rfl
theorem ok_thing_read {C f fi ft fe : Addr} {fd fdi fdt fde : FuncData} {k : Nat} (F : Fun K "thing_read" "thing_read" s_thing_read f fd) (T : TR K C) (M : Mk K C fi) (hC : mg "ThingReader" = some (.ref C)) (m_en : mg "enumerate" = none) (m_len : mg "len" = none)
    (FI : FnOk P w K mg base CX0 k fi fdi ["self"] (spInit C)) (bI : Binds K fdi ["self"] []) (FT : FnOk P w K mg base CX0 (k + 1) ft fdt ["self", "sign"] (spTakes C)) (bT : Binds K fdt ["self", "sign"] []) (mT : Meth K C "takes" ft) (FE : FnOk P w K mg base CX0 (k + 1) fe fde ["self"] (spEnds C)) (bE : Binds K fde ["self"] []) (mE : Meth K C "ends" fe) :
    FnOk P w K mg base CX0 (k + 2) f fd ["text"] (spP (readF C)) := by
  refine F.ok sc_thing_read (fun vs H Q E h => ?_) (fun cdv A outer s H vs Q E hr h => ?_)
  · refine spP_len (g := readF C) (n := 1) (fun ws w e => ?_) h
    unfold readF at e
    split at e
    · rfl
    · cases e
  · obtain ⟨Hs0, ws, w0, s0, rws, e, q⟩ := h
    obtain ⟨cl, nL, nS, nW, nE⟩ := T
    have nd := sc_thing_read.nd
    unfold readF at e
    split at e
    case h_2 => cases e
    rename_i z
    split at e
    case isFalse => cases e
    rename_i hz
    obtain ⟨v0, rfl, r0⟩ := rws.one
    obtain rfl := r0.str_of
    refine ⟨_, pss_cons (ps_set (i := 1) nd rfl (Or.inl rfl) (pe_make0 M FI hr rfl hC bI .nil pass0))
      (pss_cons (ps_for PassesOwn.never rfl (pi_ens rfl m_en (pa_cons (pv 0) pa_nil)) (pg_tup rfl (pgs_cons (pg_name (i := 2) nd rfl (Or.inl rfl)) (pgs_cons (pg_name (i := 3) nd rfl (Or.inl rfl)) pgs_nil)))
        (pss_one (ps_if (pt_not (pt_val (pe_meth (pv 1) cl mT FT hr bT .nil pass0 (pa_cons (pv 3) pa_nil)))) (pss_one (ps_ret (pe_tup (pa_cons pe_non (pa_cons (pv 2) pa_nil))))) pss_nil)))
      (pss_one (ps_ret (pe_ifExp (pw_and (put_cmp (o_eq (u64 hr)) g_eq (pu_fld (pu_var 1) cl nS) (pu_lst pua_nil) (nomark _)).pt (pw_and1 (pt_val (pe_meth0 (pv 1) cl mE FE hr bE .nil pass0)))).pt
        (pe_tup (pa_cons (pe_ix ix_list (pe_ix ix_list (pe_fld (f := "lots") (pv 1) rfl) pe_int (fun _ _ => rfl)) pe_int (fun _ _ => rfl)) (pa_cons pe_non pa_nil)))
        (pe_tup (pa_cons pe_non (pa_cons (PU.pe (pu_callB c_len gc_len rfl m_len boot_len (pua_cons (pu_var 0) pua_nil))) pa_nil))))))), ?_⟩
    have nm : ∀ {L S : Addr} {st : RdSt} {m : Str}, (m == "lots") = false → (m == "signs") = false → (m == "word") = false → (m == "is_ended") = false → (rdF L S st.word st.ended).lookup m = none := fun h1 h2 h3 h4 => rd_noM h1 h2 h3 h4
    intro r dx nx ndx nex
    refine ⟨H, Hs0, r, dx, rfl, s0, rfl, nx, ndx, nex, fun H1 R1 => ⟨rfl, ?_⟩⟩
    refine ⟨_, rfl, z, rfl, fun i m σ H' => m = z.cps.size - i ∧ i ≤ z.cps.size ∧ ∃ st a b, σ = [some (.str z), some (.ref r), a, b] ∧ Rd H Hs0 C r st H' ∧ (runT C st i (z.cps.toList.drop i)).bind (doneF C z) = some w0,
      ⟨z.cps.size, by simp, Nat.zero_le _, st0, none, none, rfl, R1, by rw [List.drop_zero]; exact e⟩, ?_⟩
    rintro i m σ H2 ⟨rfl, hle, st, a, b, rfl, R2, e2⟩
    by_cases hlt : i < z.cps.size
    · refine .inr ⟨hlt, fun σ' H' => ∃ st a b, σ' = [some (.str z), some (.ref r), a, b] ∧ Rd H Hs0 C r st H' ∧ (runT C st (i + 1) (z.cps.toList.drop (i + 1))).bind (doneF C z) = some w0, fun σ' H' h => ⟨z.cps.size - (i + 1), by omega, rfl, hlt, h⟩, ?_⟩
      rintro x H3 ⟨t, c, rfl, ht, rfl, hc⟩
      have R3 := R2.grow (H' := upd H2 t (.tup [.int (i : Nat), .str ⟨#[c]⟩])) fun b u h => by rw [upd_ne (ne_of_none h ht)]; exact h
      have ed : z.cps.toList.drop i = c :: z.cps.toList.drop (i + 1) := by
        rw [List.drop_eq_getElem_cons (by rw [Array.length_toList]; exact hlt)]
        congr 1
        rw [Array.getElem?_eq_getElem hlt] at hc
        rw [Array.getElem_toList]
        exact Option.some.inj hc
      rw [ed] at e2
      obtain ⟨o, e2, e3⟩ := bindS e2
      obtain ⟨⟨k1, st1⟩, e4, e5⟩ := bindS e2
      refine ⟨t, _, rfl, SqT.of upd_same, rfl, _, _, rfl, _, _, rfl, rfl, ?_⟩
      obtain ⟨Hs3, dx3, L3, S3, ls3, R3'⟩ := id R3
      refine ⟨_, rfl, r, dx3, _, rfl, R3'.ro, nm (by decide +kernel) (by decide +kernel) (by decide +kernel) (by decide +kernel), _, rfl, ?_⟩
      refine ⟨H, Hs0, r, st, c, k1, st1, rfl, R3, e4, fun H4 R4 => ⟨k1, rfl, ?_⟩⟩
      cases k1 with
      | true => exact iteF ⟨st1, _, _, rfl, R4, by rw [show runT C st1 (i + 1) (z.cps.toList.drop (i + 1)) = some o from e5]; exact e3⟩
      | false =>
        cases e5
        cases e3
        refine iteT ⟨_, rfl, by show 2 ≤ sizeLine; decide, fun p hp => ?_⟩
        obtain ⟨Hs4, dx4, L4, S4, ls4, R4'⟩ := R4
        exact q _ _ _ (R4'.ext.laid hp _) (Rp.newT (R4'.ext.sub.free hp) (.cons .non (.cons (.int _) .nil)))
    · have ei : i = z.cps.size := by omega
      subst ei
      refine .inl ⟨rfl, ?_⟩
      rw [List.drop_eq_nil_of_le (by rw [Array.length_toList]; exact Nat.le_refl _)] at e2
      have e2 : doneF C z (.inr st) = some w0 := e2
      obtain ⟨Hs2, dx2, L2, S2, ls2, R2'⟩ := id R2
      have re : REnv H2 [some (.str z), some (.ref r), a, b] [some (.str z), some (obD C st), none, none] := ⟨Nat.le_refl 4, fun i w hi => by
        rcases i with _ | _ | _ | _ | i
        · cases hi; exact ⟨_, rfl, .str _⟩
        · cases hi; exact ⟨_, rfl, R2'.view⟩
        · cases hi
        · cases hi
        · cases hi⟩
      have elen : w0 = .tuple [.none, .int z.length] → ∀ H5, Rd H Hs0 C r st H5 ∨ (∃ s, Rd H Hs0 C r s H5) → tTup (tCons (tC .non) (tCons (tPu (fCall gLen (fCons (fVar 0) fNil))) tNil)) [some (.str z), some (.ref r), a, b] H5 Q := by
        rintro rfl H5 hR
        obtain ⟨s5, Hs5, dx5, L5, S5, ls5, R5⟩ : ∃ s, Rd H Hs0 C r s H5 := by
          rcases hR with h | h
          · exact ⟨_, h⟩
          · exact h
        refine ⟨Hs5, [some (.str z)], .int z.length, R5.ext.sub, ⟨by show 1 ≤ 4; decide, fun i w hi => by
          rcases i with _ | i
          · cases hi; exact ⟨_, rfl, .str _⟩
          · cases hi⟩, ?_, fun v6 H6 Hs6 x6 r6 => ⟨by show 2 ≤ sizeLine; decide, fun p hp => ?_⟩⟩
        · show (if z.length ≤ sizeLine then some (PyData.int z.length) else none) = _
          rw [if_pos hz]
        · exact q _ _ _ ((R5.ext.trans x6).laid hp _) (Rp.newT (x6.sub.free hp) (.cons .non (.cons r6 .nil)))
      refine ⟨H2, _, st.signs.isEmpty, Same.refl _, re, ?_, fun H3 Hs3 x3 => ?_⟩
      · unfold f2T fFld
        rw [show fVar 1 [some (PyData.str z), some (obD C st), none, none] = some (obD C st) from rfl, Option.bind_some, g_signs]
        have := gEq_nil (ds := (st.signs.map PyData.str).reverse) (by rw [← List.map_reverse]; exact plain_strs _)
        refine this.trans ?_
        cases st.signs with
        | nil => rfl
        | cons z zs => simp
      have R3 := R2'.grow x3.big
      unfold doneF at e2
      simp only at e2
      split at e2
      · rename_i hs
        rw [hs]
        refine iteT ?_
        obtain ⟨⟨b1, st1⟩, e3, e4⟩ := bindS e2
        refine ⟨_, rfl, r, dx2, _, rfl, R3.ro, nm (by decide +kernel) (by decide +kernel) (by decide +kernel) (by decide +kernel), ?_⟩
        refine ⟨H, Hs0, r, st, b1, st1, rfl, ⟨_, _, _, _, _, R3⟩, e3, fun H4 R4 => ⟨b1, rfl, ?_⟩⟩
        cases b1 with
        | true =>
          refine iteT ?_
          rw [if_pos rfl] at e4
          split at e4
          case h_2 => cases e4
          rename_i d ds hl
          cases e4
          obtain ⟨Hs4, dx4, L4, S4, ls4, R4'⟩ := R4
          have hl : st1.lots = [d :: ds] := hl
          have t4 := R4'.lots
          have lo4 := R4'.lo
          rw [hl] at t4
          cases t4 with
          | cons hl4 rl4 tt =>
          cases tt
          cases rl4 with
          | cons rd rt =>
          refine ⟨_, rfl, r, C, dx4, _, _, rfl, R4'.ro, cl, nL, rd_lots, ?_⟩
          refine ⟨L4, _, 0, _, rfl, rfl, SqL.of lo4, rfl, ?_⟩
          refine ⟨_, _, 0, _, rfl, rfl, SqL.of hl4, atI_first _ _, ?_⟩
          refine ⟨by show 2 ≤ sizeLine; decide, fun p hp => ?_⟩
          exact q _ _ _ (R4'.ext.laid hp _) (Rp.newT (R4'.ext.sub.free hp) (.cons rd (.cons .non .nil)))
        | false =>
          cases e4
          exact iteF (elen rfl H4 (.inr ⟨_, R4⟩))
      · rename_i hs
        cases e2
        rw [Bool.eq_false_iff.mpr hs]
        exact iteF (iteF (elen rfl H3 (.inl ⟨_, _, _, _, _, R3⟩)))
end
end K88

set_option Elab.async false
set_option linter.all false
set_option maxRecDepth 100000
set_option maxHeartbeats 4000000
/-! What the pure functions on slots come to. -/
namespace K88
open PySem PySem.Spec PyProof.Rows L2 Pu
theorem compL_map {i : Nat} {fe : Ev → Option PyData} {ev : Ev} {h : PyData → PyData} : ∀ {ws : List PyData}, (∀ w ∈ ws, fe (ev.set i (some w)) = some (h w)) → compL asOne [i] (fun _ => some true) fe ev ws = some (ws.map h)
  | [], _ => rfl
  | w :: ws, k => by
    show ((fe (ev.set i (some w))).bind fun y => (compL asOne [i] (fun _ => some true) fe ev ws).bind fun ys => some (y :: ys)) = _
    rw [k w List.mem_cons_self, compL_map fun w' hw' => k w' (List.mem_cons_of_mem _ hw')]
    rfl
theorem lt_one (a b : Nat) : decide (([a] : List Nat) < [b]) = decide (a < b) := by
  by_cases h : a < b
  · rw [decide_eq_true h]; exact decide_eq_true (List.Lex.rel h)
  · rw [decide_eq_false h]
    refine decide_eq_false fun z => ?_
    cases z with
    | rel z => exact h z
    | cons z => cases z
theorem gLe_one (a b : Nat) : gLe (.str (one a)) (.str (one b)) = some (decide (a ≤ b)) := by
  have e : gLe (.str (one a)) (.str (one b)) = some (!decide ([b] < [a])) := rfl
  rw [e, lt_one]
  by_cases h : b < a
  · rw [decide_eq_true h, decide_eq_false (by omega : ¬ a ≤ b)]; rfl
  · rw [decide_eq_false h, decide_eq_true (by omega : a ≤ b)]; rfl
theorem chain_one {f : Ev → Option PyData} {ev : Ev} {a b c : Nat} (za zb : Str) (ha : za = one a) (hb : zb = one b) (h : f ev = some (.str (one c))) : fChain gLe gLe (fC (.str za)) f (fC (.str zb)) ev = some (decide (a ≤ c) && decide (c ≤ b)) := by
  subst ha hb
  unfold fChain fC
  rw [h]
  simp only [Option.bind_some]
  rw [gLe_one]
  simp only [Option.bind_some]
  rw [gLe_one]
  by_cases h1 : a ≤ c
  · rw [decide_eq_true h1]; rfl
  · rw [decide_eq_false h1]; rfl
theorem in_one (c : Nat) (z : Str) : gInD (.str (one c)) (.str z) = some (decide (c ∈ z.cps.toList)) := by
  show some (inS ⟨#[c]⟩ z) = _
  rw [inS_one]
theorem asBs_map {α : Type} {h : α → Bool} : ∀ (ws : List α), asBs (ws.map fun w => .bool (h w)) = some (ws.map h)
  | [] => rfl
  | w :: ws => by
    have e : asBs ((w :: ws).map fun w => .bool (h w)) = (asBs (ws.map fun w => .bool (h w))).map (h w :: ·) := rfl
    rw [e, asBs_map ws]
    rfl
end K88

set_option Elab.async false
set_option linter.all false
set_option maxRecDepth 100000
set_option maxHeartbeats 4000000
/-! The errors: check_row, read_thing, heard. -/
namespace K88
open PySem PySem.Spec PyProof.Rows L2 Pu
/-- an error's class at C, its __init__ at fI -/
structure TX (K : PySem.W.Frag) (mg : Str → Option Value) (x : Str) (C fI EE : Addr) : Prop where
  g : mg x = some (.ref C)
  o : OexC K C
  iC : PySem.W.findIn K (.ref C) "__init__" = some (some (.ref fI))
  tI : PySem.W.typeIn K (.ref fI) = some (.type "function")
  e : ExD K C
  nv : PySem.W.findIn K (.ref C) "value" = some none
  em : PySem.W.exmOne K (.ref C) (.ref EE) = some true
def spExInit (C : Addr) : Sp := fun vs H Q _ => ∃ a v, vs = [.ref a, v] ∧ H a = some (exo a C none) ∧ ∀ dx, H dx = none → dx ≠ a → Q .non (upd (upd H dx (exd dx [("value", v)])) a (exo a C (some dx)))
abbrev s_exU : Stmt := inClass (topS 2) 0
abbrev s_exT : Stmt := inClass (topS 4) 0
theorem sc_exU : FnScope ["self", "value"] ["self", "value"] (defScope s_exU) := ⟨rfl, rfl, rfl, by decide +kernel, rfl, by decide +kernel, by decide +kernel⟩
theorem sc_exT : FnScope ["self", "value"] ["self", "value"] (defScope s_exT) := ⟨rfl, rfl, rfl, by decide +kernel, rfl, by decide +kernel, by decide +kernel⟩
def prOk : PyData → Option Bool
  | .str z => if z.length ≤ sizeLine then some (z.cps.toList.all fun c => decide (32 ≤ c) && decide (c ≤ 126)) else none
  | w => if Pu.obD w = true then none else some false
def spCheck (C : Addr) : Sp := fun vs H Q E => ∃ (Hs : Hp) (w : PyData) (v : V) (b : Bool), vs = [v] ∧ Same Hs H ∧ Rp Hs w v ∧ prOk w = some b ∧
  (b = true → ∀ H' Hs', Ext H Hs H' Hs' → Q .non H') ∧ (b = false → ∀ d H' Hs' v', Ext H Hs H' Hs' → H' d = some (.xd [("value", v')]) → Rp Hs' w v' → E (.ref C) (some d) H')
abbrev s_check_row : Stmt := topS 7
theorem sc_check_row : FnScope ["text", "sign"] ["text"] (defScope s_check_row) := ⟨rfl, rfl, rfl, by decide +kernel, rfl, by decide +kernel, by decide +kernel⟩
/-- the heap behind a made error -/
theorem made_ext {H Hs : Hp} {a dx : Addr} {o1 o2 o3 o4 : HO} (s : Same Hs H) (na : H a = none) (nd : H dx = none) : Ext H Hs (upd (del (upd (upd (upd H a o1) dx o2) a o3) a) dx o4) Hs := by
  have big : ∀ b o, H b = some o → upd (del (upd (upd (upd H a o1) dx o2) a o3) a) dx o4 b = some o := fun b o e => by
    have h1 := ne_of_none e na
    have h2 := ne_of_none e nd
    rw [upd_ne h2, del_ne h1, upd_ne h1, upd_ne h2, upd_ne h1]
    exact e
  exact ⟨big, Same.refl _, fun b o e => big b o (s b o e), fun b h _ => h⟩
section
variable {P : Program} {w : World} {K : PySem.W.Frag} {mg : Str → Option Value} {base : Heap}
theorem ok_exU {C f : Addr} {fd : FuncData} {k : Nat} {q : Str} {dvs : List V} {kws : List (Str × V)} (F : FunD K "__init__" q (defArgs s_exU) (defBody s_exU) (defScope s_exU) dvs kws f fd) (o : OexC K C) (nv : PySem.W.findIn K (.ref C) "value" = some none) : FnOk P w K mg base CX0 (k + 1) f fd ["self", "value"] (spExInit C) := by
  refine F.ok sc_exU (fun vs H Q E h => ?_) (fun cdv A outer s H vs Q E hr h => ?_)
  · obtain ⟨a, v, rfl, _⟩ := h
    rfl
  · obtain ⟨a, v, rfl, ha, q⟩ := h
    exact ⟨_, pss_one (ps_ost (pv 0) (pv 1)), _, rfl, _, rfl, a, C, rfl, o, nv, .inl ⟨ha, fun dx n ne => q dx n ne⟩⟩
theorem ok_exT {C f : Addr} {fd : FuncData} {k : Nat} {q : Str} {dvs : List V} {kws : List (Str × V)} (F : FunD K "__init__" q (defArgs s_exT) (defBody s_exT) (defScope s_exT) dvs kws f fd) (o : OexC K C) (nv : PySem.W.findIn K (.ref C) "value" = some none) : FnOk P w K mg base CX0 (k + 1) f fd ["self", "value"] (spExInit C) := by
  refine F.ok sc_exT (fun vs H Q E h => ?_) (fun cdv A outer s H vs Q E hr h => ?_)
  · obtain ⟨a, v, rfl, _⟩ := h
    rfl
  · obtain ⟨a, v, rfl, ha, q⟩ := h
    exact ⟨_, pss_one (ps_ost (pv 0) (pv 1)), _, rfl, _, rfl, a, C, rfl, o, nv, .inl ⟨ha, fun dx n ne => q dx n ne⟩⟩
def FchkT : Ev → Option Bool := (fOr (fNot (fT (fIsi (fVar 0) ["str"]))) (fNot (fT (fCall gAll (fCons (fComp (fIt (fVar 0)) asOne [1] [1] (fun _ => some true) (fB (fChain gLe gLe (fC (.str " ")) (fVar 1) (fC (.str "~"))))) fNil)))))
theorem chk_val {w : PyData} {b : Bool} (h : prOk w = some b) : FchkT [some w, none] = some (!b) := by
  cases w with
  | str z =>
    have h : (if z.length ≤ sizeLine then some (z.cps.toList.all fun c => decide (32 ≤ c) && decide (c ≤ 126)) else none) = some b := h
    split at h
    · rename_i hz
      cases h
      have e1 : fIt (fVar 0) [some (PyData.str z), none] = some (Pu.signs z) := rfl
      have e2 : fComp (fIt (fVar 0)) asOne [1] [1] (fun _ => some true) (fB (fChain gLe gLe (fC (.str " ")) (fVar 1) (fC (.str "~")))) [some (PyData.str z), none] = some (.list (z.cps.toList.map fun c => .bool (decide (32 ≤ c) && decide (c ≤ 126)))) := by
        unfold fComp
        rw [e1]
        show (if (Pu.signs z).length ≤ sizeLine then _ else none) = _
        rw [if_pos (by unfold Pu.signs; rw [List.length_map, Array.length_toList]; exact hz)]
        have e3 : compL asOne [1] (fun _ => some true) (fB (fChain gLe gLe (fC (.str " ")) (fVar 1) (fC (.str "~")))) (wipeE [some (PyData.str z), none] [1]) (Pu.signs z) = some ((Pu.signs z).map fun w => match w with | .str s => .bool (s.cps.toList.all fun c => decide (32 ≤ c) && decide (c ≤ 126)) | _ => .none) := by
          refine compL_map fun w hw => ?_
          obtain ⟨c, hc, rfl⟩ := List.mem_map.mp hw
          unfold fB
          rw [chain_one (c := c) " " "~" rfl rfl rfl]
          simp
        rw [e3]
        unfold Pu.signs
        rw [List.map_map]
        simp [Function.comp_def]
      unfold FchkT fOr
      have e4 : fNot (fT (fIsi (fVar 0) ["str"])) [some (PyData.str z), none] = some false := rfl
      rw [e4]
      show fNot (fT (fCall gAll (fCons _ fNil))) _ = _
      unfold fNot fT fCall fCons
      rw [e2]
      show (((asBs (z.cps.toList.map fun c => .bool (decide (32 ≤ c) && decide (c ≤ 126)))).map fun bs => PyData.bool (bs.all id)).bind asB).map (! ·) = _
      rw [asBs_map]
      show some (!((z.cps.toList.map fun c => decide (32 ≤ c) && decide (c ≤ 126)).all id)) = _
      rw [List.all_map]
      rfl
    · cases h
  | none => cases h; rfl
  | bool _ => cases h; rfl
  | int _ => cases h; rfl
  | list _ => cases h; rfl
  | tuple _ => cases h; rfl
  | dict ps =>
    have h : (if isOb ps = true then none else some false) = some b := h
    split at h
    · cases h
    · rename_i ho
      cases h
      have e : fIsi (fVar 0) ["str"] [some (PyData.dict ps), none] = some (.bool false) := by
        show (if isOb ps = true then none else _) = _
        rw [if_neg ho]
        rfl
      unfold FchkT fOr fNot fT
      rw [e]
      rfl
theorem ok_check_row {C f fI EE : Addr} {fd fdI : FuncData} {k : Nat} (F : Fun K "check_row" "check_row" s_check_row f fd) (T : TX K mg "InvalidText" C fI EE) (FI : FnOk P w K mg base CX0 k fI fdI ["self", "value"] (spExInit C)) (bI : Binds K fdI ["self", "value"] [])
    (m_all : mg "all" = none) (m_isinstance : mg "isinstance" = none) (m_str : mg "str" = none) : FnOk P w K mg base (L2.CX P w) (k + 2) f fd ["text"] (spCheck C) := by
  refine F.okX sc_check_row (fun vs H Q E h => ?_) (fun cdv A outer s H vs Q E hr h => ?_)
  · obtain ⟨Hs, w, v, b, rfl, _⟩ := h
    rfl
  · obtain ⟨Hs, w0, v, b, rfl, s0, r0, hp, q1, q2⟩ := h
    have nd := sc_check_row.nd
    refine ⟨_, pss_one (ps_if (PUT.pt (f := FchkT) (put_w (puw_or (put_not (put_val (pu_isi (x := "str") (T := "str") (pu_var 0) rfl m_isinstance rfl m_str (by decide +kernel) (by decide)))) (puw_or1 (put_not (put_val (pu_callB (cr_all rfl) gc_all rfl m_all boot_all (pua_cons (pu_lc (own := [("sign", 1)]) (is := [1]) rfl nd (pui_any (pu_var 0)) (blkOk_by (N := ["text", "sign"]) (sc := defScope s_check_row) (by decide +kernel)) gp_one tp_yes (by decide) (fun _ _ _ _ _ => (pg_name (i := 1) nd rfl (Or.inl rfl))) (fun _ _ _ _ _ => pts_nil) (fun _ _ _ _ _ => (pu_chain o_le g_le o_le g_le pu_str (pu_var 1) pu_str))) pua_nil))))))))
      (pss_one (ps_raise rfl (takes_of rfl rfl rfl rfl) (pmk_oex T.o T.iC T.tI FI hr bI .nil pass0 rfl T.g (pa_cons (pv 0) pa_nil)))) pss_nil), ?_⟩
    refine ⟨Hs, _, !b, s0, REnv.start (N := ["text", "sign"]) (ws := [w0]) (.cons r0 .nil), chk_val hp, fun H1 Hs1 x1 => ?_⟩
    cases b with
    | true => exact iteF (q1 rfl H1 Hs1 x1)
    | false =>
      refine iteT ⟨v, rfl, by show 1 ≤ 1000; decide, fun a na => ?_⟩
      refine ⟨a, v, rfl, upd_same, fun dx nd ne => ⟨rfl, dx, _, upd_same, by rw [upd_ne ne, upd_same], by rw [upd_ne ne] at nd; exact nd, ?_⟩⟩
      rw [upd_ne ne] at nd
      exact q2 rfl dx _ Hs1 v (x1.trans (made_ext x1.sub na nd)) upd_same (r0.mono x1.small)
end
end K88

set_option Elab.async false
set_option linter.all false
set_option maxRecDepth 100000
set_option maxHeartbeats 4000000
namespace K88
open PySem PySem.Spec PyProof.Rows L2 Pu
theorem ext_more {H Hs H1 Hs1 : Hp} {a : Addr} {o : HO} (x : Ext H Hs H1 Hs1) (na : H1 a = none) : Ext H Hs (upd H1 a o) Hs1 :=
  ⟨fun b u e => by rw [upd_ne (ne_of_none (x.big b u e) na)]; exact x.big b u e, x.small, fun b u e => by rw [upd_ne (ne_of_none (x.sub b u e) na)]; exact x.sub b u e, x.new⟩
/-- the classes of the errors, what is known of them -/
structure TXs (K : PySem.W.Frag) (mg : Str → Option Value) (CE CT CU fT fU : Addr) : Prop where
  t : TX K mg "InvalidText" CT fT CE
  u : TX K mg "Unread" CU fU CE
  gE : mg "EndError" = some (.ref CE)
  tt : PySem.W.kitOne K (.ref CT) (.ref CT) = some true
  tu : PySem.W.kitOne K (.ref CT) (.ref CU) = some false
  ut : PySem.W.kitOne K (.ref CU) (.ref CT) = some false
  uu : PySem.W.kitOne K (.ref CU) (.ref CU) = some true
def spRead (C CT CU : Addr) : Sp := fun vs H Q E => ∃ (Hs : Hp) (w : PyData) (v : V) (b : Bool), vs = [v] ∧ Same Hs H ∧ Rp Hs w v ∧ prOk w = some b ∧
  (b = false → ∀ d H' Hs' v', Ext H Hs H' Hs' → H' d = some (.xd [("value", v')]) → Rp Hs' w v' → E (.ref CT) (some d) H') ∧
  (b = true → ∃ found at_, readF C [w] = some (.tuple [found, at_]) ∧ ((at_ = .none ∧ ∀ v' H' Hs', Ext H Hs H' Hs' → Rp Hs' found v' → Q v' H') ∨ ∃ i, at_ = .int i ∧ ∀ d H' Hs', Ext H Hs H' Hs' → H' d = some (.xd [("value", .int i)]) → E (.ref CU) (some d) H'))
abbrev s_read_thing : Stmt := topS 15
theorem sc_read_thing : FnScope ["text", "found", "at"] ["text"] (defScope s_read_thing) := ⟨rfl, rfl, rfl, by decide +kernel, rfl, by decide +kernel, by decide +kernel⟩
def heardF (C : Addr) : List PyData → Option PyData
  | [w] => match prOk w with
    | some false => some (.list [.str "text", w])
    | some true => match readF C [w] with
      | some (.tuple [f, .none]) => some (.list [.str "told", f])
      | some (.tuple [_, .int i]) => some (.list [.str "unread", .int i])
      | _ => none
    | none => none
  | _ => none
abbrev s__law_heard : Stmt := topS 28
theorem sc__law_heard : FnScope ["text", "caught", "error", "kinds"] ["text"] (defScope s__law_heard) := ⟨rfl, rfl, rfl, by decide +kernel, rfl, by decide +kernel, by decide +kernel⟩
section
variable {P : Program} {w : World} {K : PySem.W.Frag} {mg : Str → Option Value} {base : Heap}
theorem ok_read_thing {C CE CT CU fT fU f fc fr : Addr} {fd fdc fdr fdU : FuncData} {k : Nat} (F : Fun K "read_thing" "read_thing" s_read_thing f fd) (T : TXs K mg CE CT CU fT fU) (FU : FnOk P w K mg base CX0 k fU fdU ["self", "value"] (spExInit CU)) (bU : Binds K fdU ["self", "value"] [])
    (FC : FnOk P w K mg base (L2.CX P w) (k + 1) fc fdc ["text"] (spCheck CT)) (mC : mg "check_row" = some (.ref fc)) (kC : PySem.W.keepIn K (.ref fc) = true) (bC : Binds K fdc ["text"] [])
    (FR : FnOk P w K mg base CX0 (k + 1) fr fdr ["text"] (spP (readF C))) (mR : mg "thing_read" = some (.ref fr)) (kR : PySem.W.keepIn K (.ref fr) = true) (bR : Binds K fdr ["text"] []) : FnOk P w K mg base (L2.CX P w) (k + 2) f fd ["text"] (spRead C CT CU) := by
  refine F.okX sc_read_thing (fun vs H Q E h => ?_) (fun cdv A outer s H vs Q E hr h => ?_)
  · obtain ⟨Hs, w, v, b, rfl, _⟩ := h
    rfl
  · obtain ⟨Hs, w0, v, b, rfl, s0, r0, hp, q1, q2⟩ := h
    have nd := sc_read_thing.nd
    have tk : Takes (cxOf (L2.CX P w) P w K mg base ["text", "found", "at"] "read_thing" (defScope s_read_thing) f cdv A outer s H E) (fun cls d _ H => E cls d H) := takes_of rfl rfl rfl rfl
    refine ⟨_, pss_cons (ps_expr (pe_callS FC hr rfl mC kC bC (fun σ => passAt tk σ) (pa_cons (pv 0) pa_nil)))
      (pss_cons (ps_asg (pe_call FR hr rfl mR kR bR .nil pass0 (pa_cons (pv 0) pa_nil)) (pg_tup rfl (pgs_cons (pg_name (i := 1) nd rfl (Or.inl rfl)) (pgs_cons (pg_name (i := 2) nd rfl (Or.inl rfl)) pgs_nil))))
      (pss_cons (ps_if (PUT.pt (put_cmp o_isN g_isN (pu_var 2) pu_non (nomark _))) (pss_one (ps_raise rfl tk (pmk_oex T.u.o T.u.iC T.u.tI FU hr bU .nil pass0 rfl T.u.g (pa_cons (pv 2) pa_nil)))) pss_nil)
      (pss_one (ps_ret (pv 1))))), ?_⟩
    refine ⟨v, rfl, Hs, w0, v, b, rfl, s0, r0, hp, fun hb H1 Hs1 x1 => ?_, fun hb => q1 hb⟩
    obtain ⟨found, at_, e, q⟩ := q2 hb
    refine ⟨v, rfl, Hs1, [w0], _, x1.sub, .cons (r0.mono x1.small) .nil, e, fun v2 H2 Hs2 x2 r2 => ?_⟩
    obtain ⟨t, xs, rfl, ht, rr⟩ := r2.tup_of
    obtain ⟨y, z, rfl, ry, rz⟩ := rr.two
    refine ⟨t, _, rfl, SqT.of (x2.sub _ _ ht), rfl, _, _, rfl, _, _, rfl, rfl, ?_⟩
    have x12 := x1.trans x2
    have re : REnv Hs2 [some v, some y, some z] [some w0, some found, some at_] := REnv.start (N := ["text", "found", "at"]) (ws := [w0, found, at_]) (.cons (r0.mono x12.small) (.cons ry (.cons rz .nil)))
    rcases q with ⟨rfl, q⟩ | ⟨i, rfl, q⟩
    · refine ⟨Hs2, _, false, x2.sub, re, rfl, fun H3 Hs3 x3 => iteF ?_⟩
      exact ⟨_, rfl, q _ _ _ (x12.trans x3) (ry.mono x3.small)⟩
    · refine ⟨Hs2, _, true, x2.sub, re, rfl, fun H3 Hs3 x3 => iteT ?_⟩
      obtain rfl := rz.int_of
      refine ⟨_, rfl, by show 1 ≤ 1000; decide, fun a na => ?_⟩
      refine ⟨a, _, rfl, upd_same, fun dx nd ne => ⟨rfl, dx, _, upd_same, by rw [upd_ne ne, upd_same], by rw [upd_ne ne] at nd; exact nd, ?_⟩⟩
      rw [upd_ne ne] at nd
      exact q dx _ Hs3 ((x12.trans x3).trans (made_ext x3.sub na nd)) upd_same
theorem ok_heard {C CE CT CU fT fU f fr : Addr} {fd fdr : FuncData} {k : Nat} (F : Fun K "_law_heard" "_law_heard" s__law_heard f fd) (T : TXs K mg CE CT CU fT fU) (FR : FnOk P w K mg base (L2.CX P w) k fr fdr ["text"] (spRead C CT CU)) (mR : mg "read_thing" = some (.ref fr)) (kR : PySem.W.keepIn K (.ref fr) = true) (bR : Binds K fdr ["text"] [])
    (m_isinstance : mg "isinstance" = none) : FnOk P w K mg base CX0 (k + 1) f fd ["text"] (spP (heardF C)) := by
  refine F.ok sc__law_heard (fun vs H Q E h => ?_) (fun cdv A outer s H vs Q E hr h => ?_)
  · refine spP_len (g := heardF C) (n := 1) (fun ws w e => ?_) h
    unfold heardF at e
    split at e
    · rfl
    · cases e
  · obtain ⟨Hs, ws, w1, s0, rws, e, q⟩ := h
    have nd := sc__law_heard.nd
    refine ⟨_, pss_cons (ps_set (i := 1) nd rfl (Or.inl rfl) pe_non)
      (pss_cons (ps_tryKeep (i := 2) (c := .ref CE) (tb := fun W => tRet (tLst (tCons (tC (.str "told")) (tCons (tCallS (spRead C CT CU) (WE W) (tCons (tVar 0) tNil)) tNil)))) (ts := fun _ _ _ => tAsg (tVar 2) (gName 1)) (Wo := fun _ _ _ _ => False) rfl rfl rfl nd rfl rfl ⟨rfl, by decide, Or.inl T.gE⟩ takes0
        (fun W pn xe tk _ => pss_one (ps_ret (pe_lst (pa_cons pe_str (pa_cons (pe_callS FR hr rfl mR kR bR (fun σ => passAt tk σ) (pa_cons (pv 0) pa_nil)) pa_nil)))))
        (fun a ob cl d pn => pss_one (ps_set (i := 1) nd rfl (Or.inl rfl) (pv 2))))
      (pss_cons (ps_set (i := 3) nd rfl (Or.inl rfl) (pe_lst (pa_cons (pe_callB call_isK rfl m_isinstance boot_isinstance (pa_cons (pv 1) (pa_cons (pe_glob (v := .ref CT) rfl T.t.g rfl) pa_nil)) (by decide) (by decide)) (pa_cons (pe_callB call_isK rfl m_isinstance boot_isinstance (pa_cons (pv 1) (pa_cons (pe_glob (v := .ref CU) rfl T.u.g rfl) pa_nil)) (by decide) (by decide)) pa_nil))))
      (pss_one (ps_ret (pe_ifExp (pt_cmpR op_eq (pe_bm PySem.F.plainAttrs_list PySem.F.slot_list_count PySem.F.type_list_count mt_cntF (pv 3) (pa_cons pe_bl pa_nil)) pe_int (nomark _))
        (pe_lst (pa_cons (pe_ix ix_list (pe_lst (pa_cons pe_str (pa_cons pe_str pa_nil))) (pe_bm PySem.F.plainAttrs_list PySem.F.slot_list_index PySem.F.type_list_index mt_index (pv 3) (pa_cons pe_bl pa_nil)) (fun _ _ => rfl)) (pa_cons (pe_xk (pv 1)) pa_nil)))
        (pe_lst (pa_cons pe_str (pa_cons pe_non pa_nil)))))))), ?_⟩
    unfold heardF at e
    split at e
    case h_2 => cases e
    rename_i w0
    obtain ⟨v, rfl, r0⟩ := rws.one
    -- what follows a caught error
    have after : ∀ (CC a d : Addr) (H1 Hs1 : Hp) (v1 : V) (u1 : PyData) (z : Str), Ext H Hs H1 Hs1 → H1 d = some (.xd [("value", v1)]) → Rp Hs1 u1 v1 → H1 a = none → ExD K CC → PySem.W.findIn K (.ref CC) "value" = some none → w1 = .list [.str z, u1] →
        ((PySem.W.kitOne K (.ref CC) (.ref CT) = some true ∧ PySem.W.kitOne K (.ref CC) (.ref CU) = some false ∧ z = "text") ∨ (PySem.W.kitOne K (.ref CC) (.ref CT) = some false ∧ PySem.W.kitOne K (.ref CC) (.ref CU) = some true ∧ z = "unread")) →
        tSeq (tAsg (tLst (tCons (tCB (rIsK K) (tCons (tVar 1) (tCons (tC (.ref CT)) tNil))) (tCons (tCB (rIsK K) (tCons (tVar 1) (tCons (tC (.ref CU)) tNil))) tNil))) (gName 3))
          (tRet (tIf (tTest (tOp rEq (tBM K "list" (rCntF K) (tVar 3) (tCons (tC (.bl true)) tNil)) (tC (.int 1))))
            (tLst (tCons (tOp (rIxL K) (tLst (tCons (tC (.str "text")) (tCons (tC (.str "unread")) tNil))) (tBM K "list" (rIndex K) (tVar 3) (tCons (tC (.bl true)) tNil))) (tCons (tXk K "value" (tVar 1)) tNil)))
            (tLst (tCons (tC (.str "other")) (tCons (tC .non) tNil))))) { nx := fun _ H' => Q .non H', rt := Q } [some v, some (.ref a), none, none] (upd H1 a (exk a (.ref CC) (some d))) := by
      rintro CC a d H1 Hs1 v1 u1 z x1 hd r1 na T0 hnv rfl hk
      have nda : d ≠ a := ne_of_none hd na
      have ga : (upd H1 a (exk a (.ref CC) (some d))) a = some (exk a (.ref CC) (some d)) := upd_same
      have gd : (upd H1 a (exk a (.ref CC) (some d))) d = some (.xd [("value", v1)]) := (upd_ne nda).trans hd
      have xg : Ext H Hs (upd H1 a (exk a (.ref CC) (some d))) Hs1 := ext_more x1 na
      generalize upd H1 a (exk a (.ref CC) (some d)) = G at ga gd xg
      obtain ⟨b1, b2, k1, k2, hz⟩ : ∃ b1 b2, PySem.W.kitOne K (.ref CC) (.ref CT) = some b1 ∧ PySem.W.kitOne K (.ref CC) (.ref CU) = some b2 ∧ ((b1 = true ∧ b2 = false ∧ z = "text") ∨ (b1 = false ∧ b2 = true ∧ z = "unread")) := by
        rcases hk with ⟨h1, h2, h3⟩ | ⟨h1, h2, h3⟩
        · exact ⟨_, _, h1, h2, .inl ⟨rfl, rfl, h3⟩⟩
        · exact ⟨_, _, h1, h2, .inr ⟨rfl, rfl, h3⟩⟩
      refine ⟨_, rfl, a, CC, d, _, CT, b1, rfl, ga, gd, T0, k1, _, rfl, a, CC, d, _, CU, b2, rfl, ga, gd, T0, k2, by show 2 ≤ sizeLine; decide, fun p hp => ?_⟩
      have npa : a ≠ p := ne_of_none ga hp
      have npd : d ≠ p := ne_of_none gd hp
      refine ⟨_, rfl, .inl ⟨rfl, _, SqL.of upd_same⟩, p, [.bl b1, .bl b2], .bl true, rfl, rfl, SqL.of upd_same, rfl, rfl, rfl, true, ?_, ?_⟩
      · rcases hz with ⟨rfl, rfl, _⟩ | ⟨rfl, rfl, _⟩ <;> rfl
      refine iteT ⟨by show 2 ≤ sizeLine; decide, fun p2 hp2 => ?_⟩
      have np2 : p ≠ p2 := ne_of_none upd_same hp2
      have n2a : a ≠ p2 := ne_of_none ((upd_ne npa).trans ga) hp2
      have n2d : d ≠ p2 := ne_of_none ((upd_ne npd).trans gd) hp2
      have gp : (upd (upd G p (.lst [.bl b1, .bl b2])) p2 (.lst [.str "text", .str "unread"])) p = some (.lst [.bl b1, .bl b2]) := (upd_ne np2).trans upd_same
      have x2 := ext_more (o := .lst [.str "text", .str "unread"]) (ext_more (o := .lst [.bl b1, .bl b2]) xg hp) hp2
      have fin : ∀ j y, ([V.bl b1, .bl b2])[j]? = some y → eqV y (.bl true) = true → (∀ (m : Nat) (z' : V), m < j → ([V.bl b1, .bl b2])[m]? = some z' → eqV z' (.bl true) = false) → atI [V.str "text", .str "unread"] (j : Nat) = some (.str z) → tBM K "list" (rIndex K) (tVar 3) (tCons (tC (.bl true)) tNil) [some v, some (.ref a), none, some (.ref p)] (upd (upd G p (.lst [.bl b1, .bl b2])) p2 (.lst [.str "text", .str "unread"])) (fun y2 H2 => rIxL K (.ref p2) y2 H2 fun y3 H3 => tCons (tXk K "value" (tVar 1)) tNil [some v, some (.ref a), none, some (.ref p)] H3 fun vs H4 => (y3 :: vs).length ≤ sizeLine ∧ ∀ p', H4 p' = none → Q (.ref p') (upd H4 p' (.lst (y3 :: vs)))) := by
        intro j y h1 h2 h3 h4
        refine ⟨_, rfl, .inl ⟨rfl, _, SqL.of gp⟩, p, _, .bl true, j, y, rfl, rfl, SqL.of gp, rfl, rfl, h1, h2, h3, ?_⟩
        refine ⟨p2, _, _, _, rfl, rfl, SqL.of upd_same, h4, ?_⟩
        refine ⟨_, rfl, a, CC, d, _, v1, rfl, (upd_ne n2a).trans ((upd_ne npa).trans ga), (upd_ne n2d).trans ((upd_ne npd).trans gd), T0, hnv, rfl, by show 2 ≤ sizeLine; decide, fun p3 hp3 => ?_⟩
        exact q _ _ _ (x2.laid hp3 _) (Rp.newL (x2.sub.free hp3) (.cons (.str _) (.cons r1 .nil)))
      rcases hz with ⟨rfl, rfl, rfl⟩ | ⟨rfl, rfl, rfl⟩
      · exact fin 0 (.bl true) rfl rfl (fun m z' hm _ => absurd hm (Nat.not_lt_zero _)) rfl
      · exact fin 1 (.bl true) rfl rfl (fun m z' hm hz' => by
          obtain rfl : m = 0 := by omega
          cases hz'
          rfl) rfl
    refine ⟨v, rfl, ?_⟩
    cases hp : prOk w0 with
    | none => rw [hp] at e; cases e
    | some b =>
      rw [hp] at e
      refine ⟨Hs, w0, v, b, rfl, s0, r0, hp, fun hb d H1 Hs1 v1 x1 hd r1 => ?_, fun hb => ?_⟩
      · subst hb
        cases e
        exact ⟨true, T.t.em, fun z => (Bool.noConfusion z), fun _ a na => ⟨_, rfl, fun na' => after CT a d H1 Hs1 v1 w0 "text" x1 hd r1 na T.t.e T.t.nv rfl (.inl ⟨T.tt, T.tu, rfl⟩)⟩⟩
      · subst hb
        simp only at e
        split at e
        · rename_i f0 e2
          cases e
          refine ⟨f0, .none, e2, .inl ⟨rfl, fun v' H' Hs' x r => ⟨by show 2 ≤ sizeLine; decide, fun p hp => ?_⟩⟩⟩
          exact q _ _ _ (x.laid hp _) (Rp.newL (x.sub.free hp) (.cons (.str _) (.cons r .nil)))
        · rename_i u0 i e2
          cases e
          refine ⟨u0, .int i, e2, .inr ⟨i, rfl, fun d H1 Hs1 x1 hd => ?_⟩⟩
          exact ⟨true, T.u.em, fun z => (Bool.noConfusion z), fun _ a na => ⟨_, rfl, fun na' => after CU a d H1 Hs1 (.int i) (.int i) "unread" x1 hd (.int i) na T.u.e T.u.nv rfl (.inr ⟨T.ut, T.uu, rfl⟩)⟩⟩
        · cases e
end
end K88

set_option Elab.async false
set_option linter.all false
set_option maxRecDepth 100000
set_option maxHeartbeats 4000000
/-! The purse: what is drawn. -/
namespace K88
open PySem PySem.Spec PyProof.Rows L2 Pu
/-- the purse at p, apart from the pure values; n: how often it may have turned -/
structure Pur (p : Addr) (H Hs : Hp) (n : Nat) : Prop where
  at_ : ∃ a b c d : Int, H p = some (.lst [.int a, .int b, .int c, .int d]) ∧ 0 ≤ a ∧ 0 ≤ b ∧ b < 2 ^ 32 ∧ 0 ≤ c ∧ c ≤ n ∧ 0 ≤ d ∧ d < 2 ^ 32
  pn : Hs p = none
  sub : Same Hs H
theorem Pur.np {p : Addr} {H Hs : Hp} {n : Nat} (h : Pur p H Hs n) : H p ≠ none := by
  obtain ⟨a, b, c, d, e, _⟩ := h.at_
  rw [e]
  exact fun z => nomatch z
theorem Pur.ext {p : Addr} {H Hs H' Hs' : Hp} {n : Nat} (h : Pur p H Hs n) (x : Ext H Hs H' Hs') : Pur p H' Hs' n := by
  obtain ⟨a, b, c, d, e, r⟩ := h.at_
  exact ⟨⟨a, b, c, d, x.big _ _ e, r⟩, x.new p h.pn h.np, x.sub⟩
theorem Pur.grow {p : Addr} {H Hs H' : Hp} {n : Nat} (h : Pur p H Hs n) (s : Same H H') : Pur p H' Hs n := by
  obtain ⟨a, b, c, d, e, r⟩ := h.at_
  exact ⟨⟨a, b, c, d, s _ _ e, r⟩, h.pn, h.sub.trans s⟩
theorem Pur.more {p : Addr} {H Hs : Hp} {n m : Nat} (h : Pur p H Hs n) (l : n ≤ m) : Pur p H Hs m := by
  obtain ⟨a, b, c, d, e, h1, h2, h3, h4, h5, h6⟩ := h.at_
  exact ⟨⟨a, b, c, d, e, h1, h2, h3, h4, by omega, h6⟩, h.pn, h.sub⟩
theorem Pur.keep {p : Addr} {H Hs : Hp} {n : Nat} (h : Pur p H Hs n) : ExtB p H Hs H Hs := ⟨fun _ _ _ e => e, Same.refl _, h.sub, h.pn, fun _ z _ => z⟩
/-- the purse is written, or the heap grew -/
theorem Pur.extB {p : Addr} {H Hs H' : Hp} {n : Nat} (h : Pur p H Hs n) (s : ∀ b o, b ≠ p → H b = some o → H' b = some o) : ExtB p H Hs H' Hs :=
  ⟨s, Same.refl _, fun b o e => s b o (ne_of_none e h.pn) (h.sub b o e), h.pn, fun _ z _ => z⟩
theorem at4_0 {α : Type} (a b c d : α) : atI [a, b, c, d] 0 = some a := rfl
theorem at4_1 {α : Type} (a b c d : α) : atI [a, b, c, d] 1 = some b := rfl
theorem at4_2 {α : Type} (a b c d : α) : atI [a, b, c, d] 2 = some c := rfl
theorem at4_3 {α : Type} (a b c d : α) : atI [a, b, c, d] 3 = some d := rfl
def spMixed : Sp := fun vs H Q _ => ∃ a b c : Int, vs = [.int a, .int b, .int c] ∧ 0 ≤ a ∧ a < 2 ^ 32 ∧ 0 ≤ b ∧ b < 2 ^ 60 ∧ ∀ r : Int, 0 ≤ r → Q (.int r) H
abbrev s_mixed : Stmt := topS 18
theorem sc_mixed : FnScope ["seed", "spin", "at", "mixed"] ["seed", "spin", "at"] (defScope s_mixed) := ⟨rfl, rfl, rfl, by decide +kernel, rfl, by decide +kernel, by decide +kernel⟩
abbrev s_draw : Stmt := topS 19
theorem sc_draw : FnScope ["purse", "many", "drawn", "found", "piece"] ["purse", "many"] (defScope s_draw) := ⟨rfl, rfl, rfl, by decide +kernel, rfl, by decide +kernel, by decide +kernel⟩
def spDraw : Sp := fun vs H Q _ => ∃ (p : Addr) (Hs : Hp) (n : Nat) (many : Int), vs = [.ref p, .int many] ∧ Pur p H Hs n ∧ n < 2 ^ 50 ∧ 0 < many ∧ many < 2 ^ 112 ∧ ∀ (r : Int) (H' : Hp), 0 ≤ r → r < many → ExtB p H Hs H' Hs → Pur p H' Hs (n + 5) → Q (.int r) H'
section
variable {P : Program} {w : World} {K : PySem.W.Frag} {mg : Str → Option Value} {base : Heap}
theorem ok_mixed {f : Addr} {fd : FuncData} {k : Nat} (F : Fun K "_law_mixed" "_law_mixed" s_mixed f fd) (m_int : mg "int" = none) : FnOk P w K mg base CX0 (k + 1) f fd ["seed", "spin", "at"] spMixed := by
  refine F.ok sc_mixed (fun vs H Q E h => ?_) (fun cdv A outer s H vs Q E hr h => ?_)
  · obtain ⟨a, b, c, rfl, _⟩ := h
    rfl
  · obtain ⟨a, b, c, rfl, ha, ha2, hb, hb2, q⟩ := h
    have nd := sc_mixed.nd
    refine ⟨_, pss_cons (ps_set (i := 3) nd rfl (Or.inl rfl) (pe_op op_add (pe_op op_mul (pv 0) pe_int) (pe_op op_mul (pe_op op_mul pe_int (pv 1)) (pv 1))))
      (pss_cons (ps_set (i := 3) nd rfl (Or.inl rfl) (pe_op op_mod (pe_callTy call_int1 rfl m_int boot_int (pa_cons (pe_op op_add (pe_op op_add (pv 3) (pe_op op_mul pe_int (pv 2))) (pv 1)) pa_nil)) pe_int))
      (pss_cons (ps_set (i := 3) nd rfl (Or.inl rfl) (pe_op op_mod (pe_callTy call_int1 rfl m_int boot_int (pa_cons (pe_op op_add (pe_op op_mul (pv 3) (pv 3)) pe_int) pa_nil)) pe_int))
      (pss_one (ps_ret (pe_op op_mod (pe_callTy call_int1 rfl m_int boot_int (pa_cons (pe_op op_mul (pv 3) pe_int) pa_nil)) pe_int))))), ?_⟩
    refine ⟨_, rfl, _, _, rfl, rfl, .inr ⟨by decide, by decide⟩, _, rfl, _, _, rfl, rfl, .inl ⟨by decide, by decide⟩, _, rfl, _, _, rfl, rfl, .inr ⟨by omega, by omega⟩, _, _, rfl, rfl, ?_⟩
    refine ⟨_, rfl, _, rfl, _, _, rfl, rfl, .inl ⟨by decide, by decide⟩, _, _, rfl, rfl, _, rfl, _, _, rfl, rfl, .inl ⟨_, rfl, _, _, rfl, rfl, (by show (0 : Int) < _; decide), ?_⟩⟩
    generalize a * 69069 + 104729 * b * b + 7919 * c + b = x
    refine ⟨_, rfl, _, rfl, _, _, rfl, rfl, .inl ⟨by omega, by omega⟩, _, _, rfl, rfl, .inl ⟨_, rfl, _, _, rfl, rfl, (by show (0 : Int) < _; decide), ?_⟩⟩
    generalize x % 2147483647 * (x % 2147483647) + 40503 = y
    refine ⟨_, rfl, _, _, rfl, rfl, .inr ⟨by decide, by decide⟩, .inl ⟨_, rfl, _, _, rfl, rfl, (by show (0 : Int) < _; decide), q _ ?_⟩⟩
    exact Int.emod_nonneg _ (by decide)
theorem ok_draw {f fm : Addr} {fd fdm : FuncData} {k : Nat} (F : Fun K "_law_draw" "_law_draw" s_draw f fd) (FM : FnOk P w K mg base CX0 k fm fdm ["seed", "spin", "at"] spMixed) (mM : mg "_law_mixed" = some (.ref fm)) (kM : PySem.W.keepIn K (.ref fm) = true) (bM : Binds K fdm ["seed", "spin", "at"] [])
    (m_int : mg "int" = none) (m_range : mg "range" = none) : FnOk P w K mg base CX0 (k + 1) f fd ["purse", "many"] spDraw := by
  refine F.ok sc_draw (fun vs H Q E h => ?_) (fun cdv A outer s H vs Q E hr h => ?_)
  · obtain ⟨p, Hs, n, many, rfl, _⟩ := h
    rfl
  · obtain ⟨p, Hs, n, many, rfl, R, hn, h0, h1, q⟩ := h
    have nd := sc_draw.nd
    refine ⟨_, pss_cons (ps_if (pt_cmpR op_gt (pe_ix ix_list (pv 0) pe_int (fun _ _ => rfl)) pe_int (nomark _))
        (pss_cons (ps_set (i := 2) nd rfl (Or.inl rfl) (pe_op op_mod (pe_callTy call_int1 rfl m_int boot_int (pa_cons (pe_ix ix_list (pv 0) pe_int (fun _ _ => rfl)) pa_nil)) (pv 1)))
        (pss_cons (ps_asg (pe_op op_fdivW (pe_ix ix_list (pv 0) pe_int (fun _ _ => rfl)) (pv 1)) (pg_sub (pv 0) pe_int set_list))
        (pss_one (ps_ret (pv 2))))) pss_nil)
      (pss_cons (ps_set (i := 3) nd rfl (Or.inl rfl) pe_int)
      (pss_cons (ps_for PassesOwn.never rfl (pi_range1 rfl m_range (pa_cons (pe_op op_add pe_int (pe_op op_fdiv (pe_bits (pv 1)) pe_int)) pa_nil)) (pg_name (i := 4) nd rfl (Or.inl rfl))
        (pss_cons (ps_asg (pe_op op_add (pe_ix ix_list (pv 0) pe_int (fun _ _ => rfl)) pe_int) (pg_sub (pv 0) pe_int set_list))
        (pss_one (ps_set (i := 3) nd rfl (Or.inl rfl) (pe_op op_add (pe_op op_mul (pv 3) pe_int) (pe_call FM hr rfl mM kM bM .nil pass0 (pa_cons (pe_ix ix_list (pv 0) pe_int (fun _ _ => rfl)) (pa_cons (pe_ix ix_list (pv 0) pe_int (fun _ _ => rfl)) (pa_cons (pe_ix ix_list (pv 0) pe_int (fun _ _ => rfl)) pa_nil)))))))))
      (pss_one (ps_ret (pe_op op_mod (pe_callTy call_int1 rfl m_int boot_int (pa_cons (pv 3) pa_nil)) (pv 1)))))), ?_⟩
    obtain ⟨a, b, c, d, e, ha, hb, hb2, hc, hc2, hd, hd2⟩ := R.at_
    have mk : ∀ {H' : Hp} {a' c' : Int} {m : Nat}, (∀ x o, x ≠ p → H x = some o → H' x = some o) → H' p = some (.lst [.int a', .int b, .int c', .int d]) → 0 ≤ a' → 0 ≤ c' → c' ≤ m → Pur p H' Hs m := fun s e' h1 h2 h3 =>
      ⟨⟨_, b, _, d, e', h1, hb, hb2, h2, h3, hd, hd2⟩, R.pn, fun x o z => s x o (ne_of_none z R.pn) (R.sub x o z)⟩
    refine ⟨_, rfl, p, _, 0, _, rfl, rfl, SqL.of e, at4_0 _ _ _ _, _, _, rfl, rfl, decide (0 < a), rfl, ?_⟩
    by_cases hpos : 0 < a
    · rw [decide_eq_true hpos]
      refine iteT ⟨_, rfl, p, _, 0, _, rfl, rfl, SqL.of e, at4_0 _ _ _ _, .inl ⟨_, rfl, ?_⟩⟩
      refine ⟨_, rfl, _, _, rfl, rfl, h0, ?_⟩
      refine ⟨_, rfl, p, _, 0, _, rfl, rfl, SqL.of e, at4_0 _ _ _ _, _, rfl, _, _, rfl, rfl, ⟨h0, ?_⟩, ?_⟩
      · have h9 : many.natAbs < 2 ^ 112 := by omega
        exact Nat.lt_of_lt_of_le (PySem.Flt.log2_lt_of (by decide) h9) (by decide)
      refine ⟨_, rfl, p, _, 0, 0, rfl, rfl, e, rfl, ?_⟩
      have hr1 : 0 ≤ a % many := Int.emod_nonneg _ (by omega)
      have hr2 : a % many < many := Int.emod_lt_of_pos _ h0
      have k := fun (x : Addr) (o : HO) (hx : x ≠ p) (z : H x = some o) => (upd_ne (o := .lst [.int (a / many), .int b, .int c, .int d]) hx).trans z
      exact ⟨_, rfl, q _ _ hr1 hr2 (R.extB k) (mk (m := n + 5) k upd_same (Int.ediv_nonneg ha (by omega)) hc (by omega))⟩
    · rw [decide_eq_false hpos]
      refine iteF ?_
      have hbits : PySem.Builtin.Int.intBits many ≤ 112 := PyProof.Rows.intBits_le (by omega)
      refine ⟨_, rfl, _, rfl, _, _, rfl, rfl, ⟨by decide, by decide⟩, _, _, rfl, rfl, _, rfl, by omega, by omega, ?_⟩
      generalize hN : (1 + ((PySem.Builtin.Int.intBits many : Nat) : Int) / 28).toNat = N
      have hN5 : N ≤ 5 := by omega
      refine ⟨fun i m σ H' => m = N - i ∧ i ≤ N ∧ ∃ (found c' : Int) (v2 v4 : Option V), σ = [some (.ref p), some (.int many), v2, some (.int found), v4] ∧ (∀ x o, x ≠ p → H x = some o → H' x = some o) ∧ H' p = some (.lst [.int a, .int b, .int c', .int d]) ∧ 0 ≤ c' ∧ c' ≤ (n + i : Nat),
        ⟨N, by simp, Nat.zero_le _, 0, c, none, none, rfl, fun _ _ _ z => z, e, hc, by simpa using hc2⟩, ?_⟩
      rintro i m σ H2 ⟨rfl, hle, found, c', v2, v4, rfl, k2, e2, hc1, hc3⟩
      by_cases hlt : i < N
      · refine .inr ⟨hlt, fun σ' H' => ∃ (found c' : Int) (v2 v4 : Option V), σ' = [some (.ref p), some (.int many), v2, some (.int found), v4] ∧ (∀ x o, x ≠ p → H x = some o → H' x = some o) ∧ H' p = some (.lst [.int a, .int b, .int c', .int d]) ∧ 0 ≤ c' ∧ c' ≤ (n + (i + 1) : Nat), fun σ' H' h => ⟨N - (i + 1), by omega, rfl, hlt, h⟩, ?_⟩
        rintro x H3 ⟨rfl, rfl⟩
        refine ⟨_, rfl, p, _, 2, _, rfl, rfl, SqL.of e2, at4_2 _ _ _ _, _, _, rfl, rfl, ?_⟩
        refine ⟨_, rfl, p, _, 2, 2, rfl, rfl, e2, rfl, ?_⟩
        have e3 : (upd H3 p (.lst [.int a, .int b, .int (c' + 1), .int d])) p = some (.lst [.int a, .int b, .int (c' + 1), .int d]) := upd_same
        refine ⟨_, rfl, _, _, rfl, rfl, .inr ⟨by decide, by decide⟩, ?_⟩
        refine ⟨_, rfl, p, _, 1, _, rfl, rfl, SqL.of e3, at4_1 _ _ _ _, _, rfl, p, _, 2, _, rfl, rfl, SqL.of e3, at4_2 _ _ _ _, _, rfl, p, _, 3, _, rfl, rfl, SqL.of e3, at4_3 _ _ _ _, ?_⟩
        refine ⟨b, c' + 1, d, rfl, hb, by omega, by omega, by omega, fun r hr => ?_⟩
        refine ⟨_, _, rfl, rfl, ?_⟩
        exact ⟨_, c' + 1, v2, _, rfl, fun x o hx z => (upd_ne hx).trans (k2 x o hx z), e3, by omega, by omega⟩
      · have ei : i = N := by omega
        subst ei
        refine .inl ⟨Nat.le_refl _, ?_⟩
        refine ⟨_, rfl, .inl ⟨_, rfl, _, rfl, _, _, rfl, rfl, h0, ?_⟩⟩
        exact q _ _ (Int.emod_nonneg _ (by omega)) (Int.emod_lt_of_pos _ h0) (R.extB k2) (mk k2 e2 ha hc1 (by omega))
end
end K88

set_option Elab.async false
set_option linter.all false
set_option maxRecDepth 100000
set_option maxHeartbeats 4000000
namespace K88
open PySem PySem.Spec PyProof.Rows L2 Pu
theorem Pur.extOf {p : Addr} {H Hs H' Hs' : Hp} {n : Nat} (h : Pur p H Hs n) (x : Ext H Hs H' Hs') : ExtB p H Hs H' Hs' := .of x h.pn h.np
/-- a new thing beside the pure ones -/
theorem extB_own {p D : Addr} {H Hs H' Hs' : Hp} {o : HO} (x : ExtB p H Hs H' Hs') (hD : H D = none) (nD : Hs' D = none) (h : H' D = some o) (ne : D ≠ p) : ExtB p H Hs H' (upd Hs' D o) :=
  ⟨x.big, x.small.trans fun b u e => by rw [upd_ne (ne_of_none e nD)]; exact e, fun b u e => by
    by_cases hb : b = D
    · subst hb; rw [upd_same] at e; rw [← e]; exact h
    · rw [upd_ne hb] at e; exact x.sub b u e, by rw [upd_ne (Ne.symm ne)]; exact x.pn, fun b h1 h2 => by
    have hb : b ≠ D := fun z => by subst z; exact h2 hD
    rw [upd_ne hb]; exact x.new b h1 h2⟩
theorem tAnd_of {t u : TT} {σ : L2.St} {H : Hp} {Q : Bool → Hp → Prop} (a b : Bool) (h1 : ∀ Q' : Bool → Hp → Prop, Q' a H → t σ H Q') (h2 : ∀ Q' : Bool → Hp → Prop, Q' b H → u σ H Q') (q : Q (a && b) H) : tAnd t u σ H Q := by
  refine h1 _ ?_
  cases a with
  | true => exact iteT (h2 _ q)
  | false => exact iteF q
def wordsL : List Str := ["ends", "none", "comes again", "x", "x@", "?0", "?12", "a b c", "zz9@", "?", "lasso", "q0 9", "fghijklm", "opqrstuvw"]
def Leaf (w : PyData) : Prop := w = .none ∨ (∃ b, w = .bool b) ∨ (∃ i : Int, w = .int i ∧ -(10 ^ 31) < i ∧ i < 10 ^ 31) ∨ ∃ z, z ∈ wordsL ∧ w = .str z
def ThingOk : Nat → PyData → Prop
  | 0, w => Leaf w
  | d + 1, w => Leaf w ∨ ∃ ds : List PyData, (w = .tuple ds ∨ w = .list ds) ∧ ds.length ≤ 3 ∧ ∀ x ∈ ds, ThingOk d x
theorem ThingOk.leaf {w : PyData} (h : Leaf w) : ∀ d, ThingOk d w
  | 0 => h
  | _ + 1 => .inl h
def cost : Nat → Nat
  | 0 => 20
  | d + 1 => 3 * cost d + 30
theorem cost_ge (d : Nat) : 20 ≤ cost d := by
  cases d with
  | zero => exact Nat.le_refl _
  | succ d => unfold cost; omega
def spOneOf : Sp := fun vs H Q _ => ∃ (p : Addr) (Hs : Hp) (n : Nat) (ds : List PyData) (v : V), vs = [.ref p, v] ∧ Pur p H Hs n ∧ n < 2 ^ 50 ∧ Rp Hs (.list ds) v ∧ ds ≠ [] ∧ ds.length ≤ sizeLine ∧ ∀ (w : PyData) (v' : V) (H' : Hp), w ∈ ds → Rp Hs w v' → ExtB p H Hs H' Hs → Pur p H' Hs (n + 5) → Q v' H'
abbrev s_one_of : Stmt := topS 21
theorem sc_one_of : FnScope ["purse", "some"] ["purse", "some"] (defScope s_one_of) := ⟨rfl, rfl, rfl, by decide +kernel, rfl, by decide +kernel, by decide +kernel⟩
abbrev s_thing : Stmt := topS 24
theorem sc_thing : FnScope ["purse", "deep", "way", "parts", "spin", "words"] ["purse", "deep"] (defScope s_thing) := ⟨rfl, rfl, rfl, by decide +kernel, rfl, by decide +kernel, by decide +kernel⟩
def spThing (D : Nat) : Sp := fun vs H Q _ => ∃ (p : Addr) (Hs : Hp) (n d : Nat), vs = [.ref p, .int (d : Nat)] ∧ d < D ∧ Pur p H Hs n ∧ n + cost d < 2 ^ 50 ∧ ∀ (w : PyData) (v : V) (H' Hs' : Hp), ExtB p H Hs H' Hs' → Rp Hs' w v → ThingOk d w → Pur p H' Hs' (n + cost d) → Q v H'
section
variable {P : Program} {w : World} {K : PySem.W.Frag} {mg : Str → Option Value} {base : Heap}
theorem ok_one_of {f fD : Addr} {fd fdD : FuncData} {k : Nat} (F : Fun K "_law_one_of" "_law_one_of" s_one_of f fd) (FD : FnOk P w K mg base CX0 k fD fdD ["purse", "many"] spDraw) (mD : mg "_law_draw" = some (.ref fD)) (kD : PySem.W.keepIn K (.ref fD) = true) (bD : Binds K fdD ["purse", "many"] [])
    (m_len : mg "len" = none) : FnOk P w K mg base CX0 (k + 1) f fd ["purse", "some"] spOneOf := by
  refine F.ok sc_one_of (fun vs H Q E h => ?_) (fun cdv A outer s H vs Q E hr h => ?_)
  · obtain ⟨p, Hs, n, ds, v, rfl, _⟩ := h
    rfl
  · obtain ⟨p, Hs, n, ds, v, rfl, R, hn, r, hne, hl, q⟩ := h
    refine ⟨_, pss_one (ps_ret (pe_ix ix_list (pv 1) (pe_call FD hr rfl mD kD bD .nil pass0 (pa_cons (pv 0) (pa_cons (pe_callB call_len_seq (by rfl) m_len boot_len (pa_cons (pv 1) pa_nil)) pa_nil))) (fun _ _ => rfl))), ?_⟩
    obtain ⟨a, xs, rfl, ha, ra⟩ := r.lst_of
    have hlen := ra.len
    have hpos : 0 < ds.length := List.length_pos_iff.mpr hne
    have hsz := sizeLine_eq
    refine ⟨_, rfl, _, rfl, _, rfl, a, xs, rfl, .inl (SqL.of (R.sub _ _ ha)), p, Hs, n, _, rfl, R, hn, by omega, by omega, fun i H1 h1 h2 x1 R1 => ?_⟩
    have hi : i.toNat < xs.length := by omega
    have hget : xs[i.toNat]? = some (xs[i.toNat]'hi) := List.getElem?_eq_getElem hi
    have hat : atI xs i = some (xs[i.toNat]'hi) := by
      unfold atI ixN
      rw [if_pos h1, if_pos h2]
      exact hget
    obtain ⟨w0, ew, rw0⟩ := ra.get' hget
    refine ⟨a, xs, i, _, rfl, rfl, SqL.of (R1.sub _ _ ha), hat, q w0 _ H1 (List.mem_of_getElem? ew) rw0 x1 R1⟩
theorem ok_thing {f fD fO : Addr} {fd fdD fdO : FuncData} {k D : Nat} (F : Fun K "_law_thing" "_law_thing" s_thing f fd) (mF : mg "_law_thing" = some (.ref f)) (kF : PySem.W.keepIn K (.ref f) = true) (bF : Binds K fd ["purse", "deep"] []) (FT : FnOk P w K mg base CX0 k f fd ["purse", "deep"] (spThing D))
    (FD : FnOk P w K mg base CX0 k fD fdD ["purse", "many"] spDraw) (mD : mg "_law_draw" = some (.ref fD)) (kD : PySem.W.keepIn K (.ref fD) = true) (bD : Binds K fdD ["purse", "many"] [])
    (FO : FnOk P w K mg base CX0 k fO fdO ["purse", "some"] spOneOf) (mO : mg "_law_one_of" = some (.ref fO)) (kO : PySem.W.keepIn K (.ref fO) = true) (bO : Binds K fdO ["purse", "some"] [])
    (m_range : mg "range" = none) (m_tuple : mg "tuple" = none) : FnOk P w K mg base CX0 (k + 1) f fd ["purse", "deep"] (spThing (D + 1)) := by
  refine F.ok sc_thing (fun vs H Q E h => ?_) (fun cdv A outer s H vs Q E hr h => ?_)
  · obtain ⟨p, Hs, n, d, rfl, _⟩ := h
    rfl
  · obtain ⟨p, Hs, n, d, rfl, hd, R, hn, q⟩ := h
    have nd := sc_thing.nd
    refine ⟨_, pss_cons (ps_set (i := 2) nd rfl (Or.inl rfl) (pe_call FD hr rfl mD kD bD .nil pass0 (pa_cons (pv 0) (pa_cons pe_int pa_nil))))
      (pss_cons (ps_if (pw_and (pt_cmpR op_gt (pv 1) pe_int (nomark _)) (pw_and1 (pt_cmpR op_lt (pv 2) pe_int (nomark _)))).pt
        (pss_cons (ps_setLc (i := 3) (own := [("spin", 4)]) rfl nd rfl rfl (sw_true rfl rfl rfl (by decide +kernel)) (pi_range1 rfl m_range (pa_cons (pe_call FD hr rfl mD kD bD .nil pass0 (pa_cons (pv 0) (pa_cons pe_int pa_nil))) pa_nil)) (blkOk_by (N := ["purse", "deep", "way", "parts", "spin", "words"]) (sc := defScope s_thing) (by decide +kernel))
            (fun _ _ _ _ _ => (pg_name (i := 4) nd rfl (Or.inl rfl))) (fun _ _ _ _ _ => pts_nil) (fun _ _ _ _ _ => pe_call FT hr rfl mF kF bF .nil pass0 (pa_cons (pv 0) (pa_cons (pe_op op_sub (pv 1) pe_int) pa_nil))))
        (pss_one (ps_ret (PU.pe (pu_ifE (put_cmp o_lt g_lt (pu_var 2) pu_int (nomark _)) (pu_callTy call_tuple_of gc_tuple rfl m_tuple boot_tuple (pua_cons (pu_var 3) pua_nil)) (pu_var 3)))))) pss_nil)
      (pss_cons (ps_if (pt_cmpR op_lt (pv 2) pe_int (nomark _))
        (pss_one (ps_ret (pe_call FO hr rfl mO kO bO .nil pass0 (pa_cons (pv 0) (pa_cons (pe_lst (pa_cons pe_int (pa_cons pe_int (pa_cons (pe_op op_sub pe_int pe_int) (pa_cons pe_int (pa_cons (pe_call FD hr rfl mD kD bD .nil pass0 (pa_cons (pv 0) (pa_cons (pe_op op_pow pe_int pe_int) pa_nil))) (pa_cons (pe_op op_sub (pe_op op_sub pe_int pe_int) (pe_call FD hr rfl mD kD bD .nil pass0 (pa_cons (pv 0) (pa_cons pe_int pa_nil)))) pa_nil))))))) pa_nil))))) pss_nil)
      (pss_cons (ps_set (i := 5) nd rfl (Or.inl rfl) (PU.pe (pu_lst (pua_cons pu_str (pua_cons pu_str (pua_cons pu_str (pua_cons pu_str (pua_cons pu_str (pua_cons pu_str (pua_cons pu_str (pua_cons pu_str (pua_cons pu_str (pua_cons pu_str (pua_cons pu_str (pua_cons pu_str (pua_cons pu_str (pua_cons pu_str pua_nil)))))))))))))))))
      (pss_one (ps_ret (pe_call FO hr rfl mO kO bO .nil pass0 (pa_cons (pv 0) (pa_cons (PU.pe (pu_op o_add g_add (pu_lst (pua_cons pu_non (pua_cons pu_bl (pua_cons pu_bl pua_nil)))) (pu_var 5))) pa_nil)))))))), ?_⟩
    have c20 := cost_ge d
    refine ⟨_, rfl, p, Hs, n, 9, rfl, R, by omega, by decide, by decide, fun way H1 w1 w2 x1 R1 => ?_⟩
    show tAnd (tTest (tOp (rI0 fun i j => V.bl (decide (j < i))) (tVar 1) (tC (.int 0)))) (tTest (tOp (rI0 fun i j => V.bl (decide (i < j))) (tVar 2) (tC (.int 6)))) [some (.ref p), some (.int (d : Nat)), some (.int way), none, none, none] H1 _
    refine tAnd_of (decide ((0 : Int) < (d : Nat))) (decide (way < 6)) (fun Q' h => ⟨_, rfl, _, _, rfl, rfl, _, rfl, h⟩) (fun Q' h => ⟨_, rfl, _, _, rfl, rfl, _, rfl, h⟩) ?_
    cases hab : (decide ((0 : Int) < (d : Nat)) && decide (way < 6)) with
    | true =>
      rw [Bool.and_eq_true, decide_eq_true_eq, decide_eq_true_eq] at hab
      refine iteT ?_
      obtain ⟨e, rfl⟩ : ∃ e, d = e + 1 := ⟨d - 1, by omega⟩
      have hc : cost (e + 1) = 3 * cost e + 30 := rfl
      rw [hc] at hn q
      refine ⟨_, rfl, p, Hs, n + 5, 4, rfl, R1, by omega, by decide, by decide, fun m H2 m1 m2 x2 R2 => ⟨m, rfl, by omega, by omega, fun Dl hDl => ?_⟩⟩
      have nDp : Dl ≠ p := fun z => R2.np (z ▸ hDl)
      have x12 := x1.trans x2
      have hD0 : H Dl = none := by
        cases hh : H Dl with
        | none => rfl
        | some o => rw [x12.big Dl o nDp hh] at hDl; cases hDl
      have big0 : ∀ b o, H2 b = some o → (upd H2 Dl (.lst [])) b = some o := fun b o z => (upd_ne (ne_of_none z hDl)).trans z
      generalize hm : m.toNat = M
      have hM : M ≤ 3 := by omega
      refine ⟨fun i k H' => k = M - i ∧ i ≤ M ∧ ∃ Hs' ds vs, ExtB p H Hs H' Hs' ∧ H' Dl = some (.lst vs) ∧ Hs' Dl = none ∧ RpAll Hs' ds vs ∧ ds.length = i ∧ (∀ x ∈ ds, ThingOk e x) ∧ Pur p H' Hs' (n + 10 + i * cost e),
        ⟨M, by simp, Nat.zero_le _, Hs, [], [], x12.trans (R2.extB fun b o _ z => big0 b o z), upd_same, R2.sub.free hDl, .nil, rfl, (fun x hx => nomatch hx), by rw [Nat.zero_mul]; exact R2.grow big0⟩, ?_⟩
      rintro i k H3 ⟨rfl, hle, Hs3, ds, vs, x3, hD3, hs3, rp3, hl3, ok3, R3⟩
      by_cases hlt : i < M
      · refine .inr ⟨hlt, fun H' => ∃ Hs' ds vs, ExtB p H Hs H' Hs' ∧ H' Dl = some (.lst vs) ∧ Hs' Dl = none ∧ RpAll Hs' ds vs ∧ ds.length = i + 1 ∧ (∀ x ∈ ds, ThingOk e x) ∧ Pur p H' Hs' (n + 10 + (i + 1) * cost e), fun H' h => ⟨M - (i + 1), by omega, rfl, hlt, h⟩, ?_⟩
        rintro x H4 ⟨rfl, rfl⟩
        have hmul : (i + 1) * cost e ≤ 3 * cost e := Nat.mul_le_mul_right _ (by omega)
        rw [Nat.succ_mul] at hmul
        refine ⟨rfl, ?_⟩
        change tCall (spThing D) [] E0 (tCons (tVar 0) (tCons (tOp (rI0 fun i j => V.int (i - j)) (tVar 1) (tC (V.int 1))) tNil)) [some (.ref p), some (.int (e + 1 : Nat)), some (.int way), none, some (.int (0 + (i : Nat))), none] H4 _
        refine ⟨_, rfl, _, rfl, _, _, rfl, rfl, ?_⟩
        refine ⟨p, Hs3, n + 10 + i * cost e, e, ?_, by omega, R3, by omega, fun w v H5 Hs5 x5 rw5 ok5 R5 => ?_⟩
        · show [V.ref p, V.int (((e + 1 : Nat) : Int) - 1)] = [V.ref p, V.int (e : Nat)]
          have : ((e + 1 : Nat) : Int) - 1 = (e : Nat) := by omega
          rw [this]
        have hD5 : H5 Dl = some (.lst vs) := x5.big _ _ nDp hD3
        have hs5 : Hs5 Dl = none := x5.new Dl hs3 (by rw [hD3]; exact fun z => nomatch z)
        have hsz := sizeLine_eq
        have hv : vs.length = i := by rw [← rp3.len]; exact hl3
        have big5 : ∀ b o, b ≠ Dl → H5 b = some o → (upd H5 Dl (.lst (vs ++ [v]))) b = some o := fun b o hb z => (upd_ne hb).trans z
        refine ⟨vs, hD5, by omega, Hs5, ds ++ [w], vs ++ [v], ?_, upd_same, hs5, (rp3.mono x5.small).append (.cons rw5 .nil), by rw [List.length_append, hl3]; rfl, fun y hy => ?_, ?_⟩
        · have x35 := x3.trans x5
          refine ⟨fun b o hb z => ?_, x35.small, fun b o z => ?_, x35.pn, x35.new⟩
          · have hbD : b ≠ Dl := fun q => by rw [q, hD0] at z; cases z
            rw [upd_ne hbD]; exact x35.big b o hb z
          · rw [upd_ne (ne_of_none z hs5)]; exact x35.sub b o z
        · rcases List.mem_append.mp hy with h | h
          · exact ok3 y h
          · rw [List.mem_singleton.mp h]; exact ok5
        · obtain ⟨a, b, c, d', e5, rest⟩ := R5.at_
          rw [Nat.succ_mul, ← Nat.add_assoc]
          exact ⟨⟨a, b, c, d', (upd_ne (Ne.symm nDp)).trans e5, rest⟩, R5.pn, fun b o z => by rw [upd_ne (ne_of_none z hs5)]; exact R5.sub b o z⟩
      · have ei : i = M := by omega
        subst ei
        refine .inl ⟨Nat.le_refl _, ?_⟩
        have xf := extB_own x3 hD0 hs3 hD3 nDp
        have Rf : Pur p H3 (upd Hs3 Dl (.lst vs)) (n + 10 + i * cost e) := ⟨R3.at_, xf.pn, xf.sub⟩
        have rf : Rp (upd Hs3 Dl (.lst vs)) (.list ds) (.ref Dl) := Rp.newL hs3 rp3
        have hmul : i * cost e ≤ 3 * cost e := Nat.mul_le_mul_right _ (by omega)
        have re : REnv (upd Hs3 Dl (.lst vs)) [some (.ref p), some (.int (e + 1 : Nat)), some (.int way), some (.ref Dl), none, none] [none, none, some (.int way), some (.list ds)] := ⟨by show 4 ≤ 6; decide, fun j w hj => by
          rcases j with _ | _ | _ | _ | j
          · cases hj
          · cases hj
          · cases hj; exact ⟨_, rfl, .int _⟩
          · cases hj; exact ⟨_, rfl, rf⟩
          · cases hj⟩
        refine ⟨_, _, if way < 3 then .tuple ds else .list ds, xf.sub, re, ?_, fun v5 H5 Hs5 x5 r5 => ?_⟩
        · show (some (decide (way < 3))).bind _ = _
          by_cases h : way < 3
          · rw [decide_eq_true h, if_pos h]; rfl
          · rw [decide_eq_false h, if_neg h]; rfl
        · refine q _ v5 H5 Hs5 (xf.trans (Rf.extOf x5)) r5 (.inr ⟨ds, ?_, by omega, ok3⟩) ((Rf.ext x5).more (by omega))
          by_cases h : way < 3
          · rw [if_pos h]; exact .inl rfl
          · rw [if_neg h]; exact .inr rfl
    | false =>
      refine iteF ⟨_, rfl, _, _, rfl, rfl, decide (way < 5), rfl, ?_⟩
      by_cases h5 : way < 5
      · rw [decide_eq_true h5]
        refine iteT ⟨_, rfl, _, _, rfl, rfl, _, rfl, _, _, rfl, rfl, ⟨by decide, by decide, by decide⟩, p, Hs, n + 5, _, rfl, R1, by omega, by decide +kernel, by decide +kernel, fun r1 H2 a1 a2 x2 R2 => ?_⟩
        refine ⟨_, _, rfl, rfl, _, rfl, p, Hs, n + 5 + 5, 999, rfl, R2, by omega, by decide, by decide, fun r2 H3 b1 b2 x3 R3 => ?_⟩
        refine ⟨_, _, rfl, rfl, by show 6 ≤ sizeLine; decide, fun a ha => ?_⟩
        have xl := Ext.laid (Ext.refl R3.sub) ha (.lst [.int 0, .int 1, .int (0 - 1), .int 10, .int r1, .int (0 - 7 - r2)])
        have Rl := R3.ext xl
        refine ⟨p, _, n + 15, [.int 0, .int 1, .int (0 - 1), .int 10, .int r1, .int (0 - 7 - r2)], .ref a, rfl, Rl, by omega, Rp.newL (R3.sub.free ha) (.cons (.int _) (.cons (.int _) (.cons (.int _) (.cons (.int _) (.cons (.int _) (.cons (.int _) .nil)))))), (fun z => nomatch z), by show 6 ≤ sizeLine; decide, fun w v' H' hw rw' x4 R4 => ?_⟩
        refine q w v' H' _ ((((x1.trans x2).trans x3).trans (R3.extOf xl)).trans x4) rw' (ThingOk.leaf (.inr (.inr (.inl ?_))) d) (R4.more (by omega))
        have a2' : r1 < 10 ^ 30 := a2
        have p30 : (10 : Int) ^ 30 = 1000000000000000000000000000000 := by decide +kernel
        have p31 : (10 : Int) ^ 31 = 10000000000000000000000000000000 := by decide +kernel
        rw [p30] at a2'
        rw [p31]
        simp only [List.mem_cons, List.not_mem_nil, or_false] at hw
        rcases hw with rfl | rfl | rfl | rfl | rfl | rfl
        · exact ⟨_, rfl, by decide, by decide⟩
        · exact ⟨_, rfl, by decide, by decide⟩
        · exact ⟨_, rfl, by decide, by decide⟩
        · exact ⟨_, rfl, by decide, by decide⟩
        · exact ⟨_, rfl, by omega, by omega⟩
        · exact ⟨_, rfl, by omega, by omega⟩
      · rw [decide_eq_false h5]
        refine iteF ?_
        refine ⟨Hs, [], .list (wordsL.map .str), R1.sub, ⟨Nat.zero_le _, fun i w z => by cases z⟩, rfl, fun v2 H2 Hs2 x2 r2 => ?_⟩
        have R2 := R1.ext x2
        have re : REnv Hs2 [some (.ref p), some (.int (d : Nat)), some (.int way), none, none, some v2] [none, none, none, none, none, some (.list (wordsL.map .str))] := ⟨Nat.le_refl 6, fun j w hj => by
          rcases j with _ | _ | _ | _ | _ | _ | j
          · cases hj
          · cases hj
          · cases hj
          · cases hj
          · cases hj
          · cases hj; exact ⟨_, rfl, r2⟩
          · cases hj⟩
        refine ⟨_, rfl, Hs2, _, .list ([.none, .bool true, .bool false] ++ wordsL.map .str), R2.sub, re, rfl, fun v3 H3 Hs3 x3 r3 => ?_⟩
        have R3 := R2.ext x3
        refine ⟨p, Hs3, n + 5, _, v3, rfl, R3, by omega, r3, (fun z => nomatch z), by decide, fun w v' H' hw rw' x4 R4 => ?_⟩
        refine q w v' H' _ (((x1.trans (R1.extOf x2)).trans (R2.extOf x3)).trans x4) rw' (ThingOk.leaf ?_ d) (R4.more (by omega))
        simp only [List.cons_append, List.nil_append, List.mem_cons, List.mem_map] at hw
        rcases hw with rfl | rfl | rfl | ⟨z, hz, rfl⟩
        · exact .inl rfl
        · exact .inr (.inl ⟨_, rfl⟩)
        · exact .inr (.inl ⟨_, rfl⟩)
        · exact .inr (.inr (.inr ⟨z, hz, rfl⟩))
end
end K88

set_option Elab.async false
set_option linter.all false
set_option maxRecDepth 100000
set_option maxHeartbeats 4000000
namespace K88
open PySem PySem.Spec PyProof.Rows L2 Pu
theorem vals_get : ∀ {xs : List V} {us : List Value}, xs.length = us.length → (∀ (i : Nat) (x : V) (u : Value), xs[i]? = some x → us[i]? = some u → L2.RelV x u) → Vals xs us
  | [], [], _, _ => .nil
  | [], _ :: _, h, _ => by cases h
  | _ :: _, [], h, _ => by cases h
  | x :: xs, u :: us, h, k => .cons (k 0 x u rfl rfl) (vals_get (by simpa using h) fun i y v h1 h2 => k (i + 1) y v (by simpa using h1) (by simpa using h2))
/-! ### a power that is not small; list(text) -/
section
variable {X : Cx}
theorem op_powB : OpR X (binaryOp .Pow) (rI (fun i j => 0 ≤ j ∧ (PySem.Builtin.Int.intBits i : Int) * j ≤ 2 ^ 27) fun i j => .int (i ^ j.toNat)) := opI fun _ _ _ _ _ _ _ hc q => pow_int hc.1 hc.2 q
theorem call_listS (hc : X.calm = true) : CallR X (.type "list") (fun xs H Q => ∃ z, xs = [.str z] ∧ z.cps.size ≤ sizeLine ∧ ∀ p, H p = none → Q (.ref p) (upd H p (.lst (z.cps.toList.map fun c => .str (⟨#[c]⟩ : Str))))) := by
  intro pins s σ H xs us Q I r ⟨z, ex, hz, q⟩
  subst ex
  obtain ⟨u, rfl, t, rfl⟩ := r.one
  refine PySem.call_list_str (I.ok.hd hc) z t (fun h' tk acc c' hk hS hacc => ?_) hz
  have hv : Vals (z.cps.toList.map fun c => V.str (⟨#[c]⟩ : Str)) acc.toList := by
    refine vals_get ?_ fun i x u h1 h2 => ?_
    · rw [List.length_map, Array.length_toList, Array.length_toList, hacc.1]
    · rw [Array.getElem?_toList] at h2
      obtain ⟨c, t', hc2, rfl⟩ := hacc.2 i u h2
      rw [List.getElem?_map, Array.getElem?_toList, hc2] at h1
      cases h1
      exact ⟨_, rfl⟩
  exact ⟨.ref s.heap.objs.size, _, I.laid (t' := tk) hk (Nat.le_refl _) (show ObjOk X.prog X.w _ _ _ (.lst _) from ⟨by rw [List.length_map, Array.length_toList]; exact hz, acc.toList, c', hv, by rw [Array.toArray_toList]; exact hS⟩), rfl, q _ (I.hok.fresh (Nat.le_refl _))⟩
end
def tx (l : List Nat) : Str := ⟨l.toArray⟩
def bentL (l : List Nat) (i j : Nat) (sg : List Nat) : List (List Nat) := [l.take i ++ sg ++ l.drop i, l.take i ++ l.drop (i + 1), l.take i ++ sg ++ l.drop (i + 1), l.take i, l.drop i, l ++ [32], [32] ++ l, l ++ l, l.take i ++ l.drop j]
def signS : Str := " ()[]0129-ax@?_!.~,X{"
def pairS : List Str := ["  ", "()", "[]", " -", "00", "__", "-0", " )", "a_"]
def signL : List (List Nat) := (signS.cps.toList.map fun c => [c]) ++ pairS.map fun z => z.cps.toList
def Bent (l l' : List Nat) : Prop := ∃ i j sg, i ≤ l.length ∧ j ≤ l.length ∧ sg ∈ signL ∧ l' ∈ bentL l i j sg
def HE : Hp := fun _ => none
theorem Pur.empty {p : Addr} {H Hs : Hp} {n : Nat} (h : Pur p H Hs n) : Pur p H HE n := ⟨h.at_, rfl, fun _ _ e => nomatch e⟩
def spPurse (K : PySem.W.Frag) : Sp := fun vs H Q _ => ∃ (a : Addr) (ns : List Int) (i : Nat), vs = [.ref a, .int (i : Nat)] ∧ SqL K H a (ns.map V.int) ∧ ns.length ≤ 63 ∧ i < 64 ∧ ∀ (p : Addr) (H' : Hp), Same H H' → H p = none → Pur p H' HE 0 → Q (.ref p) H'
abbrev s_purse : Stmt := topS 17
theorem sc_purse : FnScope ["script", "at", "seed"] ["script", "at"] (defScope s_purse) := ⟨rfl, rfl, rfl, by decide +kernel, rfl, by decide +kernel, by decide +kernel⟩
abbrev s_purses : Stmt := topS 20
theorem sc_purses : FnScope ["script", "few", "at"] ["script", "few"] (defScope s_purses) := ⟨rfl, rfl, rfl, by decide +kernel, rfl, by decide +kernel, by decide +kernel⟩
/-- several purses, none of them twice -/
def Purs (H0 H : Hp) (ps : List Addr) : Prop := ps.Nodup ∧ ∀ p ∈ ps, H0 p = none ∧ Pur p H HE 0
def spPurses (K : PySem.W.Frag) : Sp := fun vs H Q _ => ∃ (a : Addr) (ns : List Int), vs = [.ref a, .int 3] ∧ SqL K H a (ns.map V.int) ∧ ns.length ≤ 63 ∧ ∀ (lp : Addr) (ps : List Addr) (H' : Hp), Same H H' → H lp = none → lp ∉ ps → H' lp = some (.lst (ps.map V.ref)) → ps.length ≤ 63 → Purs H H' ps → Q (.ref lp) H'
section
variable {P : Program} {w : World} {K : PySem.W.Frag} {mg : Str → Option Value} {base : Heap}
theorem ok_purse {f : Addr} {fd : FuncData} {k : Nat} (F : Fun K "_law_purse" "_law_purse" s_purse f fd) (m_int : mg "int" = none) (m_sum : mg "sum" = none) (m_max : mg "max" = none) : FnOk P w K mg base CX0 (k + 1) f fd ["script", "at"] (spPurse K) := by
  refine F.ok sc_purse (fun vs H Q E h => ?_) (fun cdv A outer s H vs Q E hr h => ?_)
  · obtain ⟨a, ns, i, rfl, _⟩ := h
    rfl
  · obtain ⟨a, ns, i, rfl, hS, hl, hi, q⟩ := h
    have nd := sc_purse.nd
    refine ⟨_, pss_cons (ps_set (i := 2) nd rfl (Or.inl rfl) (pe_callB (cr_sum rfl) rfl m_sum boot_sum (pa_cons (pe_slice sl_list (pv 0) (po_some (pv 1)) (po_some (pe_op op_add (pv 1) pe_int))) pa_nil)))
      (pss_one (ps_ret (pe_lst (pa_cons (pe_op op_mod (pe_callTy call_int1 rfl m_int boot_int (pa_cons (pe_callB (call_max2 rfl) rfl m_max boot_max (pa_cons (pe_op op_sub (pv 2) (pe_op op_pow pe_int pe_int)) (pa_cons pe_int pa_nil))) pa_nil)) (pe_op op_powB (pe_op op_pow pe_int pe_int) pe_int))
        (pa_cons (pe_op op_mod (pe_callTy call_int1 rfl m_int boot_int (pa_cons (pv 2) pa_nil)) pe_int) (pa_cons pe_int (pa_cons (pv 1) pa_nil))))))), ?_⟩
    have ec : ∀ lo hi, cutV (ns.map V.int) lo hi = (cutL ns lo hi).map V.int := fun lo hi => by
      unfold cutV cutL
      rw [List.map_take, List.map_drop, List.length_map]
    refine ⟨_, rfl, _, rfl, _, rfl, _, rfl, _, _, rfl, rfl, _, rfl, a, _, rfl, hS, fun p1 hp1 => ?_⟩
    rw [ec]
    refine ⟨p1, _, rfl, SqL.of upd_same, ?_⟩
    have s1 : Same H (upd H p1 (.lst ((cutL ns (some (i : Nat)) (some ((i : Nat) + 1))).map V.int))) := fun b o e => (upd_ne (ne_of_none e hp1)).trans e
    generalize (cutL ns (some ((i : Nat) : Int)) (some (((i : Nat) : Int) + 1))).sum = seed
    refine ⟨_, rfl, _, _, rfl, rfl, ⟨by decide, by decide, by decide⟩, _, _, rfl, rfl, _, _, rfl, .inl ⟨_, rfl, ?_⟩⟩
    refine ⟨_, _, rfl, rfl, ⟨by decide, by decide, by decide⟩, _, _, rfl, rfl, ⟨by decide, ?_⟩, _, _, rfl, rfl, ?_, ?_⟩
    · have : PySem.Builtin.Int.intBits ((10 : Int) ^ (60 : Int).toNat) ≤ 200 := PyProof.Rows.intBits_le (by decide +kernel)
      omega
    · show (0 : Int) < ((10 : Int) ^ (60 : Int).toNat) ^ (8 : Int).toNat
      exact Int.pow_pos (Int.pow_pos (by decide))
    refine ⟨_, rfl, .inl ⟨_, rfl, _, _, rfl, rfl, (by show (0 : Int) < _; decide), _, rfl, by show 4 ≤ sizeLine; decide, fun p hp => ?_⟩⟩
    have np : p ≠ p1 := fun z => by subst z; rw [upd_same] at hp; cases hp
    have hp0 : H p = none := by rw [upd_ne np] at hp; exact hp
    refine q p _ (fun b o e => (upd_ne (ne_of_none e hp0)).trans (s1 b o e)) hp0 ⟨⟨_, _, _, _, upd_same, ?_, ?_, ?_, ?_, ?_, ?_, ?_⟩, rfl, fun _ _ e => nomatch e⟩
    · exact Int.emod_nonneg _ (Int.ne_of_gt (Int.pow_pos (Int.pow_pos (by decide))))
    · exact Int.emod_nonneg _ (by decide)
    · have := Int.emod_lt_of_pos seed (show (0 : Int) < 2147483629 by decide)
      omega
    · decide
    · decide
    · omega
    · omega
theorem ok_purses {f fP : Addr} {fd fdP : FuncData} {k : Nat} (F : Fun K "_law_purses" "_law_purses" s_purses f fd) (FP : FnOk P w K mg base CX0 k fP fdP ["script", "at"] (spPurse K)) (mP : mg "_law_purse" = some (.ref fP)) (kP : PySem.W.keepIn K (.ref fP) = true) (bP : Binds K fdP ["script", "at"] [])
    (m_range : mg "range" = none) (m_max : mg "max" = none) (m_min : mg "min" = none) (m_len : mg "len" = none) : FnOk P w K mg base CX0 (k + 1) f fd ["script", "few"] (spPurses K) := by
  refine F.ok sc_purses (fun vs H Q E h => ?_) (fun cdv A outer s H vs Q E hr h => ?_)
  · obtain ⟨a, ns, rfl, _⟩ := h
    rfl
  · obtain ⟨a, ns, rfl, hS, hl, q⟩ := h
    have nd := sc_purses.nd
    refine ⟨_, pss_one (ps_ret (pe_lc (own := [("at", 2)]) rfl nd (pi_range1 rfl m_range (pa_cons (pe_callB (call_max2 rfl) rfl m_max boot_max (pa_cons pe_int (pa_cons (pe_callB (call_min2 rfl) rfl m_min boot_min (pa_cons (pv 1) (pa_cons (pe_callB call_len_seq (by rfl) m_len boot_len (pa_cons (pv 0) pa_nil)) pa_nil))) pa_nil))) pa_nil)) (blkOk_by (N := ["script", "few", "at"]) (sc := defScope s_purses) (by decide +kernel))
      (fun _ _ _ _ _ => (pg_name (i := 2) nd rfl (Or.inl rfl))) (fun _ _ _ _ _ => pts_nil) (fun _ _ _ _ _ => pe_call FP hr rfl mP kP bP .nil pass0 (pa_cons (pv 0) (pa_cons (pv 2) pa_nil))))), ?_⟩
    have hr3 : ∃ N : Int, N ≤ 3 ∧ 0 ≤ N ∧ N = (if (if ((ns.map V.int).length : Int) < 3 then ((ns.map V.int).length : Int) else 3) > 1 then (if ((ns.map V.int).length : Int) < 3 then ((ns.map V.int).length : Int) else 3) else 1) := by
      refine ⟨_, ?_, ?_, rfl⟩ <;> (repeat' split) <;> omega
    obtain ⟨N0, hN1, hN2, hN3⟩ := hr3
    refine ⟨_, rfl, _, rfl, a, _, rfl, .inl hS, _, _, rfl, _, _, rfl, _, rfl, ?_, ?_, ?_⟩
    · rw [← hN3]; omega
    · rw [← hN3]; omega
    rw [← hN3]
    intro D hD
    generalize hN : N0.toNat = N
    have hN4 : N ≤ 3 := by omega
    refine ⟨fun i k H' => k = N - i ∧ i ≤ N ∧ ∃ ps : List Addr, Same H H' ∧ H' D = some (.lst (ps.map V.ref)) ∧ ps.length = i ∧ D ∉ ps ∧ Purs H H' ps,
      ⟨N, by simp, Nat.zero_le _, [], fun b o e => (upd_ne (ne_of_none e hD)).trans e, upd_same, rfl, (fun z => nomatch z), List.nodup_nil, fun p hp => nomatch hp⟩, ?_⟩
    rintro i k H3 ⟨rfl, hle, ps, s3, hD3, hl3, nD3, hn3, hp3⟩
    by_cases hlt : i < N
    · refine .inr ⟨hlt, fun H' => ∃ ps : List Addr, Same H H' ∧ H' D = some (.lst (ps.map V.ref)) ∧ ps.length = i + 1 ∧ D ∉ ps ∧ Purs H H' ps, fun H' h => ⟨N - (i + 1), by omega, rfl, hlt, h⟩, ?_⟩
      rintro x H4 ⟨rfl, rfl⟩
      refine ⟨rfl, ?_⟩
      change tCall (spPurse K) [] E0 (tCons (tVar 0) (tCons (tVar 2) tNil)) [some (.ref a), some (.int 3), some (.int (0 + (i : Nat)))] H4 _
      refine ⟨_, rfl, _, rfl, a, ns, i, ?_, s3.seq hS, hl, by omega, fun p H5 s5 np5 R5 => ?_⟩
      · show [V.ref a, V.int (0 + (i : Nat))] = _
        rw [Int.zero_add]
      have hsz := sizeLine_eq
      have hD5 := s5 _ _ hD3
      have npD : p ≠ D := fun z => by rw [z, hD3] at np5; cases np5
      have npps : p ∉ ps := fun h => (hp3 p h).2.np np5
      refine ⟨_, hD5, by rw [List.length_map, hl3]; omega, ps ++ [p], fun b o e => ?_, ?_, by rw [List.length_append, hl3]; rfl, ?_, ?_, fun p' hp' => ?_⟩
      · rw [upd_ne (ne_of_none e hD)]; exact s5 _ _ (s3 _ _ e)
      · rw [upd_same, List.map_append] <;> rfl
      · intro h
        rcases List.mem_append.mp h with h | h
        · exact nD3 h
        · exact npD (List.mem_singleton.mp h).symm
      · refine List.nodup_append.mpr ⟨hn3, (by simp), fun x hx y hy => ?_⟩
        rw [List.mem_singleton.mp hy]
        exact fun z => npps (z ▸ hx)
      · have mv : ∀ {q0 : Addr}, q0 ≠ D → Pur q0 H5 HE 0 → Pur q0 (upd H5 D (.lst (ps.map V.ref ++ [V.ref p]))) HE 0 := fun {q0} hq R => by
          obtain ⟨a', b', c', d', e', r'⟩ := R.at_
          exact ⟨⟨a', b', c', d', (upd_ne hq).trans e', r'⟩, rfl, fun _ _ e => nomatch e⟩
        rcases List.mem_append.mp hp' with h | h
        · obtain ⟨h1, h2⟩ := hp3 p' h
          exact ⟨h1, mv (fun z => nD3 (z ▸ h)) (h2.grow s5)⟩
        · rw [List.mem_singleton.mp h]
          refine ⟨?_, mv npD R5⟩
          cases hh : H p with
          | none => rfl
          | some o => rw [s3 _ _ hh] at np5; cases np5
    · have ei : i = N := by omega
      subst ei
      exact .inl ⟨Nat.le_refl _, q D ps H3 s3 hD nD3 hD3 (by omega) ⟨hn3, hp3⟩⟩
end
end K88

set_option Elab.async false
set_option linter.all false
set_option maxRecDepth 100000
set_option maxHeartbeats 4000000
namespace K88
open PySem PySem.Spec PyProof.Rows L2 Pu
def spBent : Sp := fun vs H Q _ => ∃ (p : Addr) (n : Nat) (l : List Nat), vs = [.ref p, .str (tx l)] ∧ Pur p H HE n ∧ n < 2 ^ 49 ∧ l.length ≤ 1000000 ∧ ∀ (l' : List Nat) (H' : Hp), Bent l l' → (∀ b o, b ≠ p → H b = some o → H' b = some o) → Pur p H' HE (n + 20) → Q (.str (tx l')) H'
abbrev s_bent : Stmt := topS 29
theorem sc_bent : FnScope ["purse", "text", "at", "sign", "other", "some"] ["purse", "text"] (defScope s_bent) := ⟨rfl, rfl, rfl, by decide +kernel, rfl, by decide +kernel, by decide +kernel⟩
def FbentL : Ev → Option PyData := (fLst (fCons (f2 gAdd (f2 gAdd (fSl (fVar 1) fO0 (fO (fVar 2))) (fVar 3)) (fSl (fVar 1) (fO (fVar 2)) fO0)) (fCons (f2 gAdd (fSl (fVar 1) fO0 (fO (fVar 2))) (fSl (fVar 1) (fO (f2 gAdd (fVar 2) (fC (.int 1)))) fO0)) (fCons (f2 gAdd (f2 gAdd (fSl (fVar 1) fO0 (fO (fVar 2))) (fVar 3)) (fSl (fVar 1) (fO (f2 gAdd (fVar 2) (fC (.int 1)))) fO0)) (fCons (fSl (fVar 1) fO0 (fO (fVar 2))) (fCons (fSl (fVar 1) (fO (fVar 2)) fO0) (fCons (f2 gAdd (fVar 1) (fC (.str " "))) (fCons (f2 gAdd (fC (.str " ")) (fVar 1)) (fCons (f2 gAdd (fVar 1) (fVar 1)) (fCons (f2 gAdd (fSl (fVar 1) fO0 (fO (fVar 2))) (fSl (fVar 1) (fO (fVar 4)) fO0)) fNil))))))))))
theorem tx_len (l : List Nat) : (tx l).length = l.length := by show l.toArray.size = _; rw [List.size_toArray]
theorem tx_app (a b : List Nat) : tx a ++ tx b = tx (a ++ b) := by
  show (⟨a.toArray ++ b.toArray⟩ : Str) = ⟨(a ++ b).toArray⟩
  congr 1
  simp
theorem gAdd_tx {a b : List Nat} (h : a.length + b.length ≤ sizeLine) : gAdd (.str (tx a)) (.str (tx b)) = some (.str (tx (a ++ b))) := by
  show (if (tx a).length + (tx b).length ≤ sizeLine then some (PyData.str (tx a ++ tx b)) else none) = _
  rw [tx_len, tx_len, if_pos h, tx_app]
theorem gSl_to {l : List Nat} {i : Nat} (hi : i ≤ l.length) (hl : l.length ≤ sizeLine) : gSl (.str (tx l)) none (some (i : Nat)) = some (.str (tx (l.take i))) := by
  show (if (tx l).length ≤ sizeLine then some (PyData.str (cutS (tx l) none (some (i : Nat)))) else none) = _
  rw [tx_len, if_pos hl]
  unfold cutS
  rw [tx_len, HT.sIx_nat, HT.sIx_none, List.drop_zero, Nat.sub_zero, Nat.min_eq_left hi]
  rfl
theorem gSl_from {l : List Nat} {i : Nat} (hl : l.length ≤ sizeLine) : gSl (.str (tx l)) (some (i : Nat)) none = some (.str (tx (l.drop i))) := by
  show (if (tx l).length ≤ sizeLine then some (PyData.str (cutS (tx l) (some (i : Nat)) none)) else none) = _
  rw [tx_len, if_pos hl]
  unfold cutS
  rw [tx_len, HT.sIx_nat, HT.sIx_none]
  have e : (List.drop (min i l.length) l).take (l.length - min i l.length) = l.drop i := by
    rw [List.take_of_length_le (by rw [List.length_drop]; exact Nat.le_refl _)]
    by_cases h : i ≤ l.length
    · rw [Nat.min_eq_left h]
    · rw [Nat.min_eq_right (by omega), List.drop_length, List.drop_eq_nil_of_le (by omega)]
  show some (PyData.str (tx ((List.drop (min i l.length) l).take (l.length - min i l.length)))) = _
  rw [e]
theorem f2_tx {fa fb : Ev → Option PyData} {ev : Ev} {a b : List Nat} (ha : fa ev = some (.str (tx a))) (hb : fb ev = some (.str (tx b))) (h : a.length + b.length ≤ sizeLine) : f2 gAdd fa fb ev = some (.str (tx (a ++ b))) := by
  unfold f2
  rw [ha]
  show (fb ev).bind _ = _
  rw [hb]
  exact gAdd_tx h
theorem fCons_some {f : Ev → Option PyData} {fs : Ev → Option (List PyData)} {ev : Ev} {w : PyData} {ws : List PyData} (h : f ev = some w) (hs : fs ev = some ws) : fCons f fs ev = some (w :: ws) := by
  unfold fCons
  rw [h]
  show (fs ev).bind _ = _
  rw [hs]
  rfl
theorem bent_val {l sg : List Nat} {i j : Nat} (hi : i ≤ l.length) (hj : j ≤ l.length) (hl : l.length ≤ 1000000) (hs : sg.length ≤ 2) : FbentL [none, some (.str (tx l)), some (.int (i : Nat)), some (.str (tx sg)), some (.int (j : Nat)), none] = some (.list ((bentL l i j sg).map fun m => .str (tx m))) := by
  have hz := sizeLine_eq
  have L : l.length ≤ sizeLine := by omega
  have t1 : ∀ n, (l.take n).length ≤ l.length := fun n => by rw [List.length_take]; omega
  have t2 : ∀ n, (l.drop n).length ≤ l.length := fun n => by rw [List.length_drop]; omega
  generalize hev : ([none, some (.str (tx l)), some (.int (i : Nat)), some (.str (tx sg)), some (.int (j : Nat)), none] : Ev) = ev
  have v1 : fVar 1 ev = some (.str (tx l)) := by rw [← hev]; rfl
  have v3 : fVar 3 ev = some (.str (tx sg)) := by rw [← hev]; rfl
  have h1 : fSl (fVar 1) fO0 (fO (fVar 2)) ev = some (.str (tx (l.take i))) := by rw [← hev]; exact gSl_to hi L
  have h2 : fSl (fVar 1) (fO (fVar 2)) fO0 ev = some (.str (tx (l.drop i))) := by rw [← hev]; exact gSl_from L
  have h3 : fSl (fVar 1) (fO (f2 gAdd (fVar 2) (fC (.int 1)))) fO0 ev = some (.str (tx (l.drop (i + 1)))) := by rw [← hev]; exact gSl_from (i := i + 1) L
  have h4 : fSl (fVar 1) (fO (fVar 4)) fO0 ev = some (.str (tx (l.drop j))) := by rw [← hev]; exact gSl_from L
  have c1 : fC (.str " ") ev = some (.str (tx [32])) := rfl
  have a1 := t1 i
  have a2 := t2 i
  have a3 := t2 (i + 1)
  have a4 := t2 j
  unfold FbentL fLst
  rw [fCons_some (f2_tx (f2_tx h1 v3 (by omega)) h2 (by rw [List.length_append]; omega)) (fCons_some (f2_tx h1 h3 (by omega)) (fCons_some (f2_tx (f2_tx h1 v3 (by omega)) h3 (by rw [List.length_append]; omega)) (fCons_some h1 (fCons_some h2 (fCons_some (f2_tx v1 c1 (by show l.length + 1 ≤ _; omega)) (fCons_some (f2_tx c1 v1 (by show 1 + l.length ≤ _; omega)) (fCons_some (f2_tx v1 v1 (by omega)) (fCons_some (f2_tx h1 h4 (by omega)) (show fNil ev = some [] from rfl)))))))))]
  show (if 9 ≤ sizeLine then _ else none) = _
  rw [if_pos (by decide)]
  rfl
theorem sign_len : ∀ sg ∈ signL, sg.length ≤ 2 := by decide +kernel
section
variable {P : Program} {w : World} {K : PySem.W.Frag} {mg : Str → Option Value} {base : Heap}
theorem ok_bent {f fD fO : Addr} {fd fdD fdO : FuncData} {k : Nat} (F : Fun K "_law_bent" "_law_bent" s_bent f fd)
    (FD : FnOk P w K mg base CX0 k fD fdD ["purse", "many"] spDraw) (mD : mg "_law_draw" = some (.ref fD)) (kD : PySem.W.keepIn K (.ref fD) = true) (bD : Binds K fdD ["purse", "many"] [])
    (FO : FnOk P w K mg base CX0 k fO fdO ["purse", "some"] spOneOf) (mO : mg "_law_one_of" = some (.ref fO)) (kO : PySem.W.keepIn K (.ref fO) = true) (bO : Binds K fdO ["purse", "some"] [])
    (m_len : mg "len" = none) (m_list : mg "list" = none) : FnOk P w K mg base CX0 (k + 1) f fd ["purse", "text"] spBent := by
  refine F.ok sc_bent (fun vs H Q E h => ?_) (fun cdv A outer s H vs Q E hr h => ?_)
  · obtain ⟨p, n, l, rfl, _⟩ := h
    rfl
  · obtain ⟨p, n, l, rfl, R, hn, hl, q⟩ := h
    have nd := sc_bent.nd
    refine ⟨_, pss_cons (ps_par rfl nd (i := 2) (j := 3) rfl rfl (by decide) rfl rfl (pa_cons (pe_call FD hr rfl mD kD bD .nil pass0 (pa_cons (pv 0) (pa_cons (PU.pe (pu_op o_add g_add (pu_callB c_len gc_len rfl m_len boot_len (pua_cons (pu_var 1) pua_nil)) pu_int)) pa_nil)))
        (pa_cons (pe_call FO hr rfl mO kO bO .nil pass0 (pa_cons (pv 0) (pa_cons (pe_op op_cat (pe_callTy (call_listS rfl) rfl m_list boot_list (pa_cons pe_str pa_nil)) (pe_lst (pa_cons pe_str (pa_cons pe_str (pa_cons pe_str (pa_cons pe_str (pa_cons pe_str (pa_cons pe_str (pa_cons pe_str (pa_cons pe_str (pa_cons pe_str pa_nil))))))))))) pa_nil))) pa_nil)) rfl)
      (pss_cons (ps_set (i := 4) nd rfl (Or.inl rfl) (pe_call FD hr rfl mD kD bD .nil pass0 (pa_cons (pv 0) (pa_cons (PU.pe (pu_op o_add g_add (pu_callB c_len gc_len rfl m_len boot_len (pua_cons (pu_var 1) pua_nil)) pu_int)) pa_nil))))
      (pss_cons (ps_set (i := 5) nd rfl (Or.inl rfl) (PU.pe (f := FbentL) (pu_lst (pua_cons (pu_op o_add g_add (pu_op o_add g_add (pu_sl (pu_var 1) puo_none (puo_some (pu_var 2))) (pu_var 3)) (pu_sl (pu_var 1) (puo_some (pu_var 2)) puo_none)) (pua_cons (pu_op o_add g_add (pu_sl (pu_var 1) puo_none (puo_some (pu_var 2))) (pu_sl (pu_var 1) (puo_some (pu_op o_add g_add (pu_var 2) pu_int)) puo_none)) (pua_cons (pu_op o_add g_add (pu_op o_add g_add (pu_sl (pu_var 1) puo_none (puo_some (pu_var 2))) (pu_var 3)) (pu_sl (pu_var 1) (puo_some (pu_op o_add g_add (pu_var 2) pu_int)) puo_none)) (pua_cons (pu_sl (pu_var 1) puo_none (puo_some (pu_var 2))) (pua_cons (pu_sl (pu_var 1) (puo_some (pu_var 2)) puo_none) (pua_cons (pu_op o_add g_add (pu_var 1) pu_str) (pua_cons (pu_op o_add g_add pu_str (pu_var 1)) (pua_cons (pu_op o_add g_add (pu_var 1) (pu_var 1)) (pua_cons (pu_op o_add g_add (pu_sl (pu_var 1) puo_none (puo_some (pu_var 2))) (pu_sl (pu_var 1) (puo_some (pu_var 4)) puo_none)) pua_nil))))))))))))
      (pss_one (ps_ret (pe_call FO hr rfl mO kO bO .nil pass0 (pa_cons (pv 0) (pa_cons (pv 5) pa_nil))))))), ?_⟩
    have hz := sizeLine_eq
    have hlen : ∀ {Hs : Hp} (ev : Ev), ev = [none, some (.str (tx l))] → f2 gAdd (fCall gLen (fCons (fVar 1) fNil)) (fC (.int 1)) ev = some (.int (l.length + 1 : Nat)) := fun ev e => by
      rw [e]
      show (gLen [.str (tx l)]).bind _ = _
      show (if (tx l).length ≤ sizeLine then some (PyData.int (tx l).length) else none).bind _ = _
      rw [tx_len, if_pos (by omega)]
      rfl
    have re : ∀ (Hs : Hp) (a b : Option V) (c d : Option V), REnv Hs [some (.ref p), some (.str (tx l)), a, b, c, d] [none, some (.str (tx l))] := fun Hs a b c d => ⟨by show 2 ≤ 6; decide, fun j w hj => by
      rcases j with _ | _ | j
      · cases hj
      · cases hj; exact ⟨_, rfl, .str _⟩
      · cases hj⟩
    refine ⟨_, rfl, HE, _, _, R.sub, re _ none none none none, hlen (Hs := HE) _ rfl, fun v1 H1 Hs1 x1 r1 => ?_⟩
    obtain rfl := r1.int_of
    have R1 := R.grow x1.big
    refine ⟨p, HE, n, _, rfl, R1, by omega, by omega, by omega, fun i H2 i1 i2 x2 R2 => ?_⟩
    refine ⟨_, rfl, tx signS.cps.toList, rfl, by decide, fun a ha => ⟨by show 9 ≤ sizeLine; decide, fun b hb => ?_⟩⟩
    have nab : a ≠ b := ne_of_none upd_same hb
    refine ⟨a, b, _, _, rfl, rfl, (upd_ne nab).trans upd_same, upd_same, by decide, fun c hc => ?_⟩
    have R3 : Pur p (upd (upd (upd H2 a (.lst (signS.cps.toList.map fun c => .str (⟨#[c]⟩ : Str)))) b (.lst (pairS.map V.str))) c (.lst ((signS.cps.toList.map fun c => V.str (⟨#[c]⟩ : Str)) ++ pairS.map V.str))) (upd HE c (.lst ((signS.cps.toList.map fun c => V.str (⟨#[c]⟩ : Str)) ++ pairS.map V.str))) (n + 5) := by
      have g1 : Pur p (upd H2 a (.lst (signS.cps.toList.map fun c => .str (⟨#[c]⟩ : Str)))) HE (n + 5) := R2.grow fun q o e => (upd_ne (ne_of_none e ha)).trans e
      have g2 : Pur p (upd (upd H2 a (.lst (signS.cps.toList.map fun c => .str (⟨#[c]⟩ : Str)))) b (.lst (pairS.map V.str))) HE (n + 5) := g1.grow fun q o e => (upd_ne (ne_of_none e hb)).trans e
      exact g2.ext (Ext.laid (Ext.refl g2.sub) hc _)
    have big3 : ∀ q o, q ≠ p → H q = some o → (upd (upd (upd H2 a (.lst (signS.cps.toList.map fun c => .str (⟨#[c]⟩ : Str)))) b (.lst (pairS.map V.str))) c (.lst ((signS.cps.toList.map fun c => V.str (⟨#[c]⟩ : Str)) ++ pairS.map V.str))) q = some o := fun q o hq e => by
      have e1 := x2.big q o hq (x1.big q o e)
      have e2 := (upd_ne (H := H2) (o := .lst (signS.cps.toList.map fun c => V.str (⟨#[c]⟩ : Str))) (ne_of_none e1 ha)).trans e1
      have e3 := (upd_ne (o := .lst (pairS.map V.str)) (ne_of_none e2 hb)).trans e2
      exact (upd_ne (ne_of_none e3 hc)).trans e3
    have hrp : RpAll (upd HE c (.lst ((signS.cps.toList.map fun c => V.str (⟨#[c]⟩ : Str)) ++ pairS.map V.str))) (signL.map fun m => .str (tx m)) ((signS.cps.toList.map fun c => V.str (⟨#[c]⟩ : Str)) ++ pairS.map V.str) := by
      have : ∀ ms : List (List Nat), RpAll (upd HE c (.lst ((signS.cps.toList.map fun c => V.str (⟨#[c]⟩ : Str)) ++ pairS.map V.str))) (ms.map fun m => .str (tx m)) (ms.map fun m => V.str (tx m)) := fun ms => by
        induction ms with
        | nil => exact .nil
        | cons m ms ih => exact .cons (.str _) ih
      have e := this signL
      have e2 : (signL.map fun m => V.str (tx m)) = (signS.cps.toList.map fun c => V.str (⟨#[c]⟩ : Str)) ++ pairS.map V.str := by
        unfold signL
        rw [List.map_append, List.map_map, List.map_map]
        rfl
      rw [e2] at e
      exact e
    refine ⟨p, _, n + 5, signL.map fun m => .str (tx m), .ref c, rfl, R3, by omega, .lst upd_same hrp, by decide, by decide, fun w v' H4 hw rw4 x4 R4 => ?_⟩
    obtain ⟨sg, hsg, rfl⟩ := List.mem_map.mp hw
    obtain rfl := rw4.str_of
    refine ⟨_, _, rfl, ?_⟩
    have R4' := R4.empty
    have big4 : ∀ q o, q ≠ p → H q = some o → H4 q = some o := fun q o hq e => x4.big q o hq (big3 q o hq e)
    refine ⟨_, rfl, HE, _, _, R4'.sub, re _ (some (.int i)) (some (.str (tx sg))) none none, hlen (Hs := HE) _ rfl, fun v5 H5 Hs5 x5 r5 => ?_⟩
    obtain rfl := r5.int_of
    have R5 := R4'.grow x5.big
    refine ⟨p, HE, n + 5 + 5, _, rfl, R5, by omega, by omega, by omega, fun j H6 j1 j2 x6 R6 => ?_⟩
    obtain ⟨i', rfl⟩ := Int.eq_ofNat_of_zero_le i1
    obtain ⟨j', rfl⟩ := Int.eq_ofNat_of_zero_le j1
    have hi' : i' ≤ l.length := by omega
    have hj' : j' ≤ l.length := by omega
    have re6 : REnv HE [some (.ref p), some (.str (tx l)), some (.int (i' : Nat)), some (.str (tx sg)), some (.int (j' : Nat)), none] [none, some (.str (tx l)), some (.int (i' : Nat)), some (.str (tx sg)), some (.int (j' : Nat)), none] := ⟨Nat.le_refl 6, fun m w hm => by
      rcases m with _ | _ | _ | _ | _ | _ | m
      · cases hm
      · cases hm; exact ⟨_, rfl, .str _⟩
      · cases hm; exact ⟨_, rfl, .int _⟩
      · cases hm; exact ⟨_, rfl, .str _⟩
      · cases hm; exact ⟨_, rfl, .int _⟩
      · cases hm
      · cases hm⟩
    refine ⟨HE, _, _, R6.sub, re6, bent_val hi' hj' hl (sign_len sg hsg), fun v7 H7 Hs7 x7 r7 => ?_⟩
    have R7 := R6.ext x7
    refine ⟨_, rfl, _, rfl, p, Hs7, n + 5 + 5 + 5, _, v7, rfl, R7, by omega, r7, (fun z => nomatch z), by show 9 ≤ sizeLine; decide, fun w v8 H8 hw8 rw8 x8 R8 => ?_⟩
    obtain ⟨l', hl', rfl⟩ := List.mem_map.mp hw8
    obtain rfl := rw8.str_of
    exact q l' H8 ⟨i', j', sg, hi', hj', hsg, hl'⟩ (fun q o hq e => x8.big q o hq (x7.big q o (x6.big q o hq (x5.big q o (big4 q o hq e))))) R8.empty
end
end K88

set_option Elab.async false
set_option linter.all false
set_option maxRecDepth 100000
set_option maxHeartbeats 4000000
/-! The reader in plain words: signs are numbers. -/
namespace K88
open PySem PySem.Spec PyProof.Rows L2 Pu
def isDig (c : Nat) : Bool := decide (48 ≤ c) && decide (c ≤ 57)
def isLow (c : Nat) : Bool := decide (97 ≤ c) && decide (c ≤ 122)
def numS : Str := "-0123456789"
def goesOn (w : List Nat) (c : Nat) : Bool :=
  match w with
  | [] => isLow c || (isDig c || decide (c ∈ ("?-!.~" : Str).cps.toList))
  | a :: r => if a ∈ numS.cps.toList then isDig c && (!(w == [48]) && (!(w == [45]) || !(c == 48)))
    else if w == [33] || w == [46] || w == [126] then false
    else (isLow c || (isDig c || decide (c ∈ ("@?" : Str).cps.toList))) || (c == 95 && !((a :: r).getLast (List.cons_ne_nil a r) == 95))
theorem goesOn_num {a : Nat} {r : List Nat} {c : Nat} (h : a ∈ numS.cps.toList) : goesOn (a :: r) c = (isDig c && (!((a :: r) == [48]) && (!((a :: r) == [45]) || !(c == 48)))) := if_pos h
theorem goesOn_oth {a : Nat} {r : List Nat} {c : Nat} (h : a ∉ numS.cps.toList) : goesOn (a :: r) c = (if (a :: r) == [33] || (a :: r) == [46] || (a :: r) == [126] then false
    else (isLow c || (isDig c || decide (c ∈ ("@?" : Str).cps.toList))) || (c == 95 && !((a :: r).getLast (List.cons_ne_nil a r) == 95))) := if_neg h
theorem tx_beq (a b : List Nat) : (tx a == tx b) = (a == b) := by
  by_cases h : a = b
  · subst h; simp
  · have : tx a ≠ tx b := fun e => h (by
      have e2 : (tx a).cps.toList = (tx b).cps.toList := by rw [e]
      simpa [tx] using e2)
    rw [beq_eq_false_iff_ne.mpr this, beq_eq_false_iff_ne.mpr h]
theorem one_beq (a b : Nat) : (one a == one b) = (a == b) := by
  have := tx_beq [a] [b]
  have e : ([a] == [b]) = (a == b) := by simp
  rw [e] at this
  exact this
section
variable {C : Addr} {st : RdSt} {w : List Nat} {ev : Ev}
theorem fw (h0 : fVar 0 ev = some (obD C st)) (hw : st.word = tx w) : fFld C "word" (fVar 0) ev = some (.str (tx w)) := by
  unfold fFld
  rw [h0, Option.bind_some, g_word, hw]
theorem gIx_first {a : Nat} {r : List Nat} (hz : (a :: r).length ≤ sizeLine) : gIx (.str (tx (a :: r))) (.int 0) = some (.str (one a)) := by
  show (if (tx (a :: r)).length ≤ sizeLine then (atI (tx (a :: r)).cps.toList 0).map fun c => PyData.str ⟨#[c]⟩ else none) = _
  rw [tx_len, if_pos hz]
  show (atI (a :: r) 0).map _ = _
  rw [atI_first]
  rfl
theorem gIx_last {l : List Nat} (hl : l ≠ []) (hz : l.length ≤ sizeLine) : gIx (.str (tx l)) (.int (-1)) = some (.str (one (l.getLast hl))) := by
  show (if (tx l).length ≤ sizeLine then (atI (tx l).cps.toList (-1)).map fun c => PyData.str ⟨#[c]⟩ else none) = _
  rw [tx_len, if_pos hz]
  show (atI l (-1)).map _ = _
  have e : l = l.dropLast ++ [l.getLast hl] := (List.dropLast_concat_getLast hl).symm
  have e2 : atI l (-1) = some (l.getLast hl) := by
    conv => lhs; rw [e]
    exact atI_last _ _
  rw [e2]
  rfl
theorem goF_is (hw : st.word = tx w) (hz : w.length ≤ sizeLine) (c : Nat) : goF C st c = some (goesOn w c) := by
  have h : runF ["self", "sign", "is_sign"] 2 (F_ThingReader_goes_on C) [obD C st, .str (one c)] = some (.bool (goesOn w c)) := by
    show (F_ThingReader_goes_on C [some (obD C st), some (.str (one c)), none]).bind _ = _
    generalize hev : ([some (obD C st), some (.str (one c)), none] : Ev) = ev
    have h0 : fVar 0 ev = some (obD C st) := by rw [← hev]; rfl
    have h1 : fVar 1 ev = some (.str (one c)) := by rw [← hev]; rfl
    have hW := fw h0 hw
    have hlow : fChain gLe gLe (fC (.str "a")) (fVar 1) (fC (.str "z")) ev = some (isLow c) := chain_one "a" "z" rfl rfl h1
    have hdig : fChain gLe gLe (fC (.str "0")) (fVar 1) (fC (.str "9")) ev = some (isDig c) := chain_one "0" "9" rfl rfl h1
    have hin : ∀ z : Str, f2T gInD (fVar 1) (fC (.str z)) ev = some (decide (c ∈ z.cps.toList)) := fun z => by
      unfold f2T
      rw [h1]
      exact in_one c z
    have heq : ∀ (z : Str) (m : List Nat), z = tx m → f2T gEq (fFld C "word" (fVar 0)) (fC (.str z)) ev = some (w == m) := fun z m hz => by
      unfold f2T
      rw [hW, hz, ← tx_beq]
      rfl
    have hne : ∀ (z : Str) (m : List Nat), z = tx m → f2T gNe (fFld C "word" (fVar 0)) (fC (.str z)) ev = some (!(w == m)) := fun z m hz => by
      unfold f2T
      rw [hW, hz, ← tx_beq]
      rfl
    have hret : ∀ F : Ev → Option Out, F ev = some (.rt (.bool (goesOn w c))) → ((F ev).bind fun o => match o with | .nx _ => some PyData.none | .rt w => some w) = some (.bool (goesOn w c)) := fun F e => by rw [e]; rfl
    refine hret _ ?_
    unfold F_ThingReader_goes_on
    cases w with
    | nil => exact z_rt (z_ifT (heq "" [] rfl) (z_rt (z_ret (z_orV (z_B hlow) (z_orV (z_B hdig) (z_B (hin _)))))))
    | cons a r =>
      have hfirst : f2T gInD (f2 gIx (fFld C "word" (fVar 0)) (fC (.int 0))) (fC (.str "-0123456789")) ev = some (decide (a ∈ numS.cps.toList)) :=
        z_2T (z_2 hW rfl (gIx_first hz)) rfl (in_one a "-0123456789")
      have hthree : f2T gInD (fFld C "word" (fVar 0)) (fTup (fCons (fC (.str "!")) (fCons (fC (.str ".")) (fCons (fC (.str "~")) fNil)))) ev = some ((a :: r) == [33] || (a :: r) == [46] || (a :: r) == [126]) := by
        refine z_2T hW (z_tup (z_cons rfl (z_cons rfl (z_cons rfl rfl))) (by show 3 ≤ sizeLine; decide)) ?_
        show some ((("!" : Str) == tx (a :: r)) || ((("." : Str) == tx (a :: r)) || ((("~" : Str) == tx (a :: r)) || false))) = _
        rw [show ("!" : Str) = tx [33] from rfl, show ("." : Str) = tx [46] from rfl, show ("~" : Str) = tx [126] from rfl, tx_beq, tx_beq, tx_beq, Bool.or_false, ← Bool.or_assoc]
        rw [show ([33] == a :: r) = (a :: r == [33]) from BEq.comm, show ([46] == a :: r) = (a :: r == [46]) from BEq.comm, show ([126] == a :: r) = (a :: r == [126]) from BEq.comm]
      refine z_nx (z_ifF (heq "" [] rfl) rfl) ?_
      by_cases hn : a ∈ numS.cps.toList
      · rw [decide_eq_true hn] at hfirst
        rw [goesOn_num hn]
        have h4 : f2T gNe (fVar 1) (fC (.str "0")) ev = some (!(c == 48)) := z_2T h1 rfl (by
          show some (!(one c == one 48)) = _
          rw [one_beq])
        exact z_rt (z_ifT hfirst (z_rt (z_ret (z_andV (z_B hdig) (z_andV (z_B (hne "0" [48] rfl)) (z_orV (z_B (hne "-" [45] rfl)) (z_B h4)))))))
      · rw [decide_eq_false hn] at hfirst
        rw [goesOn_oth hn]
        refine z_nx (z_ifF hfirst rfl) ?_
        cases ht : ((a :: r) == [33] || (a :: r) == [46] || (a :: r) == [126]) with
        | true =>
          rw [ht] at hthree
          exact z_rt (z_ifT hthree (z_rt (z_ret rfl)))
        | false =>
          rw [ht] at hthree
          refine z_nx (z_ifF hthree rfl) ?_
          refine z_nx (z_set (z_orV (z_B hlow) (z_orV (z_B hdig) (z_B (hin _))))) ?_
          have hW2 : fFld C "word" (fVar 0) (ev.set 2 (some (.bool (isLow c || (isDig c || decide (c ∈ ("@?" : Str).cps.toList)))))) = some (.str (tx (a :: r))) := fw (by rw [← hev]; rfl) hw
          have h12 : fVar 1 (ev.set 2 (some (.bool (isLow c || (isDig c || decide (c ∈ ("@?" : Str).cps.toList)))))) = some (.str (one c)) := by rw [← hev]; rfl
          refine z_rt (z_ret (z_orV (show fVar 2 _ = _ from ?_) (z_andV (z_B (z_2T h12 rfl (?_ : _ = some (c == 95)))) (z_B (z_2T (z_2 hW2 rfl (gIx_last (List.cons_ne_nil a r) hz)) rfl (?_ : _ = some (!((a :: r).getLast (List.cons_ne_nil a r) == 95))))))))
          · rw [← hev]; rfl
          · show some (one c == one 95) = _
            rw [one_beq]
          · show some (!(one _ == one 95)) = _
            rw [one_beq]
  unfold goF
  rw [h]
end
end K88

set_option Elab.async false
set_option linter.all false
set_option maxRecDepth 100000
set_option maxHeartbeats 4000000
namespace K88
open PySem PySem.Spec PyProof.Rows L2 Pu
/-- no thing as yet -/
def stopW (w : List Nat) : Bool := w == [] || w == [45] || w.getLast? == some 95
/-- what a word is worth -/
def valM (w : List Nat) : Option PyData :=
  if (match w with | a :: _ => decide (a ∈ numS.cps.toList) | [] => false) = true then gInt [.str (tx w)]
  else if w = [33] then some (.bool true) else if w = [46] then some (.bool false) else if w = [126] then some .none else gRepl "_" " " (.str (tx w))
theorem valM_num {a : Nat} {r : List Nat} (h : a ∈ numS.cps.toList) : valM (a :: r) = gInt [.str (tx (a :: r))] := if_pos (decide_eq_true h)
theorem valM_oth {a : Nat} {r : List Nat} (h : a ∉ numS.cps.toList) : valM (a :: r) = if (a :: r) = [33] then some (.bool true) else if (a :: r) = [46] then some (.bool false) else if (a :: r) = [126] then some .none else gRepl "_" " " (.str (tx (a :: r))) := if_neg (fun z => h (of_decide_eq_true z))
theorem tx_inj {a b : List Nat} (h : tx a = tx b) : a = b := by
  have e : (tx a).cps.toList = (tx b).cps.toList := by rw [h]
  simpa [tx] using e
section
variable {C : Addr} {st : RdSt} {w : List Nat}
theorem dic3 {w : List Nat} : dGet [(.str "!", .bool true), (.str ".", .bool false), (.str "~", .none)] (.inr (tx w)) = if w = [33] then some (.bool true) else if w = [46] then some (.bool false) else if w = [126] then some .none else none := by
  have k : ∀ (z : Str) (m : List Nat), z = tx m → keyB (.str z) (.inr (tx w)) = decide (w = m) := fun z m hz => by
    subst hz
    show decide (tx m = tx w) = _
    by_cases h : w = m
    · rw [h, decide_eq_true rfl, decide_eq_true rfl]
    · rw [decide_eq_false h, decide_eq_false fun e => h (tx_inj e).symm]
  unfold dGet
  rw [List.find?_cons, List.find?_cons, List.find?_cons, List.find?_nil]
  simp only [k "!" [33] rfl, k "." [46] rfl, k "~" [126] rfl]
  by_cases h1 : w = [33]
  · simp [h1]
  · by_cases h2 : w = [46]
    · simp [h2]
    · by_cases h3 : w = [126]
      · simp [h3]
      · simp [h1, h2, h3]
theorem itF_is (hw : st.word = tx w) (hz : w.length ≤ sizeLine) {f : Option PyData} (hf : (stopW w = true ∧ f = none) ∨ (stopW w = false ∧ ∃ v, valM w = some v ∧ flatD v = true ∧ f = some v)) : itF C st = some f := by
  suffices h : runF ["self", "items"] 1 (F_ThingReader_item C) [obD C st] = some (itemD f) by
    unfold itF
    rw [h]
    rcases hf with ⟨_, rfl⟩ | ⟨_, v, _, hv, rfl⟩
    · rfl
    · show (if flatD v = true then some (some v) else none) = _
      rw [if_pos hv]
  refine z_run rfl ?_
  show F_ThingReader_item C [some (obD C st), none] = _
  generalize hev : ([some (obD C st), none] : Ev) = ev
  have h0 : fVar 0 ev = some (obD C st) := by rw [← hev]; rfl
  have hW := fw h0 hw
  have htwo : f2T gInD (fFld C "word" (fVar 0)) (fTup (fCons (fC (.str "")) (fCons (fC (.str "-")) fNil))) ev = some (w == [] || w == [45]) := by
    refine z_2T hW (z_tup (z_cons rfl (z_cons rfl rfl)) (by show 2 ≤ sizeLine; decide)) ?_
    show some ((("" : Str) == tx w) || ((("-" : Str) == tx w) || false)) = _
    rw [show ("" : Str) = tx [] from rfl, show ("-" : Str) = tx [45] from rfl, tx_beq, tx_beq, Bool.or_false]
    rw [show ([] == w) = (w == []) from BEq.comm, show ([45] == w) = (w == [45]) from BEq.comm]
  unfold F_ThingReader_item
  have hstop : ∀ b, stopW w = b → fOr (f2T gInD (fFld C "word" (fVar 0)) (fTup (fCons (fC (.str "")) (fCons (fC (.str "-")) fNil)))) (f2T gEq (f2 gIx (fFld C "word" (fVar 0)) (fNeg (fC (.int 1)))) (fC (.str "_"))) ev = some b := by
    rintro b rfl
    unfold stopW
    cases h2 : (w == [] || w == [45]) with
    | true => rw [h2] at htwo; exact z_orT htwo
    | false =>
      rw [h2] at htwo
      have hne : w ≠ [] := fun e => by rw [e] at h2; cases h2
      refine z_orF htwo (z_2T (z_2 hW rfl (gIx_last hne hz)) rfl ?_)
      show some (one _ == one 95) = _
      rw [one_beq, List.getLast?_eq_some_getLast hne, Bool.false_or]
      congr 1
  rcases hf with ⟨hs, rfl⟩ | ⟨hs, v, hv, hfl, rfl⟩
  · exact z_rt (z_ifT (hstop true hs) (z_rt (z_ret rfl)))
  · refine z_nx (z_ifF (hstop false hs) rfl) ?_
    cases w with
    | nil => cases hs
    | cons a r =>
    have hfirst : f2T gInD (f2 gIx (fFld C "word" (fVar 0)) (fC (.int 0))) (fC (.str "-0123456789")) ev = some (decide (a ∈ numS.cps.toList)) :=
      z_2T (z_2 hW rfl (gIx_first hz)) rfl (in_one a "-0123456789")
    by_cases hn : a ∈ numS.cps.toList
    · rw [decide_eq_true hn] at hfirst
      rw [valM_num hn] at hv
      exact z_rt (z_ifT hfirst (z_rt (z_ret (z_tup (z_cons (z_call (z_cons hW rfl) hv) rfl) (by show 1 ≤ sizeLine; decide)))))
    · rw [decide_eq_false hn] at hfirst
      rw [valM_oth hn] at hv
      refine z_nx (z_ifF hfirst rfl) ?_
      refine z_nx (z_set (w := .dict [(.str "!", .bool true), (.str ".", .bool false), (.str "~", .none)]) rfl) ?_
      have hW2 : fFld C "word" (fVar 0) (ev.set 1 (some (.dict [(.str "!", .bool true), (.str ".", .bool false), (.str "~", .none)]))) = some (.str (tx (a :: r))) := fw (by rw [← hev]; rfl) hw
      have hV : fVar 1 (ev.set 1 (some (.dict [(.str "!", .bool true), (.str ".", .bool false), (.str "~", .none)]))) = some (.dict [(.str "!", .bool true), (.str ".", .bool false), (.str "~", .none)]) := by rw [← hev]; rfl
      refine z_rt (z_ret (z_tup (z_cons (w := v) ?_ rfl) (by show 1 ≤ sizeLine; decide)))
      have hd := dic3 (w := a :: r)
      by_cases h3 : (a :: r) = [33] ∨ (a :: r) = [46] ∨ (a :: r) = [126]
      · have hv2 : dGet [(.str "!", .bool true), (.str ".", .bool false), (.str "~", .none)] (.inr (tx (a :: r))) = some v := by
          rw [hd]
          rcases h3 with h | h | h <;> (rw [h] at hv ⊢; simpa using hv)
        refine z_ifET (z_2T hW2 hV ?_) (z_2 hV hW2 ?_)
        · show some ((dGet _ (.inr (tx (a :: r)))).isSome) = _
          rw [hv2]; rfl
        · exact hv2
      · have h33 : ¬ (a :: r) = [33] := fun e => h3 (.inl e)
        have h46 : ¬ (a :: r) = [46] := fun e => h3 (.inr (.inl e))
        have h126 : ¬ (a :: r) = [126] := fun e => h3 (.inr (.inr e))
        rw [if_neg h33, if_neg h46, if_neg h126] at hd hv
        refine z_ifEF (z_2T hW2 hV ?_) ?_
        · show some ((dGet _ (.inr (tx (a :: r)))).isSome) = _
          rw [hd]; rfl
        · unfold fRepl
          rw [hW2]
          exact hv
end
end K88

set_option Elab.async false
set_option linter.all false
set_option maxRecDepth 100000
set_option maxHeartbeats 4000000
/-! The reader, sign by sign, in plain words. -/
namespace K88
open PySem PySem.Spec PyProof.Rows L2 Pu
structure RS where
  lots : List (List PyData)
  signs : List Nat
  word : List Nat
  ended : Bool
def toSt (rs : RS) : RdSt := ⟨rs.lots, rs.signs.map one, tx rs.word, rs.ended⟩
def rs0 : RS := ⟨[[]], [], [], false⟩
def rEnds (rs : RS) : Option RS :=
  if rs.ended = true then some { rs with word := [], ended := false }
  else if stopW rs.word = true then none else match valM rs.word, rs.lots with
    | some v, ds :: dss => some { lots := (ds ++ [v]) :: dss, signs := rs.signs, word := [], ended := false }
    | _, _ => none
def rGo (rs : RS) (c : Nat) : Option RS := match rs.lots with
  | ds :: es :: dss => some { lots := (es ++ [if c = 41 then PyData.tuple ds else .list ds]) :: dss, signs := rs.signs.tail, word := rs.word, ended := true }
  | _ => none
def rShut (rs : RS) (c : Nat) : Option RS := match rs.lots, rs.signs with
  | ds :: _, z :: _ => if z = (if c = 41 then 40 else 91) then (if (rs.word == [] && !rs.ended && ds.isEmpty) = true then rGo rs c else (rEnds rs).bind fun r => rGo r c) else none
  | _, _ => none
def rStep (rs : RS) (c : Nat) : Option RS :=
  if c = 41 ∨ c = 93 then rShut rs c
  else if c = 32 then (if rs.signs = [] then none else rEnds rs)
  else if rs.ended = true then none
  else if rs.word = [] ∧ (c = 40 ∨ c = 91) then some { lots := [] :: rs.lots, signs := c :: rs.signs, word := rs.word, ended := rs.ended }
  else if goesOn rs.word c = true then some { lots := rs.lots, signs := rs.signs, word := rs.word ++ [c], ended := rs.ended } else none
/-- the reader is sound behind m signs -/
structure RI (rs : RS) (m : Nat) : Prop where
  len : rs.lots.length = rs.signs.length + 1
  sg : rs.signs.length ≤ m
  sb : ∀ z ∈ rs.signs, z = 40 ∨ z = 91
  wd : rs.word.length ≤ m
  ld : ∀ ds ∈ rs.lots, ds.length ≤ m ∧ PyData.plainAll ds = true
  en : rs.ended = true → rs.word = []
/-- the word, if it is one, is worth something -/
def VD (rs : RS) : Prop := stopW rs.word = false → ∃ v, valM rs.word = some v ∧ flatD v = true
theorem flat_plain {v : PyData} (h : flatD v = true) : v.plain = true := by
  cases v <;> first | rfl | cases h
section
variable {C : Addr} {rs : RS} {m : Nat}
theorem rEnds_is (R : RI rs m) (vd : VD rs) (hm : m < 1000000) : endsF C (toSt rs) = some (match rEnds rs with | some r => (true, toSt r) | none => (false, toSt rs)) := by
  have hz := sizeLine_eq
  have wl : rs.word.length ≤ sizeLine := by have := R.wd; omega
  unfold endsF rEnds
  cases he : rs.ended with
  | true =>
    have hw := R.en he
    rw [itF_is (st := toSt rs) (w := rs.word) rfl wl (.inl ⟨by rw [hw]; rfl, rfl⟩)]
    show (if rs.ended = true then _ else _) = _
    rw [he]
    rfl
  | false =>
    have e0 : (toSt rs).ended = false := he
    cases hs : stopW rs.word with
    | true =>
      rw [itF_is (st := toSt rs) (w := rs.word) rfl wl (.inl ⟨hs, rfl⟩), Option.bind_some]
      rw [e0]
      rfl
    | false =>
      obtain ⟨v, hv, hf⟩ := vd hs
      rw [itF_is (st := toSt rs) (w := rs.word) rfl wl (.inr ⟨hs, v, hv, hf, rfl⟩), Option.bind_some]
      rw [e0, hv]
      have hl := R.len
      cases hlots : rs.lots with
      | nil => rw [hlots] at hl; cases hl
      | cons ds dss =>
        have hd := (R.ld ds (by rw [hlots]; exact List.mem_cons_self)).1
        have e1 : (toSt rs).lots = ds :: dss := hlots
        simp only [Bool.false_eq_true, if_false]
        rw [e1]
        simp only
        rw [if_pos (by omega)]
        rfl
theorem rEnds_inv (R : RI rs m) (vd : VD rs) {r : RS} (h : rEnds rs = some r) : RI r (m + 1) ∧ r.signs = rs.signs ∧ r.word = [] ∧ r.ended = false := by
  unfold rEnds at h
  split at h
  · cases h
    exact ⟨⟨R.len, Nat.le_succ_of_le R.sg, R.sb, Nat.zero_le _, fun ds hd => ⟨Nat.le_succ_of_le (R.ld ds hd).1, (R.ld ds hd).2⟩, (fun z => nomatch z)⟩, rfl, rfl, rfl⟩
  · split at h
    · cases h
    · rename_i hs
      split at h
      · rename_i v ds dss hv hl
        cases h
        have hl2 := R.len
        obtain ⟨v', hv', hf'⟩ := vd (Bool.eq_false_iff.mpr hs)
        rw [hv] at hv'
        cases hv'
        refine ⟨⟨by rw [hl] at hl2; exact hl2, Nat.le_succ_of_le R.sg, R.sb, Nat.zero_le _, fun es he => ?_, (fun z => nomatch z)⟩, rfl, rfl, rfl⟩
        rcases List.mem_cons.mp he with rfl | he
        · have hd := R.ld ds (by rw [hl]; exact List.mem_cons_self)
          refine ⟨by rw [List.length_append]; exact Nat.succ_le_succ hd.1, ?_⟩
          rw [plainAll_app, hd.2, PyData.plainAll, flat_plain hf']
          rfl
        · have hd := R.ld es (by rw [hl]; exact List.mem_cons_of_mem _ he)
          exact ⟨Nat.le_succ_of_le hd.1, hd.2⟩
      · cases h
theorem opens_is (c : Nat) (hc : c = 41 ∨ c = 93) : opens (one c) = one (if c = 41 then 40 else 91) := by
  rcases hc with rfl | rfl <;> rfl
theorem one_inj {a b : Nat} (h : one a = one b) : a = b := by
  have := tx_inj (a := [a]) (b := [b]) h
  simpa using this
theorem rGo_is (R : RI rs m) (hm : m < 1000000) {c : Nat} (hc : c = 41 ∨ c = 93) : goShut (toSt rs) (one c) = (rGo rs c).map toSt := by
  have hz := sizeLine_eq
  unfold goShut rGo
  have e : (toSt rs).lots = rs.lots := rfl
  rw [e]
  cases hl : rs.lots with
  | nil => rfl
  | cons ds t =>
    cases t with
    | nil => rfl
    | cons es dss =>
      have he := (R.ld es (by rw [hl]; simp)).1
      simp only
      rw [if_pos (by omega)]
      have e1 : (if one c = ")" then PyData.tuple ds else .list ds) = (if c = 41 then PyData.tuple ds else .list ds) := by
        rcases hc with rfl | rfl <;> rfl
      rw [e1]
      show some _ = some _
      congr 1
      unfold toSt
      rw [List.map_tail]
theorem rShut_is (R : RI rs m) (vd : VD rs) (hm : m + 1 < 1000000) {c : Nat} (hc : c = 41 ∨ c = 93) : ∃ st', shutsF C (toSt rs) (one c) = some ((rShut rs c).isSome, st') ∧ ∀ r, rShut rs c = some r → st' = toSt r := by
  have h1 : one c = ")" ∨ one c = "]" := by rcases hc with rfl | rfl; exact .inl rfl; exact .inr rfl
  unfold shutsF rShut
  rw [if_pos h1]
  have hl := R.len
  have e : (toSt rs).lots = rs.lots := rfl
  have es : (toSt rs).signs = rs.signs.map one := rfl
  rw [e, es]
  cases hlots : rs.lots with
  | nil => rw [hlots] at hl; cases hl
  | cons ds dss =>
    simp only
    rw [if_pos (R.ld ds (by rw [hlots]; exact List.mem_cons_self)).2]
    cases hsg : rs.signs with
    | nil => exact ⟨_, rfl, fun r h => nomatch h⟩
    | cons z zs =>
      simp only [List.map_cons]
      by_cases hzo : z = (if c = 41 then 40 else 91)
      · have h2 : one z = opens (one c) := by rw [opens_is c hc, hzo]
        rw [if_pos h2, if_pos hzo]
        have eb : bareB (toSt rs) ds = (rs.word == [] && !rs.ended && ds.isEmpty) := by
          unfold bareB
          show ((tx rs.word == tx []) && _ && _) = _
          rw [tx_beq]
          rfl
        rw [eb]
        cases hb : (rs.word == [] && !rs.ended && ds.isEmpty) with
        | true =>
          rw [if_pos rfl, if_pos rfl, rGo_is R (by omega) hc]
          cases hg : rGo rs c with
          | none =>
            exfalso
            unfold rGo at hg
            rw [hlots] at hg hl
            rw [hsg] at hl
            cases dss with
            | nil => cases hl
            | cons _ _ => cases hg
          | some r => exact ⟨_, rfl, fun r' h => by cases h; rfl⟩
        | false =>
          rw [if_neg Bool.false_ne_true, if_neg Bool.false_ne_true, rEnds_is R vd (by omega), Option.bind_some]
          cases hr : rEnds rs with
          | none => exact ⟨_, rfl, fun r h => nomatch h⟩
          | some r1 =>
            obtain ⟨R1, hs1, _, _⟩ := rEnds_inv R vd hr
            simp only [if_true, Option.bind_some]
            rw [rGo_is R1 hm hc]
            cases hg : rGo r1 c with
            | none =>
              exfalso
              unfold rGo at hg
              have hl1 := R1.len
              rw [hs1, hsg] at hl1
              cases h2 : r1.lots with
              | nil => rw [h2] at hl1; cases hl1
              | cons x t =>
                rw [h2] at hg hl1
                cases t with
                | nil => cases hl1
                | cons _ _ => cases hg
            | some r => exact ⟨_, rfl, fun r' h => by cases h; rfl⟩
      · have h2 : ¬ one z = opens (one c) := by rw [opens_is c hc]; exact fun h => hzo (one_inj h)
        rw [if_neg h2, if_neg hzo]
        exact ⟨_, rfl, fun r h => nomatch h⟩
theorem rStep_is (R : RI rs m) (hm : m + 1 < 1000000) (c : Nat) (vd : c = 32 ∨ c = 41 ∨ c = 93 → VD rs) : ∃ st', takesF C (toSt rs) c = some ((rStep rs c).isSome, st') ∧ ∀ r, rStep rs c = some r → st' = toSt r := by
  have hz := sizeLine_eq
  have hl := R.len
  have hs := R.sg
  have hw := R.wd
  unfold takesF rStep
  by_cases h1 : c = 41 ∨ c = 93
  · rw [if_pos h1, if_pos h1]; exact rShut_is R (vd (.inr h1)) hm h1
  rw [if_neg h1, if_neg h1]
  by_cases h2 : c = 32
  · rw [if_pos h2, if_pos h2]
    have e : (toSt rs).signs = rs.signs.map one := rfl
    rw [e]
    cases hsg : rs.signs with
    | nil => exact ⟨_, rfl, fun r h => nomatch h⟩
    | cons z zs =>
      rw [if_neg (by simp), if_neg (by simp), rEnds_is R (vd (.inl h2)) (by omega)]
      cases rEnds rs with
      | none => exact ⟨_, rfl, fun r h => nomatch h⟩
      | some r => exact ⟨_, rfl, fun r' h => by cases h; rfl⟩
  rw [if_neg h2, if_neg h2]
  have ee : (toSt rs).ended = rs.ended := rfl
  rw [ee]
  cases he : rs.ended with
  | true => exact ⟨_, rfl, fun r h => nomatch h⟩
  | false =>
    rw [if_neg Bool.false_ne_true, if_neg Bool.false_ne_true]
    have ew : ((toSt rs).word == "" && (c == 40 || c == 91)) = decide (rs.word = [] ∧ (c = 40 ∨ c = 91)) := by
      show ((tx rs.word == tx []) && _) = _
      rw [tx_beq]
      by_cases a1 : rs.word = [] <;> by_cases a2 : c = 40 <;> by_cases a3 : c = 91 <;> simp [a1, a2, a3]
    rw [ew]
    by_cases h3 : rs.word = [] ∧ (c = 40 ∨ c = 91)
    · rw [if_pos (decide_eq_true h3), if_pos h3]
      have e1 : (toSt rs).lots.length < sizeLine ∧ (toSt rs).signs.length < sizeLine := ⟨by show rs.lots.length < _; omega, by show (rs.signs.map one).length < _; rw [List.length_map]; omega⟩
      rw [if_pos e1]
      exact ⟨_, rfl, fun r h => by cases h; rw [← he]; rfl⟩
    · rw [if_neg (by simpa using h3), if_neg h3, goF_is (st := toSt rs) (w := rs.word) rfl (by omega), Option.bind_some]
      cases hg : goesOn rs.word c with
      | true =>
        rw [if_pos rfl, if_pos rfl]
        have e1 : (toSt rs).word.length + 1 ≤ sizeLine := by show (tx rs.word).length + 1 ≤ _; rw [tx_len]; omega
        rw [if_pos e1]
        refine ⟨_, rfl, fun r h => ?_⟩
        cases h
        unfold toSt
        simp only
        rw [← tx_app]
        rfl
      | false => exact ⟨_, rfl, fun r h => nomatch h⟩
end
end K88

set_option Elab.async false
set_option linter.all false
set_option maxRecDepth 100000
set_option maxHeartbeats 4000000
/-! The other reader's tokens. -/
namespace K88
open PySem PySem.Spec PyProof.Rows L2 Pu
theorem scan_while {fc : Ev → Option Bool} {F : Ev → Option Out} {mk : Nat → Ev} {p : Nat → Bool} {lo n : Nat} (hc : ∀ e, lo ≤ e → e ≤ n → fc (mk e) = some (p e)) (hF : ∀ e, lo ≤ e → e < n → F (mk e) = some (.nx (mk (e + 1)))) (hp : ∀ e, e ≤ n → p e = true → e < n) :
    ∀ (fuel e : Nat), lo ≤ e → e ≤ n → n - e < fuel → ∃ e', e ≤ e' ∧ e' ≤ n ∧ (∀ k, e ≤ k → k < e' → p k = true) ∧ p e' = false ∧ whileN fc F fuel (mk e) = some (.nx (mk e'))
  | 0, e, _, _, h => absurd h (Nat.not_lt_zero _)
  | fuel + 1, e, hlo, he, h => by
    have hw : whileN fc F (fuel + 1) (mk e) = (fc (mk e)).bind fun b => if b = true then (F (mk e)).bind fun o => match o with | .nx ev' => whileN fc F fuel ev' | .rt w => some (.rt w) else some (.nx (mk e)) := rfl
    cases hpe : p e with
    | false => exact ⟨e, Nat.le_refl _, he, fun k h1 h2 => absurd h2 (by omega), hpe, by rw [hw, hc e hlo he, hpe]; rfl⟩
    | true =>
      have hlt := hp e he hpe
      obtain ⟨e', h1, h2, h3, h4, h5⟩ := scan_while hc hF hp fuel (e + 1) (by omega) hlt (by omega)
      refine ⟨e', by omega, h2, fun k k1 k2 => ?_, h4, ?_⟩
      · by_cases hk : k = e
        · rw [hk]; exact hpe
        · exact h3 k (by omega) k2
      · rw [hw, hc e hlo he, hpe, Option.bind_some, if_pos rfl, hF e hlo hlt]
        exact h5
def sub (l : List Nat) (a b : Nat) : List Nat := (l.drop a).take (b - a)
theorem sub_self (l : List Nat) (a : Nat) : sub l a a = [] := by unfold sub; rw [Nat.sub_self, List.take_zero]
theorem sub_snoc {l : List Nat} {a b c : Nat} (h : a ≤ b) (hc : l[b]? = some c) : sub l a (b + 1) = sub l a b ++ [c] := by
  unfold sub
  have e : b + 1 - a = (b - a) + 1 := by omega
  rw [e, List.take_add_one, List.getElem?_drop]
  have e2 : a + (b - a) = b := by omega
  rw [e2, hc]
  rfl
theorem sub_len {l : List Nat} {a b : Nat} (h : b ≤ l.length) : (sub l a b).length = b - a := by
  unfold sub
  rw [List.length_take, List.length_drop]
  omega
theorem sub_cons {l : List Nat} {a b c : Nat} (h : a < b) (hc : l[a]? = some c) : ∃ r, sub l a b = c :: r ∧ r = sub l (a + 1) b := by
  unfold sub
  obtain ⟨h1, h2⟩ := List.getElem?_eq_some_iff.mp hc
  rw [List.drop_eq_getElem_cons h1, h2]
  have e : b - a = (b - (a + 1)) + 1 := by omega
  rw [e, List.take_succ_cons]
  exact ⟨_, rfl, rfl⟩
theorem sub_last {l : List Nat} {a b c : Nat} (h : a ≤ b) (hc : l[b]? = some c) : (sub l a (b + 1)).getLast? = some c := by
  rw [sub_snoc h hc, List.getLast?_concat]
theorem small_mem {S : List Nat} {f : Nat → Bool} (h : ∀ c, c < 128 → decide (c ∈ S) = f c) (hS : ∀ x ∈ S, x < 128) (hf : ∀ c, 128 ≤ c → f c = false) (c : Nat) : decide (c ∈ S) = f c := by
  by_cases hc : c < 128
  · exact h c hc
  · rw [hf c (by omega)]
    exact decide_eq_false fun m => hc (hS c m)
def okW (c : Nat) : Bool := isLow c || (isDig c || (c == 64 || (c == 63 || c == 95)))
theorem mem_word (c : Nat) : decide (c ∈ ("abcdefghijklmnopqrstuvwxyz0123456789@?_" : Str).cps.toList) = okW c :=
  small_mem (f := okW) (by decide +kernel) (by decide +kernel) (fun c h => by unfold okW isLow isDig; simp; omega) c
theorem mem_low (c : Nat) : decide (c ∈ ("abcdefghijklmnopqrstuvwxyz?" : Str).cps.toList) = (isLow c || c == 63) :=
  small_mem (f := fun c => isLow c || c == 63) (by decide +kernel) (by decide +kernel) (fun c h => by unfold isLow; simp; omega) c
theorem mem_dig (c : Nat) : decide (c ∈ ("0123456789" : Str).cps.toList) = isDig c :=
  small_mem (f := isDig) (by decide +kernel) (by decide +kernel) (fun c h => by unfold isDig; simp; omega) c
theorem mem_num (c : Nat) : decide (c ∈ numS.cps.toList) = (isDig c || c == 45) :=
  small_mem (f := fun c => isDig c || c == 45) (by decide +kernel) (by decide +kernel) (fun c h => by unfold isDig; simp; omega) c
theorem mem_tru (c : Nat) : decide (c ∈ ("!.~" : Str).cps.toList) = (c == 33 || (c == 46 || c == 126)) :=
  small_mem (f := fun c => c == 33 || (c == 46 || c == 126)) (by decide +kernel) (by decide +kernel) (fun c h => by simp; omega) c
theorem mem_first (c : Nat) : decide (c ∈ ("?-!.~" : Str).cps.toList) = (c == 63 || (c == 45 || (c == 33 || (c == 46 || c == 126)))) :=
  small_mem (f := fun c => c == 63 || (c == 45 || (c == 33 || (c == 46 || c == 126)))) (by decide +kernel) (by decide +kernel) (fun c h => by simp; omega) c
theorem mem_at (c : Nat) : decide (c ∈ ("@?" : Str).cps.toList) = (c == 64 || c == 63) :=
  small_mem (f := fun c => c == 64 || c == 63) (by decide +kernel) (by decide +kernel) (fun c h => by simp; omega) c
/-- signs that go on are none of the marks -/
theorem goesOn_ok {w : List Nat} {c : Nat} (h : goesOn w c = true) : c ≠ 32 ∧ c ≠ 40 ∧ c ≠ 41 ∧ c ≠ 91 ∧ c ≠ 93 := by
  have key : (isLow c || (isDig c || (c == 64 || (c == 63 || (c == 95 || (c == 45 || (c == 33 || (c == 46 || c == 126)))))))) = true := by
    cases w with
    | nil =>
      unfold goesOn at h
      rw [mem_first] at h
      revert h
      cases isLow c <;> cases isDig c <;> cases (c == 63) <;> cases (c == 45) <;> cases (c == 33) <;> cases (c == 46) <;> cases (c == 126) <;> simp
    | cons a r =>
      by_cases hn : a ∈ numS.cps.toList
      · rw [goesOn_num hn] at h
        cases hd : isDig c with
        | true => simp
        | false => rw [hd] at h; cases h
      · rw [goesOn_oth hn, mem_at] at h
        split at h
        · cases h
        · revert h
          cases isLow c <;> cases isDig c <;> cases (c == 64) <;> cases (c == 63) <;> cases (c == 95) <;> simp
  refine ⟨?_, ?_, ?_, ?_, ?_⟩ <;> (rintro rfl; revert key; decide)
inductive PR where
  | good (e : Nat) (v : PyData)
  | opn (e : Nat)
  | bad (e : Nat)
def prD : PR → PyData
  | .good e v => .list [.str "good", .int (e : Nat), v]
  | .opn e => .list [.str "open", .int (e : Nat), .none]
  | .bad e => .list [.str "bad", .int (e : Nat), .none]
/-- the signs from a up to b are taken into one word -/
def Acc (l : List Nat) (a b : Nat) : Prop := ∀ k, a ≤ k → k < b → ∃ c, l[k]? = some c ∧ goesOn (sub l a k) c = true
/-- what a token's answer says of the other reader's word -/
def TokRel (l : List Nat) (a : Nat) : PR → Prop
  | .good e v => a < e ∧ e ≤ l.length ∧ Acc l a e ∧ stopW (sub l a e) = false ∧ valM (sub l a e) = some v ∧ flatD v = true ∧ ∀ c, l[e]? = some c → goesOn (sub l a e) c = false
  | .opn e => a < e ∧ e = l.length ∧ Acc l a e ∧ stopW (sub l a e) = true
  | .bad e => a ≤ e ∧ Acc l a e ∧ stopW (sub l a e) = true ∧ ∃ c, l[e]? = some c ∧ goesOn (sub l a e) c = false
end K88

set_option Elab.async false
set_option linter.all false
set_option maxRecDepth 100000
set_option maxHeartbeats 4000000
namespace K88
open PySem PySem.Spec PyProof.Rows L2 Pu
def WNt : Ev → Nat := fun ev => match (ev[0]? : Option (Option PyData)) with
  | some (some (PyData.str z)) => z.length + 2
  | _ => 0
/-- no run of digits is long -/
def DR (l : List Nat) : Prop := ∀ a b, a ≤ b → b ≤ l.length → (∀ k, a ≤ k → k < b → ∃ c, l[k]? = some c ∧ isDig c = true) → b - a ≤ 600
theorem lt_of_get {l : List Nat} {k c : Nat} (h : l[k]? = some c) : k < l.length := (List.getElem?_eq_some_iff.mp h).1
theorem get_of_lt {l : List Nat} {k : Nat} (h : k < l.length) : ∃ c, l[k]? = some c := ⟨_, List.getElem?_eq_getElem h⟩
theorem ix_at {l : List Nat} {k c : Nat} (hz : l.length ≤ sizeLine) (hc : l[k]? = some c) : gIx (.str (tx l)) (.int (k : Nat)) = some (.str (one c)) := by
  show (if (tx l).length ≤ sizeLine then (atI (tx l).cps.toList (k : Nat)).map fun c => PyData.str ⟨#[c]⟩ else none) = _
  rw [tx_len, if_pos hz]
  have h : atI l (k : Nat) = some c := by
    unfold atI ixN
    rw [if_pos (Int.natCast_nonneg k), if_pos (by have := lt_of_get hc; omega), Option.bind_some, Int.toNat_natCast]
    exact hc
  show (atI l (k : Nat)).map _ = _
  rw [h]
  rfl
theorem len_at {ev : Ev} {i : Nat} {l : List Nat} (h : fVar i ev = some (.str (tx l))) (hz : l.length ≤ sizeLine) : fCall gLen (fCons (fVar i) fNil) ev = some (.int (l.length : Nat)) := by
  refine z_call (z_cons h rfl) ?_
  show (if (tx l).length ≤ sizeLine then some (PyData.int (tx l).length) else none) = _
  rw [tx_len, if_pos hz]
theorem gLt_nat (a b : Nat) : gLt (.int (a : Nat)) (.int (b : Nat)) = some (decide (a < b)) := by
  show some (decide ((a : Int) < b)) = _
  congr 1
  by_cases h : a < b
  · rw [decide_eq_true h, decide_eq_true (by omega)]
  · rw [decide_eq_false h, decide_eq_false (by omega)]
theorem gEq_nat (a b : Nat) : gEq (.int (a : Nat)) (.int (b : Nat)) = some (a == b) := by
  show some ((a : Int) == b) = _
  congr 1
  by_cases h : a = b
  · subst h; simp
  · rw [beq_eq_false_iff_ne.mpr h, beq_eq_false_iff_ne.mpr (by omega)]
theorem gEq_one (a b : Nat) : gEq (.str (one a)) (.str (one b)) = some (a == b) := by
  show some (one a == one b) = _
  rw [one_beq]
theorem gSub_nat {a : Nat} (h : 1 ≤ a) : gSub (.int (a : Nat)) (.int 1) = some (.int ((a - 1 : Nat) : Int)) := by
  show some (PyData.int ((a : Int) - 1)) = _
  rw [show ((a - 1 : Nat) : Int) = (a : Int) - 1 by omega]
theorem gAdd_nat (a : Nat) : gAdd (.int (a : Nat)) (.int 1) = some (.int ((a + 1 : Nat) : Int)) := rfl
theorem gSl_sub {l : List Nat} {a b : Nat} (ha : a ≤ b) (hb : b ≤ l.length) (hz : l.length ≤ sizeLine) : gSl (.str (tx l)) (some (a : Nat)) (some (b : Nat)) = some (.str (tx (sub l a b))) := by
  show (if (tx l).length ≤ sizeLine then some (PyData.str (cutS (tx l) (some (a : Nat)) (some (b : Nat)))) else none) = _
  rw [tx_len, if_pos hz]
  unfold cutS
  rw [tx_len, HT.sIx_nat, HT.sIx_nat, Nat.min_eq_left hb, Nat.min_eq_left (Nat.le_trans ha hb)]
  rfl
/-- words that start by a letter or ? -/
theorem goesOn_word {a c : Nat} {r : List Nat} (ha : (isLow a || a == 63) = true) {d : Nat} (hd : (a :: r).getLast? = some d) : goesOn (a :: r) c = (okW c && !(c == 95 && d == 95)) := by
  have hn : a ∉ numS.cps.toList := fun h => by
    have := decide_eq_true h
    rw [mem_num] at this
    unfold isDig isLow at *
    simp at this ha
    omega
  rw [goesOn_oth hn, mem_at]
  have h3 : ((a :: r) == [33] || (a :: r) == [46] || (a :: r) == [126]) = false := by
    have : ∀ x, x = 33 ∨ x = 46 ∨ x = 126 → ((a :: r) == [x]) = false := fun x hx => by
      rw [beq_eq_false_iff_ne]
      intro e
      cases e
      unfold isLow at ha
      simp at ha
      omega
    rw [this 33 (.inl rfl), this 46 (.inr (.inl rfl)), this 126 (.inr (.inr rfl))]
    rfl
  rw [h3, if_neg Bool.false_ne_true]
  have hl : (a :: r).getLast (List.cons_ne_nil a r) = d := by
    rw [List.getLast?_eq_some_getLast (List.cons_ne_nil a r)] at hd
    exact Option.some.inj hd
  rw [hl]
  unfold okW
  by_cases h95 : c = 95
  · subst h95
    cases (d == 95) <;> rfl
  · have e : (c == 95) = false := beq_eq_false_iff_ne.mpr h95
    rw [e]
    cases isLow c <;> cases isDig c <;> cases (c == 64) <;> cases (c == 63) <;> rfl
theorem tok_is {l : List Nat} {a c : Nat} (hl : l.length ≤ 500000) (dr : DR l) (hc : l[a]? = some c) (h40 : c ≠ 40) (h91 : c ≠ 91) : ∃ r, runF ["text", "at", "sign", "end", "start"] 2 (F__law_token WNt) [.str (tx l), .int (a : Nat)] = some (prD r) ∧ TokRel l a r := by
  have hz := sizeLine_eq
  have L : l.length ≤ sizeLine := by omega
  have hlt := lt_of_get hc
  suffices h : ∃ r, F__law_token WNt [some (.str (tx l)), some (.int (a : Nat)), none, none, none] = some (.rt (prD r)) ∧ TokRel l a r by
    obtain ⟨r, h1, h2⟩ := h
    exact ⟨r, z_run rfl h1, h2⟩
  unfold F__law_token
  have acc1 : goesOn [] c = true → Acc l a (a + 1) := fun h k h1 h2 => by
    obtain rfl : k = a := by omega
    exact ⟨c, hc, by rw [sub_self]; exact h⟩
  have sub1 : sub l a (a + 1) = [c] := by rw [sub_snoc (Nat.le_refl a) hc, sub_self]; rfl
  have step1 : fSet 2 (f2 gIx (fVar 0) (fVar 1)) [some (.str (tx l)), some (.int (a : Nat)), none, none, none] = some (.nx [some (.str (tx l)), some (.int (a : Nat)), some (.str (one c)), none, none]) := z_set (z_2 rfl rfl (ix_at L hc))
  have t1 : f2T gInD (fVar 2) (fC (.str "!.~")) [some (.str (tx l)), some (.int (a : Nat)), some (.str (one c)), none, none] = some (c == 33 || (c == 46 || c == 126)) := by
    refine z_2T rfl rfl ?_
    rw [in_one, mem_tru]
  cases hb1 : (c == 33 || (c == 46 || c == 126)) with
  | true =>
    rw [hb1] at t1
    have h3 : c = 33 ∨ c = 46 ∨ c = 126 := by simpa using hb1
    have hn : c ∉ numS.cps.toList := fun h => by
      have := decide_eq_true h
      rw [mem_num] at this
      rcases h3 with rfl | rfl | rfl <;> revert this <;> decide
    have hg : ∀ d, goesOn [c] d = false := fun d => by
      rw [goesOn_oth hn]
      have : ([c] == [33] || [c] == [46] || [c] == [126]) = true := by rcases h3 with rfl | rfl | rfl <;> rfl
      rw [this]; rfl
    have hf : goesOn [] c = true := by rcases h3 with rfl | rfl | rfl <;> decide
    obtain ⟨v, hv, hdg, hfl⟩ : ∃ v, valM [c] = some v ∧ dGet [(.str "!", .bool true), (.str ".", .bool false), (.str "~", .none)] (.inr (tx [c])) = some v ∧ flatD v = true := by
      rw [valM_oth hn, dic3]
      rcases h3 with rfl | rfl | rfl
      · exact ⟨_, rfl, rfl, rfl⟩
      · exact ⟨_, rfl, rfl, rfl⟩
      · exact ⟨_, rfl, rfl, rfl⟩
    refine ⟨.good (a + 1) v, z_nx step1 (z_rt (z_ifT t1 (z_rt (z_ret (z_lst (z_cons rfl (z_cons (z_2 rfl rfl (gAdd_nat a)) (z_cons (z_2 (w := .dict [(.str "!", .bool true), (.str ".", .bool false), (.str "~", .none)]) rfl rfl hdg) rfl))) (by show 3 ≤ sizeLine; decide)))))), ?_⟩
    refine ⟨Nat.lt_succ_self a, hlt, acc1 hf, ?_, ?_, hfl, fun d _ => ?_⟩
    · rw [sub1]; rcases h3 with rfl | rfl | rfl <;> rfl
    · rw [sub1]; exact hv
    · rw [sub1]; exact hg d
  | false =>
    rw [hb1] at t1
    have t2 : f2T gInD (fVar 2) (fC (.str "abcdefghijklmnopqrstuvwxyz?")) [some (.str (tx l)), some (.int (a : Nat)), some (.str (one c)), none, none] = some (isLow c || c == 63) := by
      refine z_2T rfl rfl ?_
      rw [in_one, mem_low]
    cases hb2 : (isLow c || c == 63) with
    | true =>
      rw [hb2] at t2
      let mk : Nat → Ev := fun e => [some (.str (tx l)), some (.int (a : Nat)), some (.str (one c)), some (.int (e : Nat)), none]
      let p : Nat → Bool := fun e => match l[e]? with | some d => okW d && !(d == 95 && l[e - 1]? == some 95) | none => false
      have v0 : ∀ e, fVar 0 (mk e) = some (.str (tx l)) := fun _ => rfl
      have v3 : ∀ e, fVar 3 (mk e) = some (.int (e : Nat)) := fun _ => rfl
      have hat : ∀ e d, l[e]? = some d → f2 gIx (fVar 0) (fVar 3) (mk e) = some (.str (one d)) := fun e d hd => z_2 (v0 e) (v3 e) (ix_at L hd)
      have hprev : ∀ e d, 1 ≤ e → l[e - 1]? = some d → f2 gIx (fVar 0) (f2 gSub (fVar 3) (fC (.int 1))) (mk e) = some (.str (one d)) := fun e d h1 hd => z_2 (v0 e) (z_2 (v3 e) rfl (gSub_nat h1)) (ix_at L hd)
      have hcnd : ∀ e, a + 1 ≤ e → e ≤ l.length → (fAnd (f2T gLt (fVar 3) (fCall gLen (fCons (fVar 0) fNil))) (fAnd (f2T gInD (f2 gIx (fVar 0) (fVar 3)) (fC (.str "abcdefghijklmnopqrstuvwxyz0123456789@?_"))) (fNot (fAnd (f2T gEq (f2 gIx (fVar 0) (fVar 3)) (fC (.str "_"))) (f2T gEq (f2 gIx (fVar 0) (f2 gSub (fVar 3) (fC (.int 1)))) (fC (.str "_"))))))) (mk e) = some (p e) := by
        intro e h1 h2
        have hlen : f2T gLt (fVar 3) (fCall gLen (fCons (fVar 0) fNil)) (mk e) = some (decide (e < l.length)) := z_2T (v3 e) (len_at (v0 e) L) (gLt_nat _ _)
        by_cases h3 : e < l.length
        · rw [decide_eq_true h3] at hlen
          obtain ⟨d, hd⟩ := get_of_lt h3
          obtain ⟨d1, hd1⟩ := get_of_lt (show e - 1 < l.length by omega)
          refine z_andT hlen ?_
          have hin : f2T gInD (f2 gIx (fVar 0) (fVar 3)) (fC (.str "abcdefghijklmnopqrstuvwxyz0123456789@?_")) (mk e) = some (okW d) := z_2T (hat e d hd) rfl (by rw [in_one, mem_word])
          have hpe : p e = (okW d && !(d == 95 && d1 == 95)) := by
            show (match l[e]? with | some d => okW d && !(d == 95 && l[e - 1]? == some 95) | none => false) = _
            rw [hd, hd1]
            simp
          rw [hpe]
          refine z_and hin fun _ => z_not (z_and (z_2T (hat e d hd) rfl (gEq_one d 95)) fun _ => z_2T (hprev e d1 (by omega) hd1) rfl (gEq_one d1 95))
        · rw [decide_eq_false h3] at hlen
          have hpe : p e = false := by
            show (match l[e]? with | some d => okW d && !(d == 95 && l[e - 1]? == some 95) | none => false) = _
            rw [List.getElem?_eq_none (by omega)]
          rw [hpe]
          exact z_andF hlen
      obtain ⟨e', g1, g2, g3, g4, g5⟩ := scan_while (F := fSeq (fSet 3 (f2 gAdd (fVar 3) (fC (.int 1)))) fNext) (mk := mk) (p := p) (lo := a + 1) (n := l.length) hcnd (fun e _ _ => z_nx (z_set (z_2 (v3 e) rfl (gAdd_nat e))) rfl) (fun e _ h => by
        by_cases h3 : e < l.length
        · exact h3
        · have : p e = false := by
            show (match l[e]? with | some d => okW d && !(d == 95 && l[e - 1]? == some 95) | none => false) = _
            rw [List.getElem?_eq_none (by omega)]
          rw [this] at h; cases h) (WNt (mk (a + 1))) (a + 1) (Nat.le_refl _) hlt (by show _ < (tx l).length + 2; rw [tx_len]; omega)
      -- what the other reader does on these signs
      have hword : ∀ k d, a + 1 ≤ k → l[k]? = some d → goesOn (sub l a k) d = p k := fun k d hk hd => by
        obtain ⟨r, hr, _⟩ := sub_cons (show a < k by omega) hc
        obtain ⟨d1, hd1⟩ := get_of_lt (show k - 1 < l.length by have := lt_of_get hd; omega)
        have hla : (sub l a k).getLast? = some d1 := by
          have := sub_last (l := l) (a := a) (b := k - 1) (by omega) hd1
          rwa [show k - 1 + 1 = k by omega] at this
        rw [hr] at hla
        rw [hr, goesOn_word hb2 hla]
        show _ = (match l[k]? with | some d => okW d && !(d == 95 && l[k - 1]? == some 95) | none => false)
        rw [hd, hd1]
        simp
      have hf0 : goesOn [] c = true := by
        unfold goesOn
        rw [mem_first]
        cases h1 : isLow c with
        | true => rfl
        | false =>
          rw [h1] at hb2
          have : c = 63 := by simpa using hb2
          subst this
          rfl
      have acc : Acc l a e' := fun k h1 h2 => by
        by_cases hk : k = a
        · subst hk; exact ⟨c, hc, by rw [sub_self]; exact hf0⟩
        · obtain ⟨d, hd⟩ := get_of_lt (show k < l.length by omega)
          exact ⟨d, hd, by rw [hword k d (by omega) hd]; exact g3 k (by omega) h2⟩
      obtain ⟨dl, hdl⟩ := get_of_lt (show e' - 1 < l.length by omega)
      have hlast : (sub l a e').getLast? = some dl := by
        have := sub_last (l := l) (a := a) (b := e' - 1) (by omega) hdl
        rwa [show e' - 1 + 1 = e' by omega] at this
      have hcons : ∃ r, sub l a e' = c :: r := by
        obtain ⟨r, hr, _⟩ := sub_cons (show a < e' by omega) hc
        exact ⟨r, hr⟩
      obtain ⟨r, hr⟩ := hcons
      have hstop : stopW (sub l a e') = (dl == 95) := by
        unfold stopW
        rw [hlast, hr]
        have : ((c :: r) == [45]) = false := by
          rw [beq_eq_false_iff_ne]
          intro z
          cases z
          revert hb2
          decide
        rw [this]
        simp
      have hend : f2T gEq (f2 gIx (fVar 0) (f2 gSub (fVar 3) (fC (.int 1)))) (fC (.str "_")) (mk e') = some (dl == 95) := z_2T (hprev e' dl (by omega) hdl) rfl (gEq_one dl 95)
      have main : ∀ G : Ev → Option Out, ∀ r, G (mk e') = some (.rt r) → fSeq (fSet 3 (f2 gAdd (fVar 1) (fC (.int 1)))) (fSeq (fun ev => whileN (fAnd (f2T gLt (fVar 3) (fCall gLen (fCons (fVar 0) fNil))) (fAnd (f2T gInD (f2 gIx (fVar 0) (fVar 3)) (fC (.str "abcdefghijklmnopqrstuvwxyz0123456789@?_"))) (fNot (fAnd (f2T gEq (f2 gIx (fVar 0) (fVar 3)) (fC (.str "_"))) (f2T gEq (f2 gIx (fVar 0) (f2 gSub (fVar 3) (fC (.int 1)))) (fC (.str "_"))))))) (fSeq (fSet 3 (f2 gAdd (fVar 3) (fC (.int 1)))) fNext) (WNt ev) ev) G) [some (.str (tx l)), some (.int (a : Nat)), some (.str (one c)), none, none] = some (.rt r) := fun G r hG =>
        z_nx (ev' := mk (a + 1)) (z_set (z_2 rfl rfl (gAdd_nat a))) (z_nx (ev' := mk e') g5 hG)
      cases hd95 : (dl == 95) with
      | true =>
        rw [hd95] at hend hstop
        by_cases he : e' = l.length
        · refine ⟨.opn e', z_nx step1 (z_nx (z_ifF t1 rfl) (z_rt (z_ifT t2 (main _ _ (z_rt (z_ifT hend (z_rt (z_ret (z_lst (z_cons (z_ifET (z_2T (v3 e') (len_at (v0 e') L) (by rw [gEq_nat, he]; simp)) rfl) (z_cons (v3 e') (z_cons rfl rfl))) (by show 3 ≤ sizeLine; decide)))))))))), ?_⟩
          exact ⟨by omega, he, acc, hstop⟩
        · refine ⟨.bad e', z_nx step1 (z_nx (z_ifF t1 rfl) (z_rt (z_ifT t2 (main _ _ (z_rt (z_ifT hend (z_rt (z_ret (z_lst (z_cons (z_ifEF (z_2T (v3 e') (len_at (v0 e') L) (by rw [gEq_nat, beq_eq_false_iff_ne.mpr he])) rfl) (z_cons (v3 e') (z_cons rfl rfl))) (by show 3 ≤ sizeLine; decide)))))))))), ?_⟩
          obtain ⟨d, hd⟩ := get_of_lt (show e' < l.length by omega)
          exact ⟨by omega, acc, hstop, d, hd, by rw [hword e' d (by omega) hd]; exact g4⟩
      | false =>
        rw [hd95] at hend hstop
        have hn : c ∉ numS.cps.toList := fun h => by
          have := decide_eq_true h
          rw [mem_num] at this
          unfold isDig at this
          unfold isLow at hb2
          simp at this hb2
          omega
        have hrep : gRepl "_" " " (.str (tx (sub l a e'))) = some (.str (Txt.replace (tx (sub l a e')) "_" " ")) := by
          show (if (tx (sub l a e')).length + ((tx (sub l a e')).length + 1) * 1 ≤ 16777216 then _ else none) = _
          rw [tx_len, sub_len g2, if_pos (by omega)]
        have h3 : ¬ (c :: r) = [33] ∧ ¬ (c :: r) = [46] ∧ ¬ (c :: r) = [126] := by
          refine ⟨?_, ?_, ?_⟩ <;> (intro z; cases z; revert hb2; decide)
        refine ⟨.good e' (.str (Txt.replace (tx (sub l a e')) "_" " ")), z_nx step1 (z_nx (z_ifF t1 rfl) (z_rt (z_ifT t2 (main _ _ (z_nx (z_ifF hend rfl) (z_rt (z_ret (z_lst (z_cons rfl (z_cons (v3 e') (z_cons ?_ rfl))) (by show 3 ≤ sizeLine; decide))))))))), ?_⟩
        · have hs : fSl (fVar 0) (fO (fVar 1)) (fO (fVar 3)) (mk e') = some (.str (tx (sub l a e'))) := gSl_sub (by omega) g2 L
          unfold fRepl
          rw [hs]
          exact hrep
        · refine ⟨by omega, g2, acc, hstop, ?_, rfl, fun d hd => by rw [hword e' d (by omega) hd]; exact g4⟩
          have hval := valM_oth (r := r) hn
          rw [if_neg h3.1, if_neg h3.2.1, if_neg h3.2.2, ← hr] at hval
          rw [hval]
          exact hrep
    | false =>
      rw [hb2] at t2
      have hlow : isLow c = false := by cases h : isLow c with | false => rfl | true => rw [h] at hb2; cases hb2
      have h63 : (c == 63) = false := by cases h : (c == 63) with | false => rfl | true => rw [h, Bool.or_true] at hb2; cases hb2
      have hf0 : goesOn [] c = (isDig c || c == 45) := by
        unfold goesOn
        rw [mem_first, hlow, h63]
        cases h45 : (c == 45) with
        | true => simp
        | false =>
          have : (c == 33 || (c == 46 || c == 126)) = false := hb1
          simp only [Bool.false_or, this, Bool.or_false]
      -- from the sign at which the digits start
      have nums : ∀ s : Nat, (s = a ∧ c ≠ 45) ∨ (s = a + 1 ∧ c = 45) → ∃ r, (fSeq (fIfS (f2T gEq (fVar 4) (fCall gLen (fCons (fVar 0) fNil))) (fSeq (fRet (fLst (fCons (fC (.str "open")) (fCons (fVar 4) (fCons (fC .none) fNil))))) fNext) fNext) (fSeq (fIfS (fOr (f2T gNiD (f2 gIx (fVar 0) (fVar 4)) (fC (.str "0123456789"))) (fAnd (f2T gEq (fVar 2) (fC (.str "-"))) (f2T gEq (f2 gIx (fVar 0) (fVar 4)) (fC (.str "0"))))) (fSeq (fRet (fLst (fCons (fC (.str "bad")) (fCons (fVar 4) (fCons (fC .none) fNil))))) fNext) fNext) (fSeq (fSet 3 (f2 gAdd (fVar 4) (fC (.int 1)))) (fSeq (fun ev => whileN (fAnd (f2T gLt (fVar 3) (fCall gLen (fCons (fVar 0) fNil))) (fAnd (f2T gInD (f2 gIx (fVar 0) (fVar 3)) (fC (.str "0123456789"))) (f2T gNe (f2 gIx (fVar 0) (fVar 4)) (fC (.str "0"))))) (fSeq (fSet 3 (f2 gAdd (fVar 3) (fC (.int 1)))) fNext) (WNt ev) ev) (fSeq (fRet (fLst (fCons (fC (.str "good")) (fCons (fVar 3) (fCons (fCall gInt (fCons (fSl (fVar 0) (fO (fVar 1)) (fO (fVar 3))) fNil)) fNil))))) fNext))))) [some (.str (tx l)), some (.int (a : Nat)), some (.str (one c)), none, some (.int (s : Nat))] = some (.rt (prD r)) ∧ TokRel l a r := by
        intro s hs
        have v0 : fVar 0 [some (PyData.str (tx l)), some (.int (a : Nat)), some (.str (one c)), none, some (.int (s : Nat))] = some (.str (tx l)) := rfl
        have v2 : fVar 2 [some (PyData.str (tx l)), some (.int (a : Nat)), some (.str (one c)), none, some (.int (s : Nat))] = some (.str (one c)) := rfl
        have v4 : fVar 4 [some (PyData.str (tx l)), some (.int (a : Nat)), some (.str (one c)), none, some (.int (s : Nat))] = some (.int (s : Nat)) := rfl
        have t3 := z_2T v4 (len_at v0 L) (gEq_nat s l.length)
        have a45 : c = 45 → Acc l a (a + 1) := fun h => acc1 (by rw [hf0, h]; rfl)
        by_cases he : s = l.length
        · -- all is read
          rw [beq_iff_eq.mpr he] at t3
          have hs2 : s = a + 1 ∧ c = 45 := by rcases hs with h | h; omega; exact h
          refine ⟨.opn s, z_rt (z_ifT t3 (z_rt (z_ret (z_lst (z_cons rfl (z_cons v4 (z_cons rfl rfl))) (by show 3 ≤ sizeLine; decide))))), ?_⟩
          rw [hs2.1] at he ⊢
          exact ⟨Nat.lt_succ_self a, he, a45 hs2.2, by rw [sub1, hs2.2]; rfl⟩
        rw [beq_eq_false_iff_ne.mpr he] at t3
        have hsl : s < l.length := by rcases hs with h | h <;> omega
        obtain ⟨d, hd⟩ := get_of_lt hsl
        have hix := z_2 v0 v4 (ix_at L hd)
        have t4a : f2T gNiD (f2 gIx (fVar 0) (fVar 4)) (fC (.str "0123456789")) [some (PyData.str (tx l)), some (.int (a : Nat)), some (.str (one c)), none, some (.int (s : Nat))] = some (!isDig d) := z_2T hix rfl (by
          show (gInD (.str (one d)) (.str "0123456789")).map (! ·) = _
          rw [in_one, mem_dig]
          rfl)
        have t4b : fAnd (f2T gEq (fVar 2) (fC (.str "-"))) (f2T gEq (f2 gIx (fVar 0) (fVar 4)) (fC (.str "0"))) [some (PyData.str (tx l)), some (.int (a : Nat)), some (.str (one c)), none, some (.int (s : Nat))] = some ((c == 45) && (d == 48)) :=
          z_and (z_2T v2 rfl (gEq_one c 45)) fun _ => z_2T hix rfl (gEq_one d 48)
        have t4 := z_or t4a t4b
        cases hbad : (!isDig d || (c == 45 && d == 48)) with
        | true =>
          rw [hbad] at t4
          refine ⟨.bad s, z_nx (z_ifF t3 rfl) (z_rt (z_ifT t4 (z_rt (z_ret (z_lst (z_cons rfl (z_cons v4 (z_cons rfl rfl))) (by show 3 ≤ sizeLine; decide)))))), ?_⟩
          rcases hs with ⟨rfl, h45⟩ | ⟨rfl, h45⟩
          · rw [hc] at hd
            cases hd
            refine ⟨Nat.le_refl _, fun k h1 h2 => absurd h2 (by omega), by rw [sub_self]; rfl, c, hc, ?_⟩
            rw [sub_self, hf0, beq_eq_false_iff_ne.mpr h45]
            rw [beq_eq_false_iff_ne.mpr h45] at hbad
            cases hx : isDig c with
            | false => rfl
            | true => rw [hx] at hbad; cases hbad
          · refine ⟨Nat.le_succ a, a45 h45, by rw [sub1, h45]; rfl, d, hd, ?_⟩
            rw [sub1, h45, goesOn_num (by decide)]
            rw [h45] at hbad
            cases hx : isDig d with
            | false => rfl
            | true =>
              rw [hx] at hbad
              have : (d == 48) = true := by simpa using hbad
              rw [this]
              rfl
        | false =>
          rw [hbad] at t4
          have hdig : isDig d = true := by cases hx : isDig d with | true => rfl | false => rw [hx] at hbad; cases hbad
          have h48 : c = 45 → d ≠ 48 := fun h z => by rw [h, z] at hbad; simp at hbad
          let mk : Nat → Ev := fun e => [some (.str (tx l)), some (.int (a : Nat)), some (.str (one c)), some (.int (e : Nat)), some (.int (s : Nat))]
          let p : Nat → Bool := fun e => match l[e]? with | some x => isDig x && !(d == 48) | none => false
          have w0 : ∀ e, fVar 0 (mk e) = some (.str (tx l)) := fun _ => rfl
          have w3 : ∀ e, fVar 3 (mk e) = some (.int (e : Nat)) := fun _ => rfl
          have w4 : ∀ e, fVar 4 (mk e) = some (.int (s : Nat)) := fun _ => rfl
          have hcnd : ∀ e, s + 1 ≤ e → e ≤ l.length → (fAnd (f2T gLt (fVar 3) (fCall gLen (fCons (fVar 0) fNil))) (fAnd (f2T gInD (f2 gIx (fVar 0) (fVar 3)) (fC (.str "0123456789"))) (f2T gNe (f2 gIx (fVar 0) (fVar 4)) (fC (.str "0"))))) (mk e) = some (p e) := by
            intro e h1 h2
            have hlen : f2T gLt (fVar 3) (fCall gLen (fCons (fVar 0) fNil)) (mk e) = some (decide (e < l.length)) := z_2T (w3 e) (len_at (w0 e) L) (gLt_nat _ _)
            by_cases h3 : e < l.length
            · rw [decide_eq_true h3] at hlen
              obtain ⟨x, hx⟩ := get_of_lt h3
              have hpe : p e = (isDig x && !(d == 48)) := by
                show (match l[e]? with | some x => isDig x && !(d == 48) | none => false) = _
                rw [hx]
              rw [hpe]
              refine z_andT hlen (z_and (z_2T (z_2 (w0 e) (w3 e) (ix_at L hx)) rfl (by rw [in_one, mem_dig])) fun _ => z_2T (z_2 (w0 e) (w4 e) (ix_at L hd)) rfl ?_)
              show some (!(one d == one 48)) = _
              rw [one_beq]
            · rw [decide_eq_false h3] at hlen
              have hpe : p e = false := by
                show (match l[e]? with | some x => isDig x && !(d == 48) | none => false) = _
                rw [List.getElem?_eq_none (by omega)]
              rw [hpe]
              exact z_andF hlen
          obtain ⟨e', g1, g2, g3, g4, g5⟩ := scan_while (F := fSeq (fSet 3 (f2 gAdd (fVar 3) (fC (.int 1)))) fNext) (mk := mk) (p := p) (lo := s + 1) (n := l.length) hcnd (fun e _ _ => z_nx (z_set (z_2 (w3 e) rfl (gAdd_nat e))) rfl) (fun e _ h => by
            by_cases h3 : e < l.length
            · exact h3
            · have : p e = false := by
                show (match l[e]? with | some x => isDig x && !(d == 48) | none => false) = _
                rw [List.getElem?_eq_none (by omega)]
              rw [this] at h; cases h) (WNt (mk (s + 1))) (s + 1) (Nat.le_refl _) hsl (by show _ < (tx l).length + 2; rw [tx_len]; omega)
          have hpx : ∀ k x, l[k]? = some x → p k = (isDig x && !(d == 48)) := fun k x hx => by
            show (match l[k]? with | some x => isDig x && !(d == 48) | none => false) = _
            rw [hx]
          have hcn2 : (isDig c || c == 45) = true := by
            rcases hs with ⟨rfl, h45⟩ | ⟨rfl, h45⟩
            · rw [hc] at hd; cases hd; rw [hdig]; rfl
            · rw [h45]; rfl
          have hcn : c ∈ numS.cps.toList := of_decide_eq_true (by rw [mem_num]; exact hcn2)
          -- the other reader on the digits behind the first
          have hword : ∀ k x, s + 1 ≤ k → k ≤ e' → l[k]? = some x → goesOn (sub l a k) x = p k := fun k x hk hke hx => by
            have hak : a + 1 ≤ k := by rcases hs with h | h <;> omega
            obtain ⟨r, hr, hr2⟩ := sub_cons (show a < k by omega) hc
            have hkl := lt_of_get hx
            have hlen : (c :: r).length = k - a := by rw [← hr]; exact sub_len (by omega)
            rw [hr, goesOn_num hcn, hpx k x hx]
            have e45 : ((c :: r) == [45]) = false := by
              rw [beq_eq_false_iff_ne]
              intro z
              rcases hs with ⟨h1, h45⟩ | ⟨h1, h45⟩
              · cases z; exact h45 rfl
              · rw [z] at hlen; simp at hlen; omega
            have e48 : ((c :: r) == [48]) = (d == 48 && decide (k = s + 1) && decide (s = a)) := by
              rcases hs with ⟨rfl, h45⟩ | ⟨rfl, h45⟩
              · rw [hc] at hd
                cases hd
                by_cases h1 : c = 48
                · by_cases h2 : k = s + 1
                  · have : r = [] := by
                      rw [h2, List.length_cons] at hlen
                      exact List.length_eq_zero_iff.mp (by omega)
                    rw [this, h1, h2]
                    simp
                  · have : ((c :: r) == [48]) = false := by
                      rw [beq_eq_false_iff_ne]
                      intro z
                      rw [z] at hlen
                      simp at hlen
                      omega
                    rw [this]
                    simp [h2]
                · have : ((c :: r) == [48]) = false := by
                    rw [beq_eq_false_iff_ne]
                    intro z
                    cases z
                    exact h1 rfl
                  rw [this]
                  simp [h1]
              · have : ((c :: r) == [48]) = false := by
                  rw [beq_eq_false_iff_ne]
                  intro z
                  cases z
                  cases h45
                rw [this]
                simp
            rw [e45, e48]
            by_cases hd48 : d = 48
            · have hsa : s = a := by
                rcases hs with h | h
                · exact h.1
                · exact absurd hd48 (h48 h.2)
              have hk1 : k = s + 1 := by
                by_cases h1 : s + 1 < e'
                · have := g3 (s + 1) (Nat.le_refl _) h1
                  obtain ⟨x', hx'⟩ := get_of_lt (show s + 1 < l.length by omega)
                  rw [hpx _ _ hx', hd48] at this
                  simp at this
                · omega
              rw [hd48, hk1, hsa]
              simp
            · rw [beq_eq_false_iff_ne.mpr hd48]
              simp
          have acc : Acc l a e' := fun k h1 h2 => by
            by_cases hk : k = a
            · subst hk
              refine ⟨c, hc, ?_⟩
              rw [sub_self, hf0]
              exact hcn2
            · by_cases hk2 : k = s
              · subst hk2
                rcases hs with h | ⟨h, h45⟩
                · exact absurd h.1 hk
                · subst h
                  refine ⟨d, hd, ?_⟩
                  rw [sub1, h45, goesOn_num (by decide), hdig, beq_eq_false_iff_ne.mpr (h48 h45)]
                  rfl
              · obtain ⟨x, hx⟩ := get_of_lt (show k < l.length by omega)
                exact ⟨x, hx, by rw [hword k x (by rcases hs with h | h <;> omega) (by omega) hx]; exact g3 k (by rcases hs with h | h <;> omega) h2⟩
          obtain ⟨r, hr, hr2⟩ := sub_cons (show a < e' by rcases hs with h | h <;> omega) hc
          -- its digits
          have digs : ∀ k, s ≤ k → k < e' → ∃ x, l[k]? = some x ∧ isDig x = true := fun k h1 h2 => by
            by_cases hk : k = s
            · rw [hk]; exact ⟨d, hd, hdig⟩
            · obtain ⟨x, hx⟩ := get_of_lt (show k < l.length by omega)
              have := g3 k (by omega) h2
              rw [hpx k x hx] at this
              exact ⟨x, hx, by cases hq : isDig x with | true => rfl | false => rw [hq] at this; cases this⟩
          have hrun := dr s e' (by omega) g2 digs
          have allD : PySem.NumText.AllDigits (sub l s e') := fun x hx => by
            obtain ⟨k, hk⟩ := List.mem_iff_getElem?.mp hx
            have hk1 : k < e' - s := by
              have := lt_of_get hk
              rwa [sub_len g2] at this
            unfold sub at hk
            rw [List.getElem?_take_of_lt hk1, List.getElem?_drop] at hk
            obtain ⟨y, hy, hdy⟩ := digs (s + k) (by omega) (by omega)
            rw [hk] at hy
            cases hy
            unfold isDig at hdy
            simpa using hdy
          have hsne : sub l s e' ≠ [] := fun z => by
            have := sub_len (l := l) (a := s) (b := e') g2
            rw [z] at this
            simp at this
            omega
          have hlen2 : (tx (sub l a e')).length = e' - a := by rw [tx_len, sub_len g2]
          obtain ⟨n, hn⟩ : ∃ n, PySem.intText? (tx (sub l a e')) = some n := by
            rcases hs with ⟨h, h45⟩ | ⟨h, h45⟩
            · rw [h] at allD hsne
              exact ⟨_, PySem.intText_digits allD hsne (by rw [hlen2]; omega)⟩
            · refine ⟨_, PySem.intText_neg (cs := sub l s e') ?_ allD hsne (by rw [hlen2]; omega)⟩
              show sub l a e' = _
              rw [hr, hr2, h45, h]
          have hint : gInt [.str (tx (sub l a e'))] = some (.int n) := by
            show (if (tx (sub l a e')).length ≤ 640 then (PySem.intText? (tx (sub l a e'))).map PyData.int else none) = _
            rw [hlen2, if_pos (by omega), hn]
            rfl
          refine ⟨.good e' (.int n), z_nx (z_ifF t3 rfl) (z_nx (z_ifF t4 rfl) (z_nx (ev' := mk (s + 1)) (z_set (z_2 v4 rfl (gAdd_nat s))) (z_nx (ev' := mk e') g5 (z_rt (z_ret (z_lst (z_cons rfl (z_cons (w3 e') (z_cons (z_call (z_cons (gSl_sub (by omega) g2 L) rfl) hint) rfl))) (by show 3 ≤ sizeLine; decide))))))), ?_⟩
          refine ⟨by omega, g2, acc, ?_, ?_, rfl, fun x hx => by rw [hword e' x (by omega) (Nat.le_refl _) hx]; exact g4⟩
          · unfold stopW
            have hl0 : ∃ y, (sub l a e').getLast? = some y ∧ isDig y = true := by
              obtain ⟨y, hy, hdy⟩ := digs (e' - 1) (by omega) (by omega)
              have := sub_last (l := l) (a := a) (b := e' - 1) (by omega) hy
              rw [show e' - 1 + 1 = e' by omega] at this
              exact ⟨y, this, hdy⟩
            obtain ⟨y, hy, hdy⟩ := hl0
            rw [hy, hr]
            have e1 : ((c :: r) == []) = false := rfl
            have e2 : ((c :: r) == [45]) = false := by
              rw [beq_eq_false_iff_ne]
              intro z
              rw [hr, z] at hy
              cases hy
              revert hdy
              decide
            have e3 : (some y == some 95) = false := by
              rw [beq_eq_false_iff_ne]
              intro z
              cases z
              revert hdy
              decide
            rw [e1, e2, e3]
            rfl
          · rw [hr, valM_num hcn, ← hr]
            exact hint
      have v1 : fVar 1 [some (PyData.str (tx l)), some (.int (a : Nat)), some (.str (one c)), none, none] = some (.int (a : Nat)) := rfl
      have t5 : f2T gEq (fVar 2) (fC (.str "-")) [some (.str (tx l)), some (.int (a : Nat)), some (.str (one c)), none, none] = some (c == 45) := z_2T rfl rfl (gEq_one c 45)
      cases h45 : (c == 45) with
      | true =>
        rw [h45] at t5
        obtain ⟨r, h1, h2⟩ := nums (a + 1) (.inr ⟨rfl, by simpa using h45⟩)
        exact ⟨r, z_nx step1 (z_nx (z_ifF t1 rfl) (z_nx (z_ifF t2 rfl) (z_nx (z_set (z_ifET t5 (z_2 v1 rfl (gAdd_nat a)))) h1))), h2⟩
      | false =>
        rw [h45] at t5
        obtain ⟨r, h1, h2⟩ := nums a (.inl ⟨rfl, by simpa using h45⟩)
        exact ⟨r, z_nx step1 (z_nx (z_ifF t1 rfl) (z_nx (z_ifF t2 rfl) (z_nx (z_set (z_ifEF t5 v1)) h1))), h2⟩
end K88

set_option Elab.async false
set_option linter.all false
set_option maxRecDepth 100000
set_option maxHeartbeats 4000000
/-! The two readers beside one another. -/
namespace K88
open PySem PySem.Spec PyProof.Rows L2 Pu
/-! ### the sign-by-sign reader's runs -/
def op (c : Nat) : Int := if c = 40 ∨ c = 91 then 1 else if c = 41 ∨ c = 93 then -1 else 0
def bal (l : List Nat) (k : Nat) : Int := ((l.take k).map op).sum
theorem bal_succ {l : List Nat} {k c : Nat} (h : l[k]? = some c) : bal l (k + 1) = bal l k + op c := by
  unfold bal
  rw [List.take_add_one, h, List.map_append, List.sum_append]
  simp
def Goes (C : Addr) (l : List Nat) (rs : RS) (a : Nat) (rs' : RS) (b : Nat) : Prop := runT C (toSt rs) a (l.drop a) = runT C (toSt rs') b (l.drop b)
def Stops (C : Addr) (l : List Nat) (rs : RS) (a i : Nat) : Prop := runT C (toSt rs) a (l.drop a) = some (.inl i)
theorem drop_get {l : List Nat} {k c : Nat} (h : l[k]? = some c) : l.drop k = c :: l.drop (k + 1) := by
  obtain ⟨h1, h2⟩ := List.getElem?_eq_some_iff.mp h
  rw [List.drop_eq_getElem_cons h1, h2]
section
variable {C : Addr} {l : List Nat} {rs rs1 rs2 : RS} {a b e c i : Nat}
theorem Goes.trans (h : Goes C l rs a rs1 b) (k : Goes C l rs1 b rs2 e) : Goes C l rs a rs2 e := Eq.trans h k
theorem Goes.stop (h : Goes C l rs a rs1 b) (k : Stops C l rs1 b i) : Stops C l rs a i := Eq.trans h k
theorem go1 (hl : l.length ≤ 500000) (R : RI rs a) (vd : c = 32 ∨ c = 41 ∨ c = 93 → VD rs) (hc : l[a]? = some c) {r : RS} (h : rStep rs c = some r) : Goes C l rs a r (a + 1) := by
  have hlt := lt_of_get hc
  obtain ⟨st', h1, h2⟩ := rStep_is (C := C) R (by omega) c vd
  unfold Goes
  rw [drop_get hc]
  show (takesF C (toSt rs) c).bind _ = _
  rw [h1, h, Option.bind_some, h2 r h]
  rfl
theorem stop1 (hl : l.length ≤ 500000) (R : RI rs a) (vd : c = 32 ∨ c = 41 ∨ c = 93 → VD rs) (hc : l[a]? = some c) (h : rStep rs c = none) : Stops C l rs a a := by
  have hlt := lt_of_get hc
  obtain ⟨st', h1, h2⟩ := rStep_is (C := C) R (by omega) c vd
  unfold Stops
  rw [drop_get hc]
  show (takesF C (toSt rs) c).bind _ = _
  rw [h1, h, Option.bind_some]
  rfl
/-- ready for a thing -/
structure Rdy (rs : RS) (m : Nat) : Prop where
  ri : RI rs m
  wd : rs.word = []
  en : rs.ended = false
theorem step_word {w : List Nat} (he : rs.ended = false) (hw : rs.word = w) (hg : goesOn w c = true) : rStep rs c = some { rs with word := w ++ [c] } := by
  obtain ⟨h1, h2, h3, h4, h5⟩ := goesOn_ok hg
  unfold rStep
  rw [if_neg (by omega), if_neg h1, he, if_neg Bool.false_ne_true, if_neg (by omega), hw, if_pos hg]
/-- the signs of a word are taken -/
theorem acc_goes (hl : l.length ≤ 500000) (R : Rdy rs a) (hb : b ≤ l.length) (h : Acc l a b) : ∀ n, a + n ≤ b → Goes C l rs a { rs with word := sub l a (a + n) } (a + n) ∧ RI { rs with word := sub l a (a + n) } (a + n)
  | 0, _ => by
    have e : ({ rs with word := sub l a (a + 0) } : RS) = rs := by
      rw [Nat.add_zero, sub_self, ← R.wd]
    rw [e]
    exact ⟨rfl, R.ri⟩
  | n + 1, hn => by
    obtain ⟨g, I⟩ := acc_goes hl R hb h n (by omega)
    obtain ⟨c, hc, hg⟩ := h (a + n) (by omega) (by omega)
    have hs := step_word (rs := { rs with word := sub l a (a + n) }) (c := c) R.en rfl hg
    have e : sub l a (a + n) ++ [c] = sub l a (a + (n + 1)) := (sub_snoc (by omega) hc).symm
    rw [e] at hs
    obtain ⟨h1, h2, h3, h4, h5⟩ := goesOn_ok hg
    refine ⟨g.trans (go1 hl I (fun z => by omega) hc hs), ?_⟩
    have hlt := lt_of_get hc
    refine ⟨I.len, Nat.le_succ_of_le I.sg, I.sb, ?_, fun ds hd => ⟨Nat.le_succ_of_le (I.ld ds hd).1, (I.ld ds hd).2⟩, fun z => ?_⟩
    · show (sub l a (a + (n + 1))).length ≤ _
      rw [sub_len (by omega)]
      omega
    · rw [R.en] at z; cases z
theorem acc_bal (h : Acc l a b) : ∀ {b' : Nat}, a ≤ b' → b' ≤ b → bal l b' = bal l a := by
  intro b' h1 h2
  obtain ⟨n, rfl⟩ : ∃ n, b' = a + n := ⟨b' - a, by omega⟩
  induction n with
  | zero => rfl
  | succ n ih =>
    obtain ⟨c, hc, hg⟩ := h (a + n) (by omega) (by omega)
    obtain ⟨g1, g2, g3, g4, g5⟩ := goesOn_ok hg
    rw [show a + (n + 1) = a + n + 1 by omega, bal_succ hc, ih (by omega) (by omega)]
    unfold op
    rw [if_neg (by omega), if_neg (by omega), Int.add_zero]
/-- a thing is complete at e: its list is shut, or its word stands -/
structure Cpl (l : List Nat) (rs rs' : RS) (v : PyData) (e : Nat) : Prop where
  ri : RI rs' e
  sg : rs'.signs = rs.signs
  vp : v.plain = true
  wh : (rs'.ended = true ∧ rs'.word = [] ∧ ∃ ds dss, rs.lots = ds :: dss ∧ rs'.lots = (ds ++ [v]) :: dss) ∨
    (rs'.ended = false ∧ rs'.lots = rs.lots ∧ rs'.word ≠ [] ∧ stopW rs'.word = false ∧ valM rs'.word = some v ∧ flatD v = true ∧ ∀ c, l[e]? = some c → goesOn rs'.word c = false)
def Rel (C : Addr) (l : List Nat) (rs : RS) (a : Nat) : PR → Prop
  | .good e v => a < e ∧ e ≤ l.length ∧ bal l e = bal l a ∧ ∃ rs', Goes C l rs a rs' e ∧ Cpl l rs rs' v e
  | .opn e => e = l.length ∧ ∃ rs', Goes C l rs a rs' e ∧ RI rs' e ∧ VD rs' ∧ (rs'.signs ≠ [] ∨ (rs'.signs = rs.signs ∧ rs'.ended = false ∧ stopW rs'.word = true))
  | .bad e => Stops C l rs a e
/-- a sign that is not taken -/
theorem stop_word {w : List Nat} (he : rs.ended = false) (hw : rs.word = w) (hs : stopW w = true) (hg : goesOn w c = false) (hb : w = [] → (c ≠ 40 ∧ c ≠ 91)) (hm : (c = 41 ∨ c = 93) → w = [] → ∀ dss, rs.lots = [] :: dss → ∀ z zs, rs.signs = z :: zs → z ≠ (if c = 41 then 40 else 91)) : rStep rs c = none := by
  have hE : rEnds rs = none := by
    unfold rEnds
    rw [he, if_neg Bool.false_ne_true, hw, if_pos hs]
  unfold rStep
  by_cases h1 : c = 41 ∨ c = 93
  · rw [if_pos h1]
    unfold rShut
    split
    · rename_i ds dss z zs hl hsg
      by_cases hz : z = (if c = 41 then 40 else 91)
      · rw [if_pos hz]
        cases hbare : (rs.word == [] && !rs.ended && ds.isEmpty) with
        | true =>
          exfalso
          rw [Bool.and_eq_true, Bool.and_eq_true] at hbare
          have hw0 : w = [] := by rw [← hw]; simpa using hbare.1.1
          have hd0 : ds = [] := by simpa using hbare.2
          rw [hd0] at hl
          exact hm h1 hw0 dss hl z zs hsg hz
        | false =>
          rw [if_neg Bool.false_ne_true, hE]
          rfl
      · rw [if_neg hz]
    · rfl
  · rw [if_neg h1]
    by_cases h2 : c = 32
    · rw [if_pos h2, hE]
      split <;> rfl
    · rw [if_neg h2, he, if_neg Bool.false_ne_true]
      have h3 : ¬ (rs.word = [] ∧ (c = 40 ∨ c = 91)) := fun z => by
        have := hb (by rw [← hw]; exact z.1)
        omega
      rw [if_neg h3, hw, hg, if_neg Bool.false_ne_true]
/-- a token beside the reader -/
theorem tok_rel (hl : l.length ≤ 500000) (R : Rdy rs a) (hc : l[a]? = some c) (h40 : c ≠ 40) (h91 : c ≠ 91) (hm : (c = 41 ∨ c = 93) → ∀ dss, rs.lots = [] :: dss → ∀ z zs, rs.signs = z :: zs → z ≠ (if c = 41 then 40 else 91)) : ∀ {r : PR}, TokRel l a r → Rel C l rs a r
  | .good e v, ⟨h1, h2, h3, h4, h5, h6, h7⟩ => by
    obtain ⟨g, I⟩ := acc_goes (C := C) hl R h2 h3 (e - a) (by omega)
    rw [show a + (e - a) = e by omega] at g I
    refine ⟨h1, h2, acc_bal h3 (Nat.le_of_lt h1) (Nat.le_refl _), _, g, ⟨I, rfl, flat_plain h6, .inr ⟨R.en, rfl, ?_, h4, h5, h6, h7⟩⟩⟩
    intro z
    have z : sub l a e = [] := z
    rw [z] at h4
    cases h4
  | .opn e, ⟨h1, h2, h3, h4⟩ => by
    obtain ⟨g, I⟩ := acc_goes (C := C) hl R (Nat.le_of_eq h2) h3 (e - a) (by omega)
    rw [show a + (e - a) = e by omega] at g I
    exact ⟨h2, _, g, I, (fun z => by have z : stopW (sub l a e) = false := z; rw [h4] at z; cases z), .inr ⟨rfl, R.en, h4⟩⟩
  | .bad e, ⟨h1, h3, h4, d, hd, h5⟩ => by
    obtain ⟨g, I⟩ := acc_goes (C := C) hl R (Nat.le_of_lt (lt_of_get hd)) h3 (e - a) (by omega)
    rw [show a + (e - a) = e by omega] at g I
    refine g.stop (stop1 hl I (fun _ z => by have z : stopW (sub l a e) = false := z; rw [h4] at z; cases z) hd ?_)
    refine stop_word R.en rfl h4 h5 (fun z => ?_) (fun hcl z dss hlots z' zs hsg => ?_)
    · have hea : e = a := by
        by_cases h : a < e
        · obtain ⟨r, hr, _⟩ := sub_cons h hc
          rw [hr] at z; cases z
        · omega
      subst hea
      rw [hc] at hd
      cases hd
      exact ⟨h40, h91⟩
    · have hea : e = a := by
        by_cases h : a < e
        · obtain ⟨r, hr, _⟩ := sub_cons h hc
          rw [hr] at z; cases z
        · omega
      subst hea
      rw [hc] at hd
      cases hd
      exact hm hcl dss hlots z' zs hsg
end
/-! ### sizes -/
mutual
def small : PyData → Bool
  | .list xs => decide (xs.length ≤ 1000000) && smallAll xs
  | .tuple xs => decide (xs.length ≤ 1000000) && smallAll xs
  | _ => true
def smallAll : List PyData → Bool
  | [] => true
  | x :: xs => small x && smallAll xs
end
def Sz (n : Nat) (v : PyData) : Prop := v.depth ≤ n ∧ small v = true
def SzA (n : Nat) (vs : List PyData) : Prop := PyData.depthAll vs ≤ n ∧ smallAll vs = true
theorem depthAll_app : ∀ xs ys : List PyData, PyData.depthAll (xs ++ ys) = max (PyData.depthAll xs) (PyData.depthAll ys)
  | [], ys => by rw [List.nil_append, PyData.depthAll, Nat.zero_max]
  | x :: xs, ys => by rw [List.cons_append, PyData.depthAll, PyData.depthAll, depthAll_app xs ys, Nat.max_assoc]
theorem smallAll_app : ∀ xs ys : List PyData, smallAll (xs ++ ys) = (smallAll xs && smallAll ys)
  | [], ys => by rw [List.nil_append, smallAll, Bool.true_and]
  | x :: xs, ys => by rw [List.cons_append, smallAll, smallAll, smallAll_app xs ys, Bool.and_assoc]
theorem SzA.nil {n : Nat} : SzA n [] := ⟨Nat.zero_le _, rfl⟩
theorem SzA.snoc {n : Nat} {vs : List PyData} {v : PyData} (h : SzA n vs) (k : Sz n v) : SzA n (vs ++ [v]) := by
  refine ⟨?_, ?_⟩
  · have := h.1
    have := k.1
    rw [depthAll_app]
    simp only [PyData.depthAll]
    omega
  · rw [smallAll_app, h.2, smallAll, k.2]
    rfl
theorem Sz.flat {n : Nat} {v : PyData} (h : flatD v = true) : Sz n v := by
  cases v <;> first | exact ⟨Nat.zero_le _, rfl⟩ | cases h
end K88

set_option Elab.async false
set_option linter.all false
set_option maxRecDepth 100000
set_option maxHeartbeats 4000000
namespace K88
open PySem PySem.Spec PyProof.Rows L2 Pu
def gTok : List PyData → Option PyData := runF ["text", "at", "sign", "end", "start"] 2 (F__law_token WNt)
def gP : Nat → List PyData → Option PyData
  | 0 => fun _ => none
  | n + 1 => runF ["text", "at", "shut", "found", "here", "told"] 2 (F__law_parsed (gP n) gTok WNt)
def opener (sh : Nat) : Nat := if sh = 41 then 40 else 91
def lval (sh : Nat) (ds : List PyData) : PyData := if sh = 41 then .tuple ds else .list ds
theorem opener_ne {a b : Nat} (ha : a = 41 ∨ a = 93) (hb : b = 41 ∨ b = 93) (h : a ≠ b) : opener a ≠ opener b := by
  rcases ha with rfl | rfl <;> rcases hb with rfl | rfl <;> first | exact absurd rfl h | decide
section
variable {C : Addr} {l : List Nat} {rs rs1 : RS} {a b e c : Nat} {v : PyData}
def HM (l : List Nat) (rs : RS) (a : Nat) : Prop := ∀ c, l[a]? = some c → (c = 41 ∨ c = 93) → ∀ dss, rs.lots = [] :: dss → ∀ z zs, rs.signs = z :: zs → z ≠ opener c
theorem Cpl.vd (h : Cpl l rs rs1 v e) : VD rs1 := by
  rcases h.wh with ⟨_, hw, _⟩ | ⟨_, _, _, hs, hv, hf, _⟩
  · intro z; rw [hw] at z; cases z
  · exact fun _ => ⟨v, hv, hf⟩
/-- what ends a complete thing -/
theorem Cpl.ends {found : List PyData} {tl : List (List PyData)} (h : Cpl l rs rs1 v e) (hl : rs.lots = found :: tl) : rEnds rs1 = some { lots := (found ++ [v]) :: tl, signs := rs.signs, word := [], ended := false } := by
  unfold rEnds
  rcases h.wh with ⟨he, hw, ds, dss, h1, h2⟩ | ⟨he, h1, _, hs, hv, hf, _⟩
  · rw [hl] at h1
    cases h1
    rw [if_pos he, h2, ← h.sg]
  · rw [if_neg (by rw [he]; exact Bool.false_ne_true), if_neg (by rw [hs]; exact Bool.false_ne_true), hv, h1, hl, ← h.sg]
theorem Cpl.no (h : Cpl l rs rs1 v e) (hc : l[e]? = some c) (h32 : c ≠ 32) (hcl : c = 41 ∨ c = 93 → ∀ z zs, rs.signs = z :: zs → z ≠ opener c) : rStep rs1 c = none := by
  unfold rStep
  by_cases h1 : c = 41 ∨ c = 93
  · rw [if_pos h1]
    unfold rShut
    split
    · rename_i ds dss z zs hl hsg
      rw [h.sg] at hsg
      rw [if_neg (show ¬ z = (if c = 41 then 40 else 91) from hcl h1 z zs hsg)]
    · rfl
  · rw [if_neg h1, if_neg h32]
    rcases h.wh with ⟨he, _⟩ | ⟨he, _, hne, _, _, _, hg⟩
    · rw [if_pos he]
    · rw [he, if_neg Bool.false_ne_true, if_neg (fun z => hne z.1), hg c hc, if_neg Bool.false_ne_true]
theorem Cpl.space {z : Nat} {zs : List Nat} {found : List PyData} {tl : List (List PyData)} (h : Cpl l rs rs1 v e) (hl : rs.lots = found :: tl) (hs : rs.signs = z :: zs) : rStep rs1 32 = some { lots := (found ++ [v]) :: tl, signs := rs.signs, word := [], ended := false } := by
  unfold rStep
  rw [if_neg (by decide), if_pos rfl, if_neg (by rw [h.sg, hs]; exact fun z => nomatch z)]
  exact h.ends hl
theorem Cpl.shut {sh : Nat} {zs : List Nat} {found es : List PyData} {dss : List (List PyData)} (h : Cpl l rs rs1 v e) (hsh : sh = 41 ∨ sh = 93) (hl : rs.lots = found :: es :: dss) (hs : rs.signs = opener sh :: zs) :
    rStep rs1 sh = some { lots := (es ++ [lval sh (found ++ [v])]) :: dss, signs := zs, word := [], ended := true } := by
  unfold rStep
  rw [if_pos hsh]
  unfold rShut
  have hE := h.ends hl
  have hs1 : rs1.signs = opener sh :: zs := by rw [h.sg, hs]
  have hl1 : ∃ x t, rs1.lots = x :: t := by
    rcases h.wh with ⟨_, _, ds, dss', _, h2⟩ | ⟨_, h1, _⟩
    · exact ⟨_, _, h2⟩
    · exact ⟨_, _, h1.trans hl⟩
  obtain ⟨x, t, hx⟩ := hl1
  rw [hx, hs1]
  simp only
  rw [if_pos (show opener sh = (if sh = 41 then 40 else 91) from rfl)]
  have hb : (rs1.word == [] && !rs1.ended && x.isEmpty) = false := by
    rcases h.wh with ⟨he, _⟩ | ⟨_, _, hne, _⟩
    · rw [he]; simp
    · rw [beq_eq_false_iff_ne.mpr hne]; rfl
  rw [hb, if_neg Bool.false_ne_true, hE, Option.bind_some]
  unfold rGo
  simp only
  rw [hs]
  rfl
end
/-! ### the loop -/
def mkB (l : List Nat) (a sh : Nat) (found : List PyData) (here : Nat) (t : Option PyData) : Ev := [some (.str (tx l)), some (.int (a : Nat)), some (.str (one sh)), some (.list found), some (.int (here : Nat)), t]
def cB : Ev → Option Bool := (fAnd (f2T gLt (fVar 4) (fCall gLen (fCons (fVar 0) fNil))) (fNot (fAnd (f2T gEq (fVar 3) (fLst fNil)) (f2T gEq (f2 gIx (fVar 0) (fVar 4)) (fVar 2)))))
def bB (g : List PyData → Option PyData) : Ev → Option OutB := (fSeqB (fSetB 3 5 (fCall g (fCons (fVar 0) (fCons (fVar 4) fNil)))) (fSeqB (fIfB (f2T gNe (f2 gIx (fVar 5) (fC (.int 0))) (fC (.str "good"))) (fSeqB (fRetB (fVar 5)) fNextB) fNextB) (fSeqB (fApp 3 (f2 gIx (fVar 5) (fC (.int 2)))) (fSeqB (fSetB 3 4 (f2 gIx (fVar 5) (fC (.int 1)))) (fSeqB (fIfB (fAnd (f2T gLt (fVar 4) (fCall gLen (fCons (fVar 0) fNil))) (f2T gNiD (f2 gIx (fVar 0) (fVar 4)) (fLst (fCons (fC (.str " ")) (fCons (fVar 2) fNil))))) (fSeqB (fRetB (fLst (fCons (fC (.str "bad")) (fCons (fVar 4) (fCons (fC .none) fNil))))) fNextB) fNextB) (fSeqB (fIfB (fAnd (f2T gLt (fVar 4) (fCall gLen (fCons (fVar 0) fNil))) (f2T gEq (f2 gIx (fVar 0) (fVar 4)) (fVar 2))) (fSeqB fBrk fNextB) fNextB) (fSeqB (fSetB 3 4 (f2 gAdd (fVar 4) (fC (.int 1)))) fNextB)))))))
theorem whileB_succ (g : List PyData → Option PyData) (n : Nat) (ev : Ev) : whileB cB (bB g) (n + 1) ev = (cB ev).bind fun b => if b = true then (bB g ev).bind fun o => match o with | .nx ev' => whileB cB (bB g) n ev' | .rt w => some (.rt w) | .bk ev' => some (.nx ev') else some (.nx ev) := rfl
section
variable {l : List Nat} {a sh here : Nat} {found : List PyData} {t : Option PyData}
theorem mk0 : fVar 0 (mkB l a sh found here t) = some (.str (tx l)) := rfl
theorem mk2 : fVar 2 (mkB l a sh found here t) = some (.str (one sh)) := rfl
theorem mk3 : fVar 3 (mkB l a sh found here t) = some (.list found) := rfl
theorem mk4 : fVar 4 (mkB l a sh found here t) = some (.int (here : Nat)) := rfl
theorem lt_is (L : l.length ≤ sizeLine) : f2T gLt (fVar 4) (fCall gLen (fCons (fVar 0) fNil)) (mkB l a sh found here t) = some (decide (here < l.length)) := z_2T mk4 (len_at mk0 L) (gLt_nat _ _)
theorem ch_is (L : l.length ≤ sizeLine) {c : Nat} (hc : l[here]? = some c) : f2 gIx (fVar 0) (fVar 4) (mkB l a sh found here t) = some (.str (one c)) := z_2 mk0 mk4 (ix_at L hc)
theorem cB_end (L : l.length ≤ sizeLine) (h : l.length ≤ here) : cB (mkB l a sh found here t) = some false := by
  have := lt_is (a := a) (sh := sh) (found := found) (t := t) (here := here) L
  rw [decide_eq_false (by omega)] at this
  exact z_andF this
theorem cB_in (L : l.length ≤ sizeLine) {c : Nat} (hc : l[here]? = some c) (hp : PyData.plainAll found = true) : cB (mkB l a sh found here t) = some (!(found.isEmpty && c == sh)) := by
  have := lt_is (a := a) (sh := sh) (found := found) (t := t) (here := here) L
  rw [decide_eq_true (lt_of_get hc)] at this
  exact z_andT this (z_not (z_and (z_2T mk3 rfl (gEq_nil hp)) fun _ => z_2T (ch_is L hc) mk2 (gEq_one c sh)))
end
/-- what the loop comes to -/
def LoopOut (m : Nat) (C : Addr) (l : List Nat) (a sh : Nat) (rsH : RS) (here : Nat) (sgs : List Nat) (es : List PyData) (dss : List (List PyData)) (o : OutB) : Prop :=
  (∃ r, o = .rt (prD r) ∧ ((∃ e, r = .bad e ∧ Stops C l rsH here e) ∨ (r = .opn l.length ∧ ∃ rs', Goes C l rsH here rs' l.length ∧ RI rs' l.length ∧ VD rs' ∧ rs'.signs ≠ []))) ∨
  ∃ found' here' t', o = .nx (mkB l a sh found' here' t') ∧ ((l.length ≤ here' ∧ ∃ rs', Goes C l rsH here rs' l.length ∧ RI rs' l.length ∧ VD rs' ∧ rs'.signs ≠ []) ∨
    (here' < l.length ∧ here ≤ here' ∧ l[here']? = some sh ∧ bal l here' = bal l here ∧ PyData.plainAll found' = true ∧ found'.length ≤ here' + 1 ∧ SzA m found' ∧ ∃ rsE, Goes C l rsH here rsE here' ∧ RI rsE here' ∧ VD rsE ∧ rStep rsE sh = some { lots := (es ++ [lval sh found']) :: dss, signs := sgs, word := [], ended := true }))
theorem LoopOut.back {m : Nat} {C : Addr} {l : List Nat} {a sh : Nat} {rsH rs2 : RS} {here h2 : Nat} {sgs : List Nat} {es : List PyData} {dss : List (List PyData)} {o : OutB} (g : Goes C l rsH here rs2 h2) (le : here ≤ h2) (hb : bal l h2 = bal l here) (h : LoopOut m C l a sh rs2 h2 sgs es dss o) : LoopOut m C l a sh rsH here sgs es dss o := by
  rcases h with ⟨r, e, h | ⟨h, rs', g', x⟩⟩ | ⟨f, h', t', e, ⟨h, rs', g', x⟩ | ⟨k1, k2, k3, k4, k5, k6, k7, rsE, g', x⟩⟩
  · obtain ⟨e', h1, h3⟩ := h
    exact .inl ⟨r, e, .inl ⟨e', h1, g.stop h3⟩⟩
  · exact .inl ⟨r, e, .inr ⟨h, rs', g.trans g', x⟩⟩
  · exact .inr ⟨f, h', t', e, .inl ⟨h, rs', g.trans g', x⟩⟩
  · exact .inr ⟨f, h', t', e, .inr ⟨k1, Nat.le_trans le k2, k3, k4.trans hb, k5, k6, k7, rsE, g.trans g', x⟩⟩
/-- what is known of the reader one level below -/
def IHn (C : Addr) (l : List Nat) (d n : Nat) : Prop := ∀ (a : Nat) (rs : RS), a ≤ l.length → Rdy rs a → (rs.signs.length : Int) = bal l a → d + 1 ≤ n + rs.signs.length → HM l rs a → ∃ r, gP n [.str (tx l), .int (a : Nat)] = some (prD r) ∧ Rel C l rs a r ∧ ∀ e v, r = .good e v → Sz n v
theorem loop_is {C : Addr} {l : List Nat} {d n a sh : Nat} (hl : l.length ≤ 500000) (hsh : sh = 41 ∨ sh = 93) (IH : IHn C l d n) {sgs : List Nat} {es : List PyData} {dss : List (List PyData)} :
    ∀ (fuel here : Nat) (found : List PyData) (t : Option PyData) (rsH : RS), here ≤ l.length → l.length + 1 - here < fuel → Rdy rsH here → rsH.lots = found :: es :: dss → rsH.signs = opener sh :: sgs → (rsH.signs.length : Int) = bal l here → d + 1 ≤ n + rsH.signs.length → SzA n found →
      ∃ o, whileB cB (bB (gP n)) fuel (mkB l a sh found here t) = some o ∧ LoopOut n C l a sh rsH here sgs es dss o
  | 0, _, _, _, _, _, h, _, _, _, _, _, _ => absurd h (Nat.not_lt_zero _)
  | fuel + 1, here, found, t, rsH, hle, hf, R, hlots, hsg, hbal, hd, hdp => by
    have hz := sizeLine_eq
    have L : l.length ≤ sizeLine := by omega
    have hfd := R.ri.ld found (by rw [hlots]; exact List.mem_cons_self)
    have hne : rsH.signs ≠ [] := by rw [hsg]; exact fun z => nomatch z
    rw [whileB_succ]
    by_cases hend : here = l.length
    · rw [cB_end L (Nat.le_of_eq hend.symm), Option.bind_some, if_neg Bool.false_ne_true]
      refine ⟨_, rfl, .inr ⟨found, here, t, rfl, .inl ⟨Nat.le_of_eq hend.symm, rsH, ?_, ?_, ?_, hne⟩⟩⟩
      · rw [hend]; exact rfl
      · rw [← hend]; exact R.ri
      · intro z; rw [R.wd] at z; cases z
    obtain ⟨c0, hc0⟩ := get_of_lt (show here < l.length by omega)
    rw [cB_in L hc0 hfd.2, Option.bind_some]
    cases hexit : (found.isEmpty && c0 == sh) with
    | true =>
      -- the empty one is shut
      rw [show (!true) = false from rfl, if_neg Bool.false_ne_true]
      rw [Bool.and_eq_true] at hexit
      have hf0 : found = [] := by simpa using hexit.1
      have hcs : c0 = sh := by simpa using hexit.2
      refine ⟨_, rfl, .inr ⟨found, here, t, rfl, .inr ⟨lt_of_get hc0, Nat.le_refl _, by rw [← hcs]; exact hc0, rfl, hfd.2, by omega, hdp, rsH, rfl, R.ri, ?_, ?_⟩⟩⟩
      · intro z; rw [R.wd] at z; cases z
      · unfold rStep
        rw [if_pos hsh]
        unfold rShut
        rw [hlots, hsg]
        simp only
        rw [if_pos (show opener sh = (if sh = 41 then 40 else 91) from rfl), R.wd, R.en, hf0]
        show rGo rsH sh = _
        unfold rGo
        rw [hlots]
        simp only
        rw [hsg, hf0, R.wd]
        rfl
    | false =>
      rw [show (!false) = true from rfl, if_pos rfl]
      have hHM : HM l rsH here := fun c hc hcl dss' h1 z zs h2 => by
        rw [hc0] at hc
        cases hc
        rw [hlots] at h1
        rw [hsg] at h2
        cases h1
        cases h2
        refine opener_ne hsh hcl fun e => ?_
        rw [e] at hexit
        simp at hexit
      obtain ⟨r, hr, hrel, hrd⟩ := IH here rsH hle R hbal hd hHM
      have s1 : fSetB 3 5 (fCall (gP n) (fCons (fVar 0) (fCons (fVar 4) fNil))) (mkB l a sh found here t) = some (.nx (mkB l a sh found here (some (prD r)))) := y_set (z_call (z_cons rfl (z_cons rfl rfl)) hr)
      cases r with
      | bad e =>
        have s2 : f2T gNe (f2 gIx (fVar 5) (fC (.int 0))) (fC (.str "good")) (mkB l a sh found here (some (prD (.bad e)))) = some true := rfl
        have hb : bB (gP n) (mkB l a sh found here t) = some (.rt (prD (.bad e))) := y_nx s1 (y_rt (y_ifT s2 (y_rt (y_ret rfl))))
        rw [hb]
        exact ⟨_, rfl, .inl ⟨_, rfl, .inl ⟨e, rfl, hrel⟩⟩⟩
      | opn e =>
        have s2 : f2T gNe (f2 gIx (fVar 5) (fC (.int 0))) (fC (.str "good")) (mkB l a sh found here (some (prD (.opn e)))) = some true := rfl
        have hb : bB (gP n) (mkB l a sh found here t) = some (.rt (prD (.opn e))) := y_nx s1 (y_rt (y_ifT s2 (y_rt (y_ret rfl))))
        rw [hb]
        obtain ⟨he, rs', g, I, V, hs⟩ := hrel
        subst he
        refine ⟨_, rfl, .inl ⟨_, rfl, .inr ⟨rfl, rs', g, I, V, ?_⟩⟩⟩
        rcases hs with h | ⟨h, _⟩
        · exact h
        · rw [h]; exact hne
      | good e v =>
        have s2 : f2T gNe (f2 gIx (fVar 5) (fC (.int 0))) (fC (.str "good")) (mkB l a sh found here (some (prD (.good e v)))) = some false := rfl
        obtain ⟨h1, h2, h3, rs1, g, Q⟩ := hrel
        have s3 : fApp 3 (f2 gIx (fVar 5) (fC (.int 2))) (mkB l a sh found here (some (prD (.good e v)))) = some (.nx (mkB l a sh (found ++ [v]) here (some (prD (.good e v))))) := y_app rfl rfl (by have := hfd.1; omega)
        have s4 : fSetB 3 4 (f2 gIx (fVar 5) (fC (.int 1))) (mkB l a sh (found ++ [v]) here (some (prD (.good e v)))) = some (.nx (mkB l a sh (found ++ [v]) e (some (prD (.good e v))))) := y_set rfl
        have pre : ∀ {o}, (fSeqB (fIfB (fAnd (f2T gLt (fVar 4) (fCall gLen (fCons (fVar 0) fNil))) (f2T gNiD (f2 gIx (fVar 0) (fVar 4)) (fLst (fCons (fC (.str " ")) (fCons (fVar 2) fNil))))) (fSeqB (fRetB (fLst (fCons (fC (.str "bad")) (fCons (fVar 4) (fCons (fC .none) fNil))))) fNextB) fNextB) (fSeqB (fIfB (fAnd (f2T gLt (fVar 4) (fCall gLen (fCons (fVar 0) fNil))) (f2T gEq (f2 gIx (fVar 0) (fVar 4)) (fVar 2))) (fSeqB fBrk fNextB) fNextB) (fSeqB (fSetB 3 4 (f2 gAdd (fVar 4) (fC (.int 1)))) fNextB))) (mkB l a sh (found ++ [v]) e (some (prD (.good e v)))) = o → bB (gP n) (mkB l a sh found here t) = o := fun h => y_nx s1 (y_nx (y_ifF s2 rfl) (y_nx s3 (y_nx s4 h)))
        have hlt := lt_is (a := a) (sh := sh) (found := found ++ [v]) (t := some (prD (.good e v))) (here := e) L
        have hpl : PyData.plainAll (found ++ [v]) = true := by rw [plainAll_app, hfd.2, PyData.plainAll, Q.vp]; rfl
        have hs1 : rs1.signs ≠ [] := by rw [Q.sg]; exact hne
        have hdp2 : SzA n (found ++ [v]) := hdp.snoc (hrd e v rfl)
        have hadd : fSetB 3 4 (f2 gAdd (fVar 4) (fC (.int 1))) (mkB l a sh (found ++ [v]) e (some (prD (.good e v)))) = some (.nx (mkB l a sh (found ++ [v]) (e + 1) (some (prD (.good e v))))) := y_set rfl
        by_cases hel : e = l.length
        · rw [decide_eq_false (by omega)] at hlt
          have hb := pre (y_nx (y_ifF (z_andF hlt) rfl) (y_nx (y_ifF (z_andF hlt) rfl) (y_nx hadd rfl)))
          rw [hb]
          show ∃ o, whileB cB (bB (gP n)) fuel (mkB l a sh (found ++ [v]) (e + 1) _) = some o ∧ _
          cases fuel with
          | zero => omega
          | succ fuel =>
            rw [whileB_succ, cB_end L (by omega), Option.bind_some, if_neg Bool.false_ne_true]
            subst hel
            exact ⟨_, rfl, .inr ⟨_, _, _, rfl, .inl ⟨Nat.le_succ _, rs1, g, Q.ri, Q.vd, hs1⟩⟩⟩
        · obtain ⟨c1, hc1⟩ := get_of_lt (show e < l.length by omega)
          rw [decide_eq_true (by omega)] at hlt
          have hch := ch_is (a := a) (sh := sh) (found := found ++ [v]) (t := some (prD (.good e v))) L hc1
          have hni : f2T gNiD (f2 gIx (fVar 0) (fVar 4)) (fLst (fCons (fC (.str " ")) (fCons (fVar 2) fNil))) (mkB l a sh (found ++ [v]) e (some (prD (.good e v)))) = some (!(c1 == 32 || c1 == sh)) := by
            refine z_2T hch (z_lst (z_cons rfl (z_cons mk2 rfl)) (by show 2 ≤ sizeLine; decide)) ?_
            show some (!((one 32 == one c1) || ((one sh == one c1) || false))) = _
            rw [one_beq, one_beq, Bool.or_false, show (32 == c1) = (c1 == 32) from BEq.comm, show (sh == c1) = (c1 == sh) from BEq.comm]
          have heq : f2T gEq (f2 gIx (fVar 0) (fVar 4)) (fVar 2) (mkB l a sh (found ++ [v]) e (some (prD (.good e v)))) = some (c1 == sh) := z_2T hch mk2 (gEq_one c1 sh)
          by_cases hcs : c1 = sh
          · -- shut
            rw [hcs] at hni heq hc1
            rw [show (!(sh == 32 || sh == sh)) = false by simp] at hni
            rw [show (sh == sh) = true by simp] at heq
            have hb := pre (y_nx (y_ifF (z_andT hlt hni) rfl) (y_bk (y_ifT (z_andT hlt heq) (y_bk rfl))))
            rw [hb]
            refine ⟨_, rfl, .inr ⟨_, _, _, rfl, .inr ⟨lt_of_get hc1, Nat.le_of_lt h1, hc1, h3, hpl, ?_, hdp2, rs1, g, Q.ri, Q.vd, Q.shut hsh hlots hsg⟩⟩⟩
            rw [List.length_append]
            have := hfd.1
            show found.length + 1 ≤ _
            omega
          · rw [beq_eq_false_iff_ne.mpr hcs] at heq hni
            by_cases h32 : c1 = 32
            · -- a blank
              rw [h32] at hni
              rw [show (!((32 : Nat) == 32 || false)) = false from rfl] at hni
              have hb := pre (y_nx (y_ifF (z_andT hlt hni) rfl) (y_nx (y_ifF (z_andT hlt heq) rfl) (y_nx hadd rfl)))
              rw [hb]
              rw [h32] at hc1
              have hst := Q.space hlots hsg
              have hE := rEnds_inv Q.ri Q.vd (Q.ends hlots)
              have g2 := g.trans (go1 (C := C) hl Q.ri (fun _ => Q.vd) hc1 hst)
              have hb2 : bal l (e + 1) = bal l here := by
                rw [bal_succ hc1, h3]
                show _ + (0 : Int) = _
                omega
              obtain ⟨o, ho, hout⟩ := loop_is hl hsh IH fuel (e + 1) (found ++ [v]) (some (prD (.good e v))) { lots := (found ++ [v]) :: es :: dss, signs := rsH.signs, word := [], ended := false } (lt_of_get hc1) (by omega) ⟨hE.1, rfl, rfl⟩ rfl hsg (by rw [hb2]; exact hbal) hd hdp2
              exact ⟨o, ho, hout.back g2 (by omega) hb2⟩
            · rw [beq_eq_false_iff_ne.mpr h32] at hni
              have hb := pre (y_rt (y_ifT (z_andT hlt hni) (y_rt (y_ret (z_lst (z_cons rfl (z_cons mk4 (z_cons rfl rfl))) (by show 3 ≤ sizeLine; decide))))))
              rw [hb]
              refine ⟨_, rfl, .inl ⟨.bad e, rfl, .inl ⟨e, rfl, g.stop (stop1 hl Q.ri (fun _ => Q.vd) hc1 (Q.no hc1 h32 fun hcl z zs h2 => ?_))⟩⟩⟩
              rw [hsg] at h2
              cases h2
              exact opener_ne hsh hcl (Ne.symm hcs)
end K88

set_option Elab.async false
set_option linter.all false
set_option maxRecDepth 100000
set_option maxHeartbeats 4000000
namespace K88
open PySem PySem.Spec PyProof.Rows L2 Pu
theorem plain_lval {sh : Nat} {ds : List PyData} (h : PyData.plainAll ds = true) : (lval sh ds).plain = true := by
  unfold lval
  split <;> (unfold PyData.plain; exact h)
theorem ih_step {C : Addr} {l : List Nat} {d n : Nat} (hl : l.length ≤ 500000) (dr : DR l) (IH : IHn C l d n) : IHn C l d (n + 1) := by
  intro a rs hle R hbal hd hHM
  have hz := sizeLine_eq
  have L : l.length ≤ sizeLine := by omega
  suffices h : ∃ r, F__law_parsed (gP n) gTok WNt [some (.str (tx l)), some (.int (a : Nat)), none, none, none, none] = some (.rt (prD r)) ∧ Rel C l rs a r ∧ ∀ e v, r = .good e v → Sz (n + 1) v by
    obtain ⟨r, h1, h2⟩ := h
    exact ⟨r, z_run rfl h1, h2⟩
  have v0 : fVar 0 [some (PyData.str (tx l)), some (.int (a : Nat)), none, none, none, none] = some (.str (tx l)) := rfl
  have v1 : fVar 1 [some (PyData.str (tx l)), some (.int (a : Nat)), none, none, none, none] = some (.int (a : Nat)) := rfl
  have t1 := z_2T v1 (len_at v0 L) (gEq_nat a l.length)
  unfold F__law_parsed
  by_cases hend : a = l.length
  · rw [beq_iff_eq.mpr hend] at t1
    refine ⟨.opn a, z_rt (z_ifT t1 (z_rt (z_ret (z_lst (z_cons rfl (z_cons v1 (z_cons rfl rfl))) (by show 3 ≤ sizeLine; decide))))), ⟨hend, rs, rfl, R.ri, ?_, .inr ⟨rfl, R.en, ?_⟩⟩, fun e v z => nomatch z⟩
    · intro z; rw [R.wd] at z; cases z
    · rw [R.wd]; rfl
  rw [beq_eq_false_iff_ne.mpr hend] at t1
  obtain ⟨c, hc⟩ := get_of_lt (show a < l.length by omega)
  have hch := z_2 v0 v1 (ix_at L hc)
  have t2 : f2T gNiD (f2 gIx (fVar 0) (fVar 1)) (fC (.str "([")) [some (PyData.str (tx l)), some (.int (a : Nat)), none, none, none, none] = some (!decide (c = 40 ∨ c = 91)) := z_2T hch rfl (by
    show (gInD (.str (one c)) (.str "([")).map (! ·) = _
    rw [one_in c 40 91 "([" rfl]
    rfl)
  by_cases hop : c = 40 ∨ c = 91
  · rw [decide_eq_true hop] at t2
    -- a list
    have hshE : ∃ sh, (sh = 41 ∨ sh = 93) ∧ opener sh = c ∧ fIf (f2T gEq (f2 gIx (fVar 0) (fVar 1)) (fC (.str "("))) (fC (.str ")")) (fC (.str "]")) [some (PyData.str (tx l)), some (.int (a : Nat)), none, none, none, none] = some (.str (one sh)) := by
      rcases hop with rfl | rfl
      · exact ⟨41, .inl rfl, rfl, z_ifET (z_2T hch rfl (gEq_one 40 40)) rfl⟩
      · exact ⟨93, .inr rfl, rfl, z_ifEF (z_2T hch rfl (gEq_one 91 40)) rfl⟩
    obtain ⟨sh, hsh, hopn, hshv⟩ := hshE
    have hlen := R.ri.len
    cases hlots : rs.lots with
    | nil => rw [hlots] at hlen; cases hlen
    | cons es dss =>
    have hst : rStep rs c = some { lots := [] :: rs.lots, signs := c :: rs.signs, word := [], ended := false } := by
      unfold rStep
      rw [if_neg (by omega), if_neg (by omega), R.en, if_neg Bool.false_ne_true, if_pos ⟨R.wd, hop⟩, R.wd]
    have hop1 : op c = 1 := by unfold op; rw [if_pos hop]
    have hb1 : bal l (a + 1) = bal l a + 1 := by rw [bal_succ hc, hop1]
    have RI1 : RI { lots := [] :: rs.lots, signs := c :: rs.signs, word := [], ended := false } (a + 1) := by
      refine ⟨by show rs.lots.length + 1 = rs.signs.length + 1 + 1; rw [hlen], Nat.succ_le_succ R.ri.sg, fun z hz' => ?_, Nat.zero_le _, fun ds hds => ?_, fun z => nomatch z⟩
      · rcases List.mem_cons.mp hz' with h | h
        · rw [h]; exact hop
        · exact R.ri.sb z h
      · rcases List.mem_cons.mp hds with h | h
        · rw [h]; exact ⟨Nat.zero_le _, rfl⟩
        · exact ⟨Nat.le_succ_of_le (R.ri.ld ds h).1, (R.ri.ld ds h).2⟩
    have g1 := go1 (C := C) hl R.ri (fun z => by omega) hc hst
    obtain ⟨o, ho, hout⟩ := loop_is (C := C) (a := a) hl hsh IH (sgs := rs.signs) (es := es) (dss := dss) (l.length + 2) (a + 1) [] none { lots := [] :: rs.lots, signs := c :: rs.signs, word := [], ended := false } (by have := lt_of_get hc; omega) (by omega) ⟨RI1, rfl, rfl⟩ (by show [] :: rs.lots = _; rw [hlots]) (by rw [hopn])
      (by show ((rs.signs.length + 1 : Nat) : Int) = _; rw [hb1]; omega) (by show d + 1 ≤ n + (rs.signs.length + 1); omega) SzA.nil
    have hown : ∀ (G : Ev → Option OutB) (oB : OutB) (oo : Out), G (mkB l a sh [] (a + 1) none) = some oB → outB 3 oB = some oo → fOwn3 2 3 4 (fIf (f2T gEq (f2 gIx (fVar 0) (fVar 1)) (fC (.str "("))) (fC (.str ")")) (fC (.str "]"))) (f2 gAdd (fVar 1) (fC (.int 1))) G [some (PyData.str (tx l)), some (.int (a : Nat)), none, none, none, none] = some oo := fun G oB oo h h2 => by
      unfold fOwn3
      rw [hshv]
      show (G (mkB l a sh [] (a + 1) none)).bind (outB 3) = _
      rw [h]
      exact h2
    have hwhile : ∀ {oo : OutB}, whileB cB (bB (gP n)) (l.length + 2) (mkB l a sh [] (a + 1) none) = some oo → (fun ev => whileB cB (bB (gP n)) (WNt ev) ev) (mkB l a sh [] (a + 1) none) = some oo := fun {oo} h => by
      have e : WNt (mkB l a sh [] (a + 1) none) = l.length + 2 := by show (tx l).length + 2 = _; rw [tx_len]
      show whileB cB (bB (gP n)) (WNt _) _ = _
      rw [e]
      exact h
    rcases hout with ⟨r, rfl, hr⟩ | ⟨found', here', t', rfl, hr⟩
    · refine ⟨r, z_nx (z_ifF t1 rfl) (z_nx (z_ifF t2 rfl) (hown _ (.rt (prD r)) _ (y_rt (hwhile ho)) rfl)), ?_⟩
      rcases hr with ⟨e, rfl, hs⟩ | ⟨rfl, rs', g, I, V, hs⟩
      · exact ⟨g1.stop hs, fun e v z => nomatch z⟩
      · exact ⟨⟨rfl, rs', g1.trans g, I, V, .inl hs⟩, fun e v z => nomatch z⟩
    · have hge : f2T gGe (fVar 4) (fCall gLen (fCons (fVar 0) fNil)) (mkB l a sh found' here' t') = some (decide (l.length ≤ here')) := z_2T mk4 (len_at mk0 L) (by
        show some (decide (((l.length : Nat) : Int) ≤ (here' : Nat))) = _
        congr 1
        by_cases h : l.length ≤ here'
        · rw [decide_eq_true h, decide_eq_true (by omega)]
        · rw [decide_eq_false h, decide_eq_false (by omega)])
      rcases hr with ⟨hh, rs', g, I, V, hs⟩ | ⟨hh, hh2, hch', hb', hpl, hfl, hdp, rsE, g, I, V, hE⟩
      · rw [decide_eq_true hh] at hge
        refine ⟨.opn l.length, z_nx (z_ifF t1 rfl) (z_nx (z_ifF t2 rfl) (hown _ (.rt (prD (.opn l.length))) _ (y_nx (hwhile ho) (y_rt (y_ifT hge (y_rt (y_ret (z_lst (z_cons rfl (z_cons (len_at mk0 L) (z_cons rfl rfl))) (by show 3 ≤ sizeLine; decide))))))) rfl)), ⟨rfl, rs', g1.trans g, I, V, .inl hs⟩, fun e v z => nomatch z⟩
      · rw [decide_eq_false (by omega)] at hge
        have hval : fIf (f2T gEq (fVar 2) (fC (.str ")"))) (fCall gTuple (fCons (fVar 3) fNil)) (fVar 3) (mkB l a sh found' here' t') = some (lval sh found') := by
          rcases hsh with rfl | rfl
          · exact z_ifET (z_2T mk2 rfl (gEq_one 41 41)) (z_call (z_cons mk3 rfl) rfl)
          · exact z_ifEF (z_2T mk2 rfl (gEq_one 93 41)) mk3
        have hopsh : op sh = -1 := by rcases hsh with rfl | rfl <;> rfl
        refine ⟨.good (here' + 1) (lval sh found'), z_nx (z_ifF t1 rfl) (z_nx (z_ifF t2 rfl) (hown _ (.rt (prD (.good (here' + 1) (lval sh found')))) _ (y_nx (hwhile ho) (y_nx (y_ifF hge rfl) (y_rt (y_ret (z_lst (z_cons rfl (z_cons (z_2 mk4 rfl (gAdd_nat here')) (z_cons hval rfl))) (by show 3 ≤ sizeLine; decide)))))) rfl)), ⟨by omega, hh, ?_, _, (g1.trans g).trans (go1 (C := C) hl I (fun _ => V) hch' hE), ⟨?_, rfl, plain_lval hpl, .inl ⟨rfl, rfl, es, dss, hlots, rfl⟩⟩⟩, fun e v z => ?_⟩
        · rw [bal_succ hch', hb', hb1, hopsh]
          omega
        · have hes := R.ri.ld es (by rw [hlots]; exact List.mem_cons_self)
          refine ⟨by rw [hlots] at hlen; exact hlen, by have := R.ri.sg; show rs.signs.length ≤ _; omega, R.ri.sb, Nat.zero_le _, fun ds hds => ?_, fun _ => rfl⟩
          rcases List.mem_cons.mp hds with h | h
          · rw [h]
            refine ⟨by rw [List.length_append]; have := hes.1; show es.length + 1 ≤ _; omega, ?_⟩
            rw [plainAll_app, hes.2, PyData.plainAll, plain_lval hpl]
            rfl
          · have := R.ri.ld ds (by rw [hlots]; exact List.mem_cons_of_mem _ h)
            exact ⟨by omega, this.2⟩
        · cases z
          have h6 : decide (found'.length ≤ 1000000) = true := decide_eq_true (by omega)
          unfold lval
          split <;> (refine ⟨?_, ?_⟩; (have := hdp.1; rw [PyData.depth]; omega); (rw [small, h6, hdp.2]; rfl))
  · rw [decide_eq_false hop] at t2
    obtain ⟨r, h1, h2⟩ := tok_is hl dr hc (by omega) (by omega)
    refine ⟨r, z_nx (z_ifF t1 rfl) (z_rt (z_ifT t2 (z_rt (z_ret (z_call (z_cons v0 (z_cons v1 rfl)) h1))))), tok_rel hl R hc (by omega) (by omega) (hHM c hc) h2, fun e v z => ?_⟩
    subst z
    obtain ⟨_, _, _, _, _, hf, _⟩ := h2
    exact Sz.flat hf
theorem ih_all {C : Addr} {l : List Nat} {d : Nat} (hl : l.length ≤ 500000) (dr : DR l) (bd : ∀ k, k ≤ l.length → bal l k ≤ d) : ∀ n, IHn C l d n
  | 0 => fun a rs hle R hbal hd _ => by have := bd a hle; omega
  | n + 1 => ih_step hl dr (ih_all hl dr bd n)
end K88

set_option Elab.async false
set_option linter.all false
set_option maxRecDepth 100000
set_option maxHeartbeats 4000000
namespace K88
open PySem PySem.Spec PyProof.Rows L2 Pu
def dueF (n : Nat) : List PyData → Option PyData := runF ["text", "told"] 1 (F__law_due (gP n))
def prDue (l : List Nat) : PR → PyData
  | .good e v => if e = l.length then .list [.str "told", v] else .list [.str "unread", .int (e : Nat)]
  | .opn e => .list [.str "unread", .int (e : Nat)]
  | .bad e => .list [.str "unread", .int (e : Nat)]
theorem due_is {l : List Nat} {n : Nat} {r : PR} (hl : l.length ≤ 500000) (h : gP n [.str (tx l), .int (0 : Nat)] = some (prD r)) : dueF n [.str (tx l)] = some (prDue l r) := by
  have hz := sizeLine_eq
  have L : l.length ≤ sizeLine := by omega
  refine z_run rfl ?_
  show F__law_due (gP n) [some (.str (tx l)), none] = _
  have s1 : fSet 1 (fCall (gP n) (fCons (fVar 0) (fCons (fC (.int 0)) fNil))) [some (PyData.str (tx l)), none] = some (.nx [some (.str (tx l)), some (prD r)]) := z_set (z_call (z_cons rfl (z_cons rfl rfl)) h)
  have hlen : fCall gLen (fCons (fVar 0) fNil) [some (PyData.str (tx l)), some (prD r)] = some (.int (l.length : Nat)) := len_at rfl L
  unfold F__law_due
  refine z_nx s1 ?_
  cases r with
  | bad e => exact z_nx (z_ifF (z_andF rfl) rfl) (z_rt (z_ret (z_lst (z_cons rfl (z_cons rfl rfl)) (by show 2 ≤ sizeLine; decide))))
  | opn e => exact z_nx (z_ifF (z_andF rfl) rfl) (z_rt (z_ret (z_lst (z_cons rfl (z_cons rfl rfl)) (by show 2 ≤ sizeLine; decide))))
  | good e v =>
    have h2 : f2T gEq (f2 gIx (fVar 1) (fC (.int 1))) (fCall gLen (fCons (fVar 0) fNil)) [some (PyData.str (tx l)), some (prD (.good e v))] = some (e == l.length) := z_2T rfl hlen (gEq_nat e l.length)
    by_cases he : e = l.length
    · rw [show prDue l (.good e v) = .list [.str "told", v] from if_pos he]
      rw [beq_iff_eq.mpr he] at h2
      exact z_rt (z_ifT (z_andT rfl h2) (z_rt (z_ret (z_lst (z_cons rfl (z_cons rfl rfl)) (by show 2 ≤ sizeLine; decide)))))
    · rw [show prDue l (.good e v) = .list [.str "unread", .int (e : Nat)] from if_neg he]
      rw [beq_eq_false_iff_ne.mpr he] at h2
      exact z_nx (z_ifF (z_andT rfl h2) rfl) (z_rt (z_ret (z_lst (z_cons rfl (z_cons rfl rfl)) (by show 2 ≤ sizeLine; decide))))
theorem rdy0 : Rdy rs0 0 := ⟨⟨rfl, Nat.zero_le _, (fun z h => nomatch h), Nat.zero_le _, (fun ds h => by
  rcases List.mem_cons.mp h with h | h
  · rw [h]; exact ⟨Nat.zero_le _, rfl⟩
  · cases h), (fun z => nomatch z)⟩, rfl, rfl⟩
/-- what the law asks of a text -/
structure TextOk (d : Nat) (l : List Nat) : Prop where
  len : l.length ≤ 500000
  pr : ∀ c ∈ l, 32 ≤ c ∧ c ≤ 126
  dr : DR l
  bd : ∀ k, k ≤ l.length → bal l k ≤ d
theorem read_of {C : Addr} {l : List Nat} (hl : l.length ≤ 500000) {x : Nat ⊕ RdSt} {w : PyData} (h : runT C (toSt rs0) 0 (l.drop 0) = some x) (hw : doneF C (tx l) x = some w) : readF C [.str (tx l)] = some w := by
  have hz := sizeLine_eq
  show (if (tx l).length ≤ sizeLine then (runT C st0 0 (tx l).cps.toList).bind (doneF C (tx l)) else none) = _
  rw [tx_len, if_pos (by omega)]
  have e : runT C st0 0 (tx l).cps.toList = some x := h
  rw [e]
  exact hw
/-- THE TWO READERS AGREE -/
theorem due_heard {C : Addr} {d : Nat} {l : List Nat} (T : TextOk d l) : ∃ r : PR, gP (d + 1) [.str (tx l), .int (0 : Nat)] = some (prD r) ∧ dueF (d + 1) [.str (tx l)] = some (prDue l r) ∧ heardF C [.str (tx l)] = some (prDue l r) ∧ (prDue l r).plain = true ∧ Sz (d + 2) (prDue l r) := by
  have hz := sizeLine_eq
  obtain ⟨r, h1, h2, hdep⟩ := ih_all (C := C) T.len T.dr T.bd (d + 1) 0 rs0 (Nat.zero_le _) rdy0 rfl (Nat.le_refl _) (fun c hc hcl dss h z zs hs => nomatch hs)
  refine ⟨r, h1, due_is T.len h1, ?_⟩
  have hpr : prOk (.str (tx l)) = some true := by
    show (if (tx l).length ≤ sizeLine then some ((tx l).cps.toList.all fun c => decide (32 ≤ c) && decide (c ≤ 126)) else none) = _
    rw [tx_len, if_pos (by have := T.len; omega)]
    congr 1
    refine List.all_eq_true.mpr fun c hc => ?_
    have := T.pr c hc
    rw [Bool.and_eq_true, decide_eq_true_eq, decide_eq_true_eq]
    exact this
  have htold : ∀ v, readF C [.str (tx l)] = some (.tuple [v, .none]) → heardF C [.str (tx l)] = some (.list [.str "told", v]) := fun v h => by
    simp only [heardF, hpr, h]
  have hun : ∀ i : Nat, readF C [.str (tx l)] = some (.tuple [.none, .int (i : Nat)]) → heardF C [.str (tx l)] = some (.list [.str "unread", .int (i : Nat)]) := fun i h => by
    simp only [heardF, hpr, h]
  have stop : ∀ i, Stops C l rs0 0 i → heardF C [.str (tx l)] = some (.list [.str "unread", .int (i : Nat)]) := fun i h => hun i (read_of T.len h rfl)
  have fin : ∀ rs', Goes C l rs0 0 rs' l.length → runT C (toSt rs0) 0 (l.drop 0) = some (.inr (toSt rs')) := fun rs' g => by
    have g : _ = _ := g
    rw [g, List.drop_length]
    rfl
  cases r with
  | bad e => exact ⟨stop e h2, rfl, ⟨by show 1 ≤ d + 2; omega, rfl⟩⟩
  | opn e =>
    obtain ⟨he, rs', g, I, V, hs⟩ := h2
    subst he
    refine ⟨hun _ (read_of T.len (fin rs' g) ?_), rfl, ⟨by show 1 ≤ d + 2; omega, rfl⟩⟩
    unfold doneF
    have es : (toSt rs').signs.isEmpty = rs'.signs.isEmpty := by
      show (rs'.signs.map one).isEmpty = _
      cases rs'.signs <;> rfl
    simp only
    rw [es, tx_len]
    cases hsg : rs'.signs.isEmpty with
    | false => rfl
    | true =>
      rcases hs with h | ⟨_, hen, hst⟩
      · exact absurd (by simpa using hsg) h
      · have hE : rEnds rs' = none := by
          unfold rEnds
          rw [hen, if_neg Bool.false_ne_true, if_pos hst]
        rw [if_pos rfl, rEnds_is I V (by have := T.len; omega), hE]
        rfl
  | good e v =>
    obtain ⟨h3, h4, h5, rs', g, Q⟩ := h2
    by_cases he : e = l.length
    · rw [show prDue l (.good e v) = .list [.str "told", v] from if_pos he]
      subst he
      refine ⟨htold v (read_of T.len (fin rs' g) ?_), ?_, ?_⟩
      · unfold doneF
        simp only
        have es : (toSt rs').signs.isEmpty = true := by
          show (rs'.signs.map one).isEmpty = true
          rw [Q.sg]
          rfl
        rw [es, if_pos rfl, rEnds_is Q.ri Q.vd (by have := T.len; omega), Q.ends (found := []) (tl := []) rfl, Option.bind_some]
        rfl
      · simp [PyData.plain, PyData.plainAll, Q.vp]
      · have := hdep _ v rfl
        refine ⟨?_, ?_⟩
        · have := this.1
          simp only [PyData.depth, PyData.depthAll]
          omega
        · simp [small, smallAll, this.2]
    · rw [show prDue l (.good e v) = .list [.str "unread", .int (e : Nat)] from if_neg he]
      refine ⟨stop e ?_, rfl, ⟨by show 1 ≤ d + 2; omega, rfl⟩⟩
      obtain ⟨c, hc⟩ := get_of_lt (show e < l.length by omega)
      refine g.stop (stop1 T.len Q.ri (fun _ => Q.vd) hc ?_)
      by_cases h32 : c = 32
      · unfold rStep
        rw [if_neg (by omega), if_pos h32, if_pos (show rs'.signs = [] from Q.sg)]
      · exact Q.no hc h32 fun _ z zs hs => nomatch hs
end K88

set_option Elab.async false
set_option linter.all false
set_option maxRecDepth 100000
set_option maxHeartbeats 2000000
namespace Pu
open PySem PySem.Spec PyProof.Rows L2
section
variable {X : Cx}
/-- all([.. for key in mine]), mine an empty dict too -/
def fD0 (i : Nat) (f : Ev → Option PyData) : Ev → Option PyData := fun ev => match fVar i ev with
  | some (.dict []) => some (.bool true)
  | _ => f ev
theorem pu_allD0 {elt tg : Expr} {x : Str} {px p pos pos' : Pos} {scope : Scope} {own : List (Str × Nat)} {i : Nat} {g : TG} {tt : TT} {fe f : Ev → Option PyData}
    (h : PU X (.Call (.Name "all" p) [.ListComp elt [⟨tg, .Name x px, [], 0⟩] scope pos] [] pos') f)
    (hc : X.calm = true) (hN : X.N.Nodup) (hi : X.N[i]? = some x) (hv : Vis X.env.scope x) (hd : (x == ("__debug__" : Str)) = false) (hcd : (x == ("__classdict__" : Str)) = false)
    (ok : BlkOk X.N X.env.scope scope own)
    (hg : ∀ (s : Shared) (H : Hp) (C : Addr) (cl : List (Str × Addr)) (fp : List Addr), PG (X.blk s H scope (compEnvC scope cl C X.env) fp) tg g) (ht : ∀ (s : Shared) (H : Hp) (C : Addr) (cl : List (Str × Addr)) (fp : List Addr), PTs (X.blk s H scope (compEnvC scope cl C X.env) fp) [] tt)
    (he : ∀ (s : Shared) (H : Hp) (C : Addr) (cl : List (Str × Addr)) (fp : List Addr), PU (X.blk s H scope (compEnvC scope cl C X.env) fp) elt fe)
    (hgl : Gl X "all") (hm : X.mg "all" = none) (hs : ∀ y, foldedSetIterable (.Name x px) X.env y = pure y := by intro _; rfl)
    (hst : starEach [Expr.ListComp elt [⟨tg, .Name x px, [], 0⟩] scope pos] X.env = (false, eval (Expr.ListComp elt [⟨tg, .Name x px, [], 0⟩] scope pos) X.env) :: starEach [] X.env := by rfl) (hpl : (backTo pos' (starEach [] X.env)).any (·.1) = false := by rfl) :
    PU X (.Call (.Name "all" p) [.ListComp elt [⟨tg, .Name x px, [], 0⟩] scope pos] [] pos') (fD0 i f) :=
  ⟨conv (PE.or h.pe (pe_lock (pe_callB (cr_all hc) hgl hm boot_all (pa_cons (pe_lc hc hN (pi_keys (pe_var hi hv hd hcd)) ok hg ht (fun s H C cl fp => (he s H C cl fp).pe) hs) pa_nil) (by decide) (by decide) hst hpl))) fun σ H Q ⟨Hs, ev, w, s, re, e, q⟩ => by
    unfold fD0 at e
    split at e
    · rename_i hz
      cases e
      obtain ⟨v, h1, h2⟩ := re.at_ i _ (fVar_some hz)
      obtain ⟨d, kvs, rfl, hd2, hr⟩ := h2.dic_of rfl
      cases hr
      have hH := s _ _ hd2
      refine .inr ⟨d, .dK [], hH, trivial, fun od => ?_⟩
      refine ⟨_, h1, d, od, rfl, .inl ⟨[], upd_same, ?_⟩⟩
      intro D hD
      have hdD : D ≠ d := fun z => by subst z; rw [upd_same] at hD; cases hD
      have hHD : H D = none := by rw [upd_ne hdD] at hD; exact hD
      refine ⟨fun _ _ H2 => H2 = upd (upd H d (.frz od (.dK []))) D (.lst []), ⟨0, rfl⟩, ?_⟩
      rintro j m H2 rfl
      refine .inl ⟨⟨by rw [upd_ne hdD.symm]; exact upd_same, Nat.zero_le _⟩, ?_⟩
      refine ⟨D, [], rfl, SqL.of upd_same, by rw [upd_ne hdD.symm]; exact upd_same, ?_⟩
      refine q _ _ Hs ⟨?_, Same.refl _, ?_, fun _ h _ => h⟩ (.bl _)
      all_goals
        intro b o z
        try replace z := s _ _ z
        by_cases hb : b = d
        · subst hb
          rw [upd_same]
          rw [hH] at z
          exact z
        · have hbD : b ≠ D := fun y => by subst y; rw [hHD] at z; cases z
          rw [upd_ne hb, upd_ne hbD, upd_ne hb]
          exact z
    · exact .inl ⟨Hs, ev, w, s, re, e, q⟩⟩
end
end Pu

set_option Elab.async false
set_option linter.all false
set_option maxRecDepth 100000
set_option maxHeartbeats 4000000
namespace K88
open PySem PySem.Spec PyProof.Rows L2 Pu
section
variable {P : Program} {w : World} {K : PySem.W.Frag} {mg : Str → Option Value} {base : Heap}
def FE2 (g__law_exact : List PyData → Option PyData) : Ev → Option Out := (fSeq (fIfS (fT (fIsi (fVar 0) ["dict"])) (fSeq (fIfS (fOr (fNot (fT (fIsi (fVar 1) ["dict"]))) (f2T gNe (fCall gLen (fCons (fVar 0) fNil)) (fCall gLen (fCons (fVar 1) fNil)))) (fSeq (fRet (fC (.bool false))) fNext) fNext) (fSeq (fRet (fD0 0 (fCall gAll (fCons (fComp (fIt (fVar 0)) asOne [2] [2] (fun _ => some true) (fAndV (fB (f2T gInD (fVar 2) (fVar 1))) (fCall g__law_exact (fCons (f2 gIx (fVar 0) (fVar 2)) (fCons (f2 gIx (fVar 1) (fVar 2)) fNil))))) fNil)))) fNext)) fNext) (fSeq (fIfS (fT (fIsi (fVar 0) ["list", "tuple"])) (fSeq (fSet 3 (fB (f2T gEq (fIsi (fVar 1) ["list"]) (fIsi (fVar 0) ["list"])))) (fSeq (fSet 4 (fAndV (fVar 3) (fB (f2T gEq (fIsi (fVar 1) ["tuple"]) (fIsi (fVar 0) ["tuple"]))))) (fSeq (fRet (fAndV (fVar 4) (fAndV (fB (f2T gEq (fCall gLen (fCons (fVar 0) fNil)) (fCall gLen (fCons (fVar 1) fNil)))) (fCall gAll (fCons (fComp (fZip (fVar 0) (fVar 1)) (asTup 2) [5, 6] [5, 6] (fun _ => some true) (fCall g__law_exact (fCons (fVar 5) (fCons (fVar 6) fNil)))) fNil))))) fNext))) fNext) (fSeq (fIfS (fOr (fT (fIsi (fVar 1) ["list", "tuple", "dict"])) (f2T gNe (fB (f2T isD (fVar 0) (fC .none))) (fB (f2T isD (fVar 1) (fC .none))))) (fSeq (fRet (fC (.bool false))) fNext) fNext) (fSeq (fSet 4 (fAndV (fB (f2T gEq (fIsi (fVar 0) ["int"]) (fIsi (fVar 1) ["int"]))) (fB (f2T gEq (fIsi (fVar 0) ["str"]) (fIsi (fVar 1) ["str"]))))) (fSeq (fRet (fAndV (fVar 4) (fAndV (fB (f2T gEq (fIsi (fVar 0) ["bool"]) (fIsi (fVar 1) ["bool"]))) (fB (f2T gEq (fVar 0) (fVar 1)))))) fNext)))))
theorem d_exact2 {k : Nat} {g__law_exact : List PyData → Option PyData}  (D : DefAt K mg "_law_exact" "_law_exact" s__law_exact ["mine", "theirs"]) (m_isinstance : mg "isinstance" = none) (m_bool : mg "bool" = none) (m_str : mg "str" = none) (m_int : mg "int" = none) (m_list : mg "list" = none) (m_tuple : mg "tuple" = none) (m_dict : mg "dict" = none) (m_zip : mg "zip" = none) (m_all : mg "all" = none) (m_len : mg "len" = none) (D__law_exact : DefP P w K mg base "_law_exact" k ["mine", "theirs"] g__law_exact) : DefP P w K mg base "_law_exact" (k + 1) ["mine", "theirs"] (runF ["mine", "theirs", "key", "is_list", "is_like", "a", "b"] 2 (FE2 g__law_exact)) :=
  defP_of D sc__law_exact fun f cdv A outer s H E hr nd => (puss_cons (pus_if (put_val (pu_isi (x := "dict") (T := "dict") (pu_var 0) rfl m_isinstance rfl m_dict (by decide +kernel) (by decide))) (puss_cons (pus_if (put_w (puw_or (put_not (put_val (pu_isi (x := "dict") (T := "dict") (pu_var 1) rfl m_isinstance rfl m_dict (by decide +kernel) (by decide)))) (puw_or1 (put_cmp (o_ne (u64 hr)) g_ne (pu_callB c_len gc_len rfl m_len boot_len (pua_cons (pu_var 0) pua_nil)) (pu_callB c_len gc_len rfl m_len boot_len (pua_cons (pu_var 1) pua_nil)) (nomark _))))) (puss_cons (pus_ret pu_bl) puss_nil) puss_nil) (puss_cons (pus_ret (pu_allD0 (pu_callB (cr_all rfl) gc_all rfl m_all boot_all (pua_cons (pu_lc (own := [("key", 2)]) (is := [2]) rfl nd (pui_any (pu_var 0)) (blkOk_by (N := ["mine", "theirs", "key", "is_list", "is_like", "a", "b"]) (sc := defScope s__law_exact) (by decide +kernel)) gp_one tp_yes (by decide) (fun _ _ _ _ _ => (pg_name (i := 2) nd rfl (Or.inl rfl))) (fun _ _ _ _ _ => pts_nil) (fun _ _ _ _ _ => (pu_and (pu_in (u1 hr) (pu_var 2) (pu_var 1)) (pu_one (pu_callD D__law_exact hr rfl (pua_cons (pu_ix (u1 hr) (pu_var 0) (pu_var 2) (fun _ _ => rfl) (fun _ _ => rfl)) (pua_cons (pu_ix (u1 hr) (pu_var 1) (pu_var 2) (fun _ _ => rfl) (fun _ _ => rfl)) pua_nil))))))) pua_nil)) rfl nd rfl (by first | exact Or.inl rfl | exact Or.inr (Or.inl rfl) | exact Or.inr (Or.inr rfl)) (by decide) (by decide) (blkOk_by (N := ["mine", "theirs", "key", "is_list", "is_like", "a", "b"]) (sc := defScope s__law_exact) (own := [("key", 2)]) (by decide +kernel)) (fun _ _ _ _ _ => pg_name (i := 2) nd rfl (Or.inl rfl)) (fun _ _ _ _ _ => pts_nil) (fun _ _ _ _ _ => (pu_and (pu_in (u1 hr) (pu_var 2) (pu_var 1)) (pu_one (pu_callD D__law_exact hr rfl (pua_cons (pu_ix (u1 hr) (pu_var 0) (pu_var 2) (fun _ _ => rfl) (fun _ _ => rfl)) (pua_cons (pu_ix (u1 hr) (pu_var 1) (pu_var 2) (fun _ _ => rfl) (fun _ _ => rfl)) pua_nil)))))) rfl m_all)) puss_nil)) puss_nil) (puss_cons (pus_if (put_val (pu_isi2 (x := "list") (y := "tuple") (T := "list") (U := "tuple") (pu_var 0) rfl m_isinstance rfl m_list (by decide +kernel) (by decide) rfl m_tuple (by decide +kernel) (by decide))) (puss_cons (pus_set (i := 3) nd rfl (Or.inl rfl) (pu_cmp (o_eq (u64 hr)) g_eq (pu_isi (x := "list") (T := "list") (pu_var 1) rfl m_isinstance rfl m_list (by decide +kernel) (by decide)) (pu_isi (x := "list") (T := "list") (pu_var 0) rfl m_isinstance rfl m_list (by decide +kernel) (by decide)) (nomark _))) (puss_cons (pus_set (i := 4) nd rfl (Or.inl rfl) (pu_and (pu_var 3) (pu_one (pu_cmp (o_eq (u64 hr)) g_eq (pu_isi (x := "tuple") (T := "tuple") (pu_var 1) rfl m_isinstance rfl m_tuple (by decide +kernel) (by decide)) (pu_isi (x := "tuple") (T := "tuple") (pu_var 0) rfl m_isinstance rfl m_tuple (by decide +kernel) (by decide)) (nomark _))))) (puss_cons (pus_ret (pu_and (pu_var 4) (pu_and (pu_cmp (o_eq (u64 hr)) g_eq (pu_callB c_len gc_len rfl m_len boot_len (pua_cons (pu_var 0) pua_nil)) (pu_callB c_len gc_len rfl m_len boot_len (pua_cons (pu_var 1) pua_nil)) (nomark _)) (pu_one (pu_callB (cr_all rfl) gc_all rfl m_all boot_all (pua_cons (pu_lc (own := [("a", 5), ("b", 6)]) (is := [5, 6]) rfl nd (pui_zip (pu_var 0) (pu_var 1) rfl m_zip) (blkOk_by (N := ["mine", "theirs", "key", "is_list", "is_like", "a", "b"]) (sc := defScope s__law_exact) (by decide +kernel)) gp_tup2 tp_yes (by decide) (fun _ _ _ _ _ => (pg_tup rfl (pgs_cons (pg_name (i := 5) nd rfl (Or.inl rfl)) (pgs_cons (pg_name (i := 6) nd rfl (Or.inl rfl)) pgs_nil)))) (fun _ _ _ _ _ => pts_nil) (fun _ _ _ _ _ => (pu_callD D__law_exact hr rfl (pua_cons (pu_var 5) (pua_cons (pu_var 6) pua_nil))))) pua_nil)))))) puss_nil))) puss_nil) (puss_cons (pus_if (put_w (puw_or (put_val (pu_isi3 (x := "list") (y := "tuple") (z := "dict") (T := "list") (U := "tuple") (W := "dict") (pu_var 1) rfl m_isinstance rfl m_list (by decide +kernel) (by decide) rfl m_tuple (by decide +kernel) (by decide) rfl m_dict (by decide +kernel) (by decide))) (puw_or1 (put_cmp (o_ne (u64 hr)) g_ne (pu_cmp o_is g_is (pu_var 0) pu_non (nomark _)) (pu_cmp o_is g_is (pu_var 1) pu_non (nomark _)) (nomark _))))) (puss_cons (pus_ret pu_bl) puss_nil) puss_nil) (puss_cons (pus_set (i := 4) nd rfl (Or.inl rfl) (pu_and (pu_cmp (o_eq (u64 hr)) g_eq (pu_isi (x := "int") (T := "int") (pu_var 0) rfl m_isinstance rfl m_int (by decide +kernel) (by decide)) (pu_isi (x := "int") (T := "int") (pu_var 1) rfl m_isinstance rfl m_int (by decide +kernel) (by decide)) (nomark _)) (pu_one (pu_cmp (o_eq (u64 hr)) g_eq (pu_isi (x := "str") (T := "str") (pu_var 0) rfl m_isinstance rfl m_str (by decide +kernel) (by decide)) (pu_isi (x := "str") (T := "str") (pu_var 1) rfl m_isinstance rfl m_str (by decide +kernel) (by decide)) (nomark _))))) (puss_cons (pus_ret (pu_and (pu_var 4) (pu_and (pu_cmp (o_eq (u64 hr)) g_eq (pu_isi (x := "bool") (T := "bool") (pu_var 0) rfl m_isinstance rfl m_bool (by decide +kernel) (by decide)) (pu_isi (x := "bool") (T := "bool") (pu_var 1) rfl m_isinstance rfl m_bool (by decide +kernel) (by decide)) (nomark _)) (pu_one (pu_cmp (o_eq (u64 hr)) g_eq (pu_var 0) (pu_var 1) (nomark _)))))) puss_nil)))))
end
end K88

set_option Elab.async false
set_option linter.all false
set_option maxRecDepth 100000
set_option maxHeartbeats 4000000
namespace K88
open PySem PySem.Spec PyProof.Rows L2 Pu
def gE : Nat → List PyData → Option PyData
  | 0 => fun _ => none
  | n + 1 => runF ["mine", "theirs", "key", "is_list", "is_like", "a", "b"] 2 (FE2 (gE n))
theorem compL_pairs {fe : Ev → Option PyData} {ev : Ev} {i j : Nat} : ∀ {xs : List PyData}, (∀ x ∈ xs, fe ((ev.set i (some x)).set j (some x)) = some (.bool true)) → compL (asTup 2) [i, j] (fun _ => some true) fe ev (zipD xs xs) = some (xs.map fun _ => .bool true)
  | [], _ => rfl
  | x :: xs, h => by
    show ((fe ((ev.set i (some x)).set j (some x))).bind fun y => (compL (asTup 2) [i, j] (fun _ => some true) fe ev (zipD xs xs)).bind fun ys => some (y :: ys)) = _
    rw [h x List.mem_cons_self, compL_pairs fun y hy => h y (List.mem_cons_of_mem _ hy)]
    rfl
theorem all_true (xs : List PyData) : gAll [.list (xs.map fun _ => .bool true)] = some (.bool true) := by
  show (asBs (xs.map fun _ => .bool true)).map (fun bs => PyData.bool (bs.all id)) = _
  rw [asBs_map (h := fun _ => true)]
  show some (PyData.bool ((xs.map fun _ => true).all id)) = _
  congr 2
  rw [List.all_eq_true]
  intro b hb
  obtain ⟨_, _, rfl⟩ := List.mem_map.mp hb
  rfl
theorem plain_mem : ∀ {xs : List PyData}, PyData.plainAll xs = true → ∀ x ∈ xs, x.plain = true
  | y :: ys, h, x, hx => by
    rw [PyData.plainAll, Bool.and_eq_true] at h
    rcases List.mem_cons.mp hx with rfl | hx
    · exact h.1
    · exact plain_mem h.2 x hx
theorem szA_mem {n : Nat} : ∀ {xs : List PyData}, SzA n xs → ∀ x ∈ xs, Sz n x
  | y :: ys, ⟨h1, h2⟩, x, hx => by
    rw [PyData.depthAll] at h1
    rw [smallAll, Bool.and_eq_true] at h2
    rcases List.mem_cons.mp hx with rfl | hx
    · exact ⟨by omega, h2.1⟩
    · exact szA_mem ⟨by omega, h2.2⟩ x hx
theorem exact_refl : ∀ (n : Nat) (w : PyData), w.plain = true → Sz n w → gE (n + 1) [w, w] = some (.bool true) := by
  intro n
  induction n with
  | zero =>
    intro w hp hs
    cases w with
    | none => rfl
    | bool b => cases b <;> rfl
    | int i =>
      refine z_run rfl ?_
      show FE2 (gE 0) [some (.int i), some (.int i), none, none, none, none, none] = _
      unfold FE2
      refine z_nx (z_ifF rfl rfl) (z_nx (z_ifF rfl rfl) (z_nx (z_ifF rfl rfl) (z_nx (z_set (w := .bool true) rfl) (z_rt (z_ret (z_andV (a := true) (b := true) rfl (z_andV (a := true) (b := true) rfl (z_B (z_2T rfl rfl (?_ : _ = some true))))))))))
      show some (i == i) = _
      rw [beq_self_eq_true]
    | str z =>
      refine z_run rfl ?_
      show FE2 (gE 0) [some (.str z), some (.str z), none, none, none, none, none] = _
      unfold FE2
      refine z_nx (z_ifF rfl rfl) (z_nx (z_ifF rfl rfl) (z_nx (z_ifF rfl rfl) (z_nx (z_set (w := .bool true) rfl) (z_rt (z_ret (z_andV (a := true) (b := true) rfl (z_andV (a := true) (b := true) rfl (z_B (z_2T rfl rfl (?_ : _ = some true))))))))))
      show some (z == z) = _
      rw [beq_self_eq_true]
    | list xs => have := hs.1; rw [PyData.depth] at this; omega
    | tuple xs => have := hs.1; rw [PyData.depth] at this; omega
    | dict ps => cases hp
  | succ n ih =>
    intro w hp hs
    have flatc : (∀ xs, w ≠ .list xs) → (∀ xs, w ≠ .tuple xs) → gE (n + 1 + 1) [w, w] = some (.bool true) := by
      intro h1 h2
      cases w with
      | none => rfl
      | bool b => cases b <;> rfl
      | int i =>
        refine z_run rfl ?_
        show FE2 (gE (n + 1)) [some (.int i), some (.int i), none, none, none, none, none] = _
        unfold FE2
        refine z_nx (z_ifF rfl rfl) (z_nx (z_ifF rfl rfl) (z_nx (z_ifF rfl rfl) (z_nx (z_set (w := .bool true) rfl) (z_rt (z_ret (z_andV (a := true) (b := true) rfl (z_andV (a := true) (b := true) rfl (z_B (z_2T rfl rfl (?_ : _ = some true))))))))))
        show some (i == i) = _
        rw [beq_self_eq_true]
      | str z =>
        refine z_run rfl ?_
        show FE2 (gE (n + 1)) [some (.str z), some (.str z), none, none, none, none, none] = _
        unfold FE2
        refine z_nx (z_ifF rfl rfl) (z_nx (z_ifF rfl rfl) (z_nx (z_ifF rfl rfl) (z_nx (z_set (w := .bool true) rfl) (z_rt (z_ret (z_andV (a := true) (b := true) rfl (z_andV (a := true) (b := true) rfl (z_B (z_2T rfl rfl (?_ : _ = some true))))))))))
        show some (z == z) = _
        rw [beq_self_eq_true]
      | list xs => exact absurd rfl (h1 xs)
      | tuple xs => exact absurd rfl (h2 xs)
      | dict ps => cases hp
    have rec_ : ∀ xs : List PyData, PyData.plainAll xs = true → SzA n xs → xs.length ≤ 1000000 → ∀ ev0 : Ev, fZip (fVar 0) (fVar 1) ev0 = some (zipD xs xs) → fCall gAll (fCons (fComp (fZip (fVar 0) (fVar 1)) (asTup 2) [5, 6] [5, 6] (fun _ => some true) (fCall (gE (n + 1)) (fCons (fVar 5) (fCons (fVar 6) fNil)))) fNil) ev0 = some (.bool true) ∨ ev0.length ≠ 7 := by
      intro xs h1 h2 h3 ev0 hz
      by_cases hl : ev0.length = 7
      · left
        have hsz := sizeLine_eq
        refine z_call (z_cons (w := .list (xs.map fun _ => .bool true)) ?_ rfl) (all_true xs)
        unfold fComp
        rw [hz, Option.bind_some]
        rw [if_pos (by rw [zipD_len]; omega)]
        have hc : compL (asTup 2) [5, 6] (fun _ => some true) (fCall (gE (n + 1)) (fCons (fVar 5) (fCons (fVar 6) fNil))) (wipeE ev0 [5, 6]) (zipD xs xs) = some (xs.map fun _ => .bool true) := by
          refine compL_pairs fun x hx => ?_
          have wl : (wipeE ev0 [5, 6]).length = 7 := by
            show ((ev0.set 6 none).set 5 none).length = 7
            rw [List.length_set, List.length_set, hl]
          have e5 : fVar 5 (((wipeE ev0 [5, 6]).set 5 (some x)).set 6 (some x)) = some x := by
            unfold fVar
            rw [List.getElem?_set_ne (by decide), List.getElem?_set_self (by omega)]
            rfl
          have e6 : fVar 6 (((wipeE ev0 [5, 6]).set 5 (some x)).set 6 (some x)) = some x := by
            unfold fVar
            rw [List.getElem?_set_self (by rw [List.length_set]; omega)]
            rfl
          exact z_call (z_cons e5 (z_cons e6 rfl)) (ih x (plain_mem h1 x hx) (szA_mem h2 x hx))
        rw [hc]
        rfl
      · exact .inr hl
    cases w with
    | list xs =>
      have h1 : SzA n xs := ⟨by have := hs.1; rw [PyData.depth] at this; omega, by have := hs.2; rw [small, Bool.and_eq_true] at this; exact this.2⟩
      have h2 : xs.length ≤ 1000000 := by have := hs.2; rw [small, Bool.and_eq_true] at this; exact of_decide_eq_true this.1
      have hlen : f2T gEq (fCall gLen (fCons (fVar 0) fNil)) (fCall gLen (fCons (fVar 1) fNil)) [some (.list xs), some (.list xs), none, some (.bool true), some (.bool true), none, none] = some true := by
        refine z_2T (w := .int xs.length) (u := .int xs.length) rfl rfl ?_
        rw [gEq_nat]; simp
      refine z_run rfl ?_
      show FE2 (gE (n + 1)) [some (.list xs), some (.list xs), none, none, none, none, none] = _
      unfold FE2
      refine z_nx (z_ifF rfl rfl) (z_rt (z_ifT rfl (z_nx (z_set (w := .bool true) rfl) (z_nx (z_set (w := .bool true) rfl) (z_rt (z_ret (z_andV (a := true) (b := true) rfl (z_andV (a := true) (b := true) (z_B hlen) ?_))))))))
      rcases rec_ xs hp h1 h2 [some (.list xs), some (.list xs), none, some (.bool true), some (.bool true), none, none] rfl with h | h
      · exact h
      · exact absurd rfl h
    | tuple xs =>
      have h1 : SzA n xs := ⟨by have := hs.1; rw [PyData.depth] at this; omega, by have := hs.2; rw [small, Bool.and_eq_true] at this; exact this.2⟩
      have h2 : xs.length ≤ 1000000 := by have := hs.2; rw [small, Bool.and_eq_true] at this; exact of_decide_eq_true this.1
      have hlen : f2T gEq (fCall gLen (fCons (fVar 0) fNil)) (fCall gLen (fCons (fVar 1) fNil)) [some (.tuple xs), some (.tuple xs), none, some (.bool true), some (.bool true), none, none] = some true := by
        refine z_2T (w := .int xs.length) (u := .int xs.length) rfl rfl ?_
        rw [gEq_nat]; simp
      refine z_run rfl ?_
      show FE2 (gE (n + 1)) [some (.tuple xs), some (.tuple xs), none, none, none, none, none] = _
      unfold FE2
      refine z_nx (z_ifF rfl rfl) (z_rt (z_ifT rfl (z_nx (z_set (w := .bool true) rfl) (z_nx (z_set (w := .bool true) rfl) (z_rt (z_ret (z_andV (a := true) (b := true) rfl (z_andV (a := true) (b := true) (z_B hlen) ?_))))))))
      rcases rec_ xs hp h1 h2 [some (.tuple xs), some (.tuple xs), none, some (.bool true), some (.bool true), none, none] rfl with h | h
      · exact h
      · exact absurd rfl h
    | none => exact flatc (fun _ z => nomatch z) (fun _ z => nomatch z)
    | bool b => exact flatc (fun _ z => nomatch z) (fun _ z => nomatch z)
    | int i => exact flatc (fun _ z => nomatch z) (fun _ z => nomatch z)
    | str z => exact flatc (fun _ z => nomatch z) (fun _ z => nomatch z)
    | dict ps => cases hp
theorem exact_d0 (n : Nat) : gE (n + 1) [.dict [], .dict []] = some (.bool true) := by
  refine z_run rfl ?_
  show FE2 (gE n) [some (.dict []), some (.dict []), none, none, none, none, none] = _
  unfold FE2
  exact z_rt (z_ifT rfl (z_nx (z_ifF rfl rfl) (z_rt (z_ret rfl))))
/-- ["text", {}] -/
theorem exact_text0 (n : Nat) : gE (n + 2) [.list [.str "text", .dict []], .list [.str "text", .dict []]] = some (.bool true) := by
  have e1 : gE (n + 1) [.str "text", .str "text"] = some (.bool true) := exact_refl n (.str "text") rfl ⟨by simp [PyData.depth], rfl⟩
  refine z_run rfl ?_
  show FE2 (gE (n + 1)) [some (.list [.str "text", .dict []]), some (.list [.str "text", .dict []]), none, none, none, none, none] = _
  unfold FE2
  refine z_nx (z_ifF rfl rfl) (z_rt (z_ifT rfl (z_nx (z_set (w := .bool true) rfl) (z_nx (z_set (w := .bool true) rfl) (z_rt (z_ret (z_andV (a := true) (b := true) rfl (z_andV (a := true) (b := true) rfl ?_))))))))
  have key : fCall gAll (fCons (fComp (fZip (fVar 0) (fVar 1)) (asTup 2) [5, 6] [5, 6] (fun _ => some true) (fCall (gE (n + 1)) (fCons (fVar 5) (fCons (fVar 6) fNil)))) fNil) [some (.list [.str "text", .dict []]), some (.list [.str "text", .dict []]), none, some (.bool true), some (.bool true), none, none] = some (.bool true) := by
    refine z_call (z_cons (w := .list ([PyData.str "text", .dict []].map fun _ => .bool true)) ?_ rfl) rfl
    unfold fComp
    rw [show fZip (fVar 0) (fVar 1) [some (.list [.str "text", .dict []]), some (.list [.str "text", .dict []]), none, some (.bool true), some (.bool true), none, none] = some (zipD [.str "text", .dict []] [.str "text", .dict []]) from rfl, Option.bind_some]
    rw [if_pos (by rw [zipD_len]; have := sizeLine_eq; simp; omega)]
    have hc : compL (asTup 2) [5, 6] (fun _ => some true) (fCall (gE (n + 1)) (fCons (fVar 5) (fCons (fVar 6) fNil))) (wipeE [some (.list [.str "text", .dict []]), some (.list [.str "text", .dict []]), none, some (.bool true), some (.bool true), none, none] [5, 6]) (zipD [.str "text", .dict []] [.str "text", .dict []]) = some ([PyData.str "text", .dict []].map fun _ => .bool true) := by
      refine compL_pairs fun x hx => ?_
      rcases List.mem_cons.mp hx with rfl | hx
      · exact z_call (z_cons rfl (z_cons rfl rfl)) e1
      · rcases List.mem_cons.mp hx with rfl | hx
        · exact z_call (z_cons rfl (z_cons rfl rfl)) (exact_d0 n)
        · cases hx
    rw [hc]
    rfl
  exact key
end K88

set_option Elab.async false
set_option linter.all false
set_option maxRecDepth 100000
set_option maxHeartbeats 4000000
/-! What texts may be: bounds that bends keep. -/
namespace K88
open PySem PySem.Spec PyProof.Rows L2 Pu
def bS (l : List Nat) : Int := (l.map op).sum
theorem bS_app (a b : List Nat) : bS (a ++ b) = bS a + bS b := by unfold bS; rw [List.map_append, List.sum_append]
/-- no run of digits longer than m -/
def DRm (m : Nat) (l : List Nat) : Prop := ∀ a b, a ≤ b → b ≤ l.length → (∀ k, a ≤ k → k < b → ∃ c, l[k]? = some c ∧ isDig c = true) → b - a ≤ m
/-- between no two places more than d are opened -/
def BI (d : Nat) (l : List Nat) : Prop := ∀ i j, i ≤ j → bS (l.take j) - bS (l.take i) ≤ d
structure Tp (n m d : Nat) (l : List Nat) : Prop where
  len : l.length ≤ n
  pr : ∀ c ∈ l, 32 ≤ c ∧ c ≤ 126
  dr : DRm m l
  bl : BI d l
theorem take_app (a b : List Nat) (k : Nat) : bS ((a ++ b).take k) = bS (a.take k) + bS (b.take (k - a.length)) := by
  rw [List.take_append, bS_app]
theorem Tp.app {n m d n' m' d' : Nat} {a b : List Nat} (h : Tp n m d a) (k : Tp n' m' d' b) : Tp (n + n') (m + m') (d + d') (a ++ b) := by
  refine ⟨by rw [List.length_append]; have := h.len; have := k.len; omega, fun c hc => ?_, fun i j hij hj hd => ?_, fun i j hij => ?_⟩
  · rcases List.mem_append.mp hc with z | z
    · exact h.pr c z
    · exact k.pr c z
  · rw [List.length_append] at hj
    have h1 := h.dr (min i a.length) (min j a.length) (by omega) (by omega) fun x hx1 hx2 => by
      obtain ⟨c, hc, hdg⟩ := hd x (by omega) (by omega)
      rw [List.getElem?_append_left (by omega)] at hc
      exact ⟨c, hc, hdg⟩
    have h2 := k.dr (i - a.length) (j - a.length) (by omega) (by omega) fun x hx1 hx2 => by
      obtain ⟨c, hc, hdg⟩ := hd (x + a.length) (by omega) (by omega)
      rw [List.getElem?_append_right (by omega), Nat.add_sub_cancel] at hc
      exact ⟨c, hc, hdg⟩
    omega
  · rw [take_app, take_app]
    have h1 := h.bl i j hij
    have h2 := k.bl (i - a.length) (j - a.length) (by omega)
    omega
theorem Tp.take {n m d : Nat} {l : List Nat} (h : Tp n m d l) (i : Nat) : Tp n m d (l.take i) := by
  refine ⟨by rw [List.length_take]; have := h.len; omega, fun c hc => h.pr c (List.mem_of_mem_take hc), fun a b hab hb hd => ?_, fun a b hab => ?_⟩
  · rw [List.length_take] at hb
    refine h.dr a b hab (by omega) fun x hx1 hx2 => ?_
    obtain ⟨c, hc, hdg⟩ := hd x hx1 hx2
    rw [List.getElem?_take_of_lt (by omega)] at hc
    exact ⟨c, hc, hdg⟩
  · rw [List.take_take, List.take_take]
    exact h.bl _ _ (by omega)
theorem Tp.drop {n m d : Nat} {l : List Nat} (h : Tp n m d l) (i : Nat) : Tp n m d (l.drop i) := by
  refine ⟨by rw [List.length_drop]; have := h.len; omega, fun c hc => h.pr c (List.mem_of_mem_drop hc), fun a b hab hb hd => ?_, fun a b hab => ?_⟩
  · rw [List.length_drop] at hb
    by_cases hab0 : b ≤ a
    · omega
    have := h.dr (i + a) (i + b) (by omega) (by omega) fun x hx1 hx2 => by
      obtain ⟨c, hc, hdg⟩ := hd (x - i) (by omega) (by omega)
      rw [List.getElem?_drop, show i + (x - i) = x by omega] at hc
      exact ⟨c, hc, hdg⟩
    omega
  · have e : ∀ k, bS (l.take (i + k)) = bS (l.take i) + bS ((l.drop i).take k) := fun k => by rw [List.take_add, bS_app]
    have h1 := e a
    have h2 := e b
    have h3 := h.bl (i + a) (i + b) (by omega)
    omega
theorem Tp.more {n m d n' m' d' : Nat} {l : List Nat} (h : Tp n m d l) (h1 : n ≤ n') (h2 : m ≤ m') (h3 : d ≤ d') : Tp n' m' d' l :=
  ⟨Nat.le_trans h.len h1, h.pr, fun a b hab hb hd => Nat.le_trans (h.dr a b hab hb hd) h2, fun i j hij => by have := h.bl i j hij; omega⟩
theorem op_le (c : Nat) : op c ≤ 1 ∧ -1 ≤ op c := by
  unfold op
  split
  · exact ⟨by decide, by decide⟩
  · split <;> exact ⟨by decide, by decide⟩
theorem Tp.sign {l : List Nat} (h : l.length ≤ 2) (hp : ∀ c ∈ l, 32 ≤ c ∧ c ≤ 126) : Tp 2 2 2 l := by
  refine ⟨h, hp, fun a b _ hb _ => by omega, fun i j hij => ?_⟩
  match l, h with
  | [], _ => simp [bS]
  | [a], _ =>
    have ha := op_le a
    rcases i with _ | i <;> rcases j with _ | j <;> simp [bS] <;> omega
  | [a, b], _ =>
    have ha := op_le a
    have hb := op_le b
    rcases i with _ | _ | i <;> rcases j with _ | _ | j <;> simp [bS] <;> omega
theorem signL_pr : ∀ s ∈ signL, ∀ c ∈ s, 32 ≤ c ∧ c ≤ 126 := by decide +kernel
theorem Tp.bent {n m d : Nat} {l l' : List Nat} (h : Tp n m d l) (b : Bent l l') : Tp (2 * n + 2) (2 * m + 2) (2 * d + 2) l' := by
  obtain ⟨i, j, sg, hi, hj, hs, hm⟩ := b
  have hsg : Tp 2 2 2 sg := Tp.sign (sign_len sg hs) (signL_pr sg hs)
  have hsp : Tp 2 2 2 [32] := Tp.sign (by decide) (fun c hc => by rw [List.mem_singleton.mp hc]; decide)
  unfold bentL at hm
  simp only [List.mem_cons, List.not_mem_nil, or_false] at hm
  rcases hm with rfl | rfl | rfl | rfl | rfl | rfl | rfl | rfl | rfl
  · exact (((h.take i).app hsg).app (h.drop i)).more (by omega) (by omega) (by omega)
  · exact ((h.take i).app (h.drop (i + 1))).more (by omega) (by omega) (by omega)
  · exact (((h.take i).app hsg).app (h.drop (i + 1))).more (by omega) (by omega) (by omega)
  · exact (h.take i).more (by omega) (by omega) (by omega)
  · exact (h.drop i).more (by omega) (by omega) (by omega)
  · exact (h.app hsp).more (by omega) (by omega) (by omega)
  · exact (hsp.app h).more (by omega) (by omega) (by omega)
  · exact (h.app h).more (by omega) (by omega) (by omega)
  · exact ((h.take i).app (h.drop j)).more (by omega) (by omega) (by omega)
theorem Tp.ok {n m d : Nat} {l : List Nat} (h : Tp n m d l) (hn : n ≤ 500000) (hm : m ≤ 600) : TextOk d l :=
  ⟨Nat.le_trans h.len hn, h.pr, fun a b hab hb hd => Nat.le_trans (h.dr a b hab hb hd) hm, fun k _ => by
    have := h.bl 0 k (Nat.zero_le _)
    have e : bS (l.take 0) = 0 := by rw [List.take_zero]; rfl
    rw [e] at this
    have e2 : bal l k = bS (l.take k) := rfl
    omega⟩
end K88

set_option Elab.async false
set_option linter.all false
set_option maxRecDepth 100000
set_option maxHeartbeats 4000000
/-! Texts of things. -/
namespace K88
open PySem PySem.Spec PyProof.Rows L2 Pu
structure Tq (n d : Nat) (l : List Nat) : Prop where
  len : l.length ≤ n
  pr : ∀ c ∈ l, 32 ≤ c ∧ c ≤ 126
  dr : DRm 40 l
  z : ∀ k, 0 ≤ bS (l.take k) ∧ bS (l.take k) ≤ d
  tot : bS l = 0
theorem Tq.tp {n d : Nat} {l : List Nat} (h : Tq n d l) : Tp n 40 d l := ⟨h.len, h.pr, h.dr, fun i j _ => by have h1 := h.z i; have h2 := h.z j; omega⟩
theorem Tq.more {n d n' d' : Nat} {l : List Nat} (h : Tq n d l) (h1 : n ≤ n') (h2 : d ≤ d') : Tq n' d' l := ⟨Nat.le_trans h.len h1, h.pr, h.dr, fun k => by have := h.z k; omega, h.tot⟩
theorem Tq.leaf {l : List Nat} (h : l.length ≤ 40) (hp : ∀ c ∈ l, 32 ≤ c ∧ c ≤ 126 ∧ op c = 0) : Tq 40 0 l := by
  have b0 : ∀ m : List Nat, (∀ c ∈ m, op c = 0) → bS m = 0 := fun m hm => by
    induction m with
    | nil => rfl
    | cons a m ih =>
      have : bS (a :: m) = op a + bS m := by unfold bS; rw [List.map_cons, List.sum_cons]
      rw [this, hm a List.mem_cons_self, ih fun c hc => hm c (List.mem_cons_of_mem _ hc)]
      rfl
  refine ⟨h, fun c hc => ⟨(hp c hc).1, (hp c hc).2.1⟩, fun a b _ hb _ => by omega, fun k => ?_, b0 l fun c hc => (hp c hc).2.2⟩
  rw [b0 (l.take k) fun c hc => (hp c (List.mem_of_mem_take hc)).2.2]
  exact ⟨Int.le_refl _, Int.le_refl _⟩
theorem Tq.nil {d : Nat} : Tq 0 d [] := ⟨Nat.le_refl _, (fun c h => nomatch h), fun a b _ hb _ => by simp at hb; omega, fun k => by rw [List.take_nil]; exact ⟨Int.le_refl _, Int.natCast_nonneg d⟩, rfl⟩
/-- a sign that is no digit parts the runs -/
theorem DRm.mid {m : Nat} {a b : List Nat} {c : Nat} (h : DRm m a) (k : DRm m b) (hc : isDig c = false) : DRm m (a ++ ([c] ++ b)) := by
  intro i j hij hj hd
  rw [List.length_append, List.length_append, List.length_singleton] at hj
  have hno : ¬ (i ≤ a.length ∧ a.length < j) := fun z => by
    obtain ⟨x, hx, hdx⟩ := hd a.length z.1 z.2
    rw [List.getElem?_append_right (Nat.le_refl _), Nat.sub_self] at hx
    cases hx
    rw [hc] at hdx
    cases hdx
  by_cases h1 : j ≤ a.length
  · refine h i j hij h1 fun x hx1 hx2 => ?_
    obtain ⟨y, hy, hdy⟩ := hd x hx1 hx2
    rw [List.getElem?_append_left (by omega)] at hy
    exact ⟨y, hy, hdy⟩
  · by_cases hij2 : j ≤ i
    · omega
    have := k (i - a.length - 1) (j - a.length - 1) (by omega) (by omega) fun x hx1 hx2 => by
      obtain ⟨y, hy, hdy⟩ := hd (x + a.length + 1) (by omega) (by omega)
      rw [List.getElem?_append_right (by omega), List.getElem?_append_right (by rw [List.length_singleton]; omega), List.length_singleton, show x + a.length + 1 - a.length - 1 = x by omega] at hy
      exact ⟨y, hy, hdy⟩
    omega
theorem Tq.sep {n m d : Nat} {a b : List Nat} (h : Tq n d a) (k : Tq m d b) : Tq (n + 1 + m) d (a ++ ([32] ++ b)) := by
  refine ⟨by simp only [List.length_append, List.length_singleton]; have := h.len; have := k.len; omega, fun c hc => ?_, h.dr.mid k.dr rfl, fun i => ?_, ?_⟩
  · rcases List.mem_append.mp hc with z | z
    · exact h.pr c z
    · rcases List.mem_append.mp z with z | z
      · rw [List.mem_singleton.mp z]; decide
      · exact k.pr c z
  · rw [take_app, take_app]
    have e1 : bS (([32] : List Nat).take (i - a.length)) = 0 := by rcases i - a.length with _ | x <;> simp [bS, op]
    rw [e1]
    by_cases hi : i ≤ a.length
    · rw [show i - a.length = 0 by omega, Nat.zero_sub, List.take_zero]
      have := h.z i
      have e : bS [] = 0 := rfl
      rw [e]
      omega
    · rw [List.take_of_length_le (by omega), h.tot]
      have := k.z (i - a.length - [32].length)
      omega
  · rw [bS_app, bS_app, h.tot, k.tot]
    rfl
theorem Tq.wrap {n d o c : Nat} {l : List Nat} (hoc : (o = 40 ∧ c = 41) ∨ (o = 91 ∧ c = 93)) (h : Tq n d l) : Tq (n + 2) (d + 1) ([o] ++ l ++ [c]) := by
  have ho : op o = 1 ∧ isDig o = false ∧ 32 ≤ o ∧ o ≤ 126 := by rcases hoc with ⟨rfl, rfl⟩ | ⟨rfl, rfl⟩ <;> decide
  have hc : op c = -1 ∧ isDig c = false ∧ 32 ≤ c ∧ c ≤ 126 := by rcases hoc with ⟨rfl, rfl⟩ | ⟨rfl, rfl⟩ <;> decide
  have d0 : DRm 40 [] := fun a b _ hb _ => by simp at hb; omega
  refine ⟨by simp only [List.length_append, List.length_singleton]; have := h.len; omega, fun x hx => ?_, ?_, fun i => ?_, ?_⟩
  · rcases List.mem_append.mp hx with z | z
    · rcases List.mem_append.mp z with z | z
      · rw [List.mem_singleton.mp z]; exact ho.2.2
      · exact h.pr x z
    · rw [List.mem_singleton.mp z]; exact hc.2.2
  · have h1 := h.dr.mid d0 hc.2.1
    have h2 := d0.mid h1 ho.2.1
    have e : [] ++ ([o] ++ (l ++ ([c] ++ []))) = [o] ++ l ++ [c] := by simp
    rw [e] at h2
    exact h2
  · rw [take_app, take_app]
    rcases i with _ | i
    · simp [bS]
      omega
    · have e1 : bS (([o] : List Nat).take (i + 1)) = 1 := by simp [bS, ho.1]
      rw [e1]
      have e2 : i + 1 - [o].length = i := by simp
      rw [e2]
      have hz := h.z i
      by_cases hi : i + 1 ≤ ([o] ++ l).length
      · rw [show i + 1 - ([o] ++ l).length = 0 by omega, List.take_zero]
        have e : bS [] = 0 := rfl
        rw [e]
        omega
      · have hli : l.length ≤ i := by simp at hi; omega
        rw [List.take_of_length_le hli, h.tot]
        have e3 : bS (([c] : List Nat).take (i + 1 - ([o] ++ l).length)) = -1 := by
          rw [List.take_of_length_le (by rw [List.length_singleton]; omega)]
          simp [bS, hc.1]
        rw [e3]
        omega
  · rw [bS_app, bS_app, h.tot]
    simp [bS, ho.1, hc.1]
/-! ### the mirror -/
def gT : Nat → List PyData → Option PyData
  | 0 => fun _ => none
  | n + 1 => runF ["thing", "text", "part"] 1 (F__law_thing_text (gT n))
def NT : Nat → Nat
  | 0 => 40
  | d + 1 => 3 * NT d + 4
theorem NT_ge : ∀ d, 40 ≤ NT d
  | 0 => Nat.le_refl _
  | d + 1 => by have := NT_ge d; show 40 ≤ 3 * NT d + 4; omega
theorem ds_toString (n : Nat) : (Str.ofString (toString ((n : Nat) : Int))).cps.toList = TL.numL n := TL.tl_num n
theorem neg_toString (n : Nat) : (Str.ofString (toString (Int.negSucc n))).cps.toList = 45 :: TL.numL (n + 1) := by
  rw [PyProof.Rows.signs_ofString]
  have e : toString (Int.negSucc n) = "-" ++ Nat.repr (n + 1) := rfl
  rw [e, String.toList_append, List.map_append]
  show [45] ++ _ = _
  have h := ds_toString (n + 1)
  rw [PyProof.Rows.signs_ofString] at h
  have e2 : toString (((n + 1 : Nat)) : Int) = Nat.repr (n + 1) := rfl
  rw [e2] at h
  rw [h]
  rfl
theorem words_ok : ∀ z ∈ wordsL, (z.length + (z.length + 1) * 1 ≤ 16777216 ∧ (Txt.replace z " " "_").cps.toList.length ≤ 40) ∧ ∀ c ∈ (Txt.replace z " " "_").cps.toList, 32 ≤ c ∧ c ≤ 126 ∧ c ≠ 40 ∧ c ≠ 41 ∧ c ≠ 91 ∧ c ≠ 93 := by decide +kernel
theorem op0 {c : Nat} (h : c ≠ 40 ∧ c ≠ 41 ∧ c ≠ 91 ∧ c ≠ 93) : op c = 0 := by
  unfold op
  rw [if_neg (by omega), if_neg (by omega)]
theorem tx_of (z : Str) : tx z.cps.toList = z := by
  show (⟨z.cps.toList.toArray⟩ : Str) = z
  rw [Array.toArray_toList]
theorem leaf_text {w : PyData} (h : Leaf w) (n : Nat) : ∃ l, gT (n + 1) [w] = some (.str (tx l)) ∧ Tq 40 0 l := by
  rcases h with rfl | ⟨b, rfl⟩ | ⟨i, rfl, hi1, hi2⟩ | ⟨z, hz, rfl⟩
  · exact ⟨[126], rfl, Tq.leaf (by decide) (by decide)⟩
  · cases b
    · exact ⟨[46], rfl, Tq.leaf (by decide) (by decide)⟩
    · exact ⟨[33], rfl, Tq.leaf (by decide) (by decide)⟩
  · have hlog : i.natAbs.log2 < 1920 := by
      have h9 : i.natAbs < 2 ^ 110 := by
        have p31 : (10 : Int) ^ 31 = 10000000000000000000000000000000 := by decide +kernel
        rw [p31] at hi1 hi2
        omega
      exact Nat.lt_of_lt_of_le (PySem.Flt.log2_lt_of (by decide) h9) (by decide)
    have hs : gStr [.int i] = some (.str (Str.ofString (toString i))) := by
      show (if i.natAbs.log2 < 1920 then some (PyData.str (Str.ofString (toString i))) else none) = _
      rw [if_pos hlog]
    refine ⟨(Str.ofString (toString i)).cps.toList, ?_, ?_⟩
    · refine z_run rfl ?_
      show F__law_thing_text (gT n) [some (.int i), none, none] = _
      unfold F__law_thing_text
      refine z_nx (z_ifF rfl rfl) (z_nx (z_ifF rfl rfl) (z_rt (z_ret (z_ifET rfl (z_call (z_cons rfl rfl) ?_)))))
      rw [hs, tx_of]
    · have hd : ∀ n : Nat, n < 10 ^ 31 → (TL.numL n).length ≤ 31 ∧ ∀ c ∈ TL.numL n, 32 ≤ c ∧ c ≤ 126 ∧ op c = 0 := fun n hn => ⟨TL.numL_len (by decide) hn, fun c hc => by
        have := TL.numL_digits n c hc
        exact ⟨by omega, by omega, op0 (by omega)⟩⟩
      cases i with
      | ofNat n =>
        have h1 := hd n (by
          have : ((n : Nat) : Int) < 10 ^ 31 := hi2
          exact_mod_cast this)
        have e := ds_toString n
        rw [show toString (Int.ofNat n) = toString ((n : Nat) : Int) from rfl, e]
        exact Tq.leaf (by omega) h1.2
      | negSucc n =>
        have h1 := hd (n + 1) (by
          have p31 : (10 : Int) ^ 31 = 10000000000000000000000000000000 := by decide +kernel
          have p31' : (10 : Nat) ^ 31 = 10000000000000000000000000000000 := by decide +kernel
          rw [p31] at hi1
          rw [p31']
          omega)
        rw [neg_toString]
        refine Tq.leaf (by rw [List.length_cons]; omega) fun c hc => ?_
        rcases List.mem_cons.mp hc with rfl | hc
        · decide
        · exact h1.2 c hc
  · have h := words_ok z hz
    refine ⟨(Txt.replace z " " "_").cps.toList, ?_, Tq.leaf h.1.2 fun c hc => ⟨(h.2 c hc).1, (h.2 c hc).2.1, op0 (h.2 c hc).2.2⟩⟩
    refine z_run rfl ?_
    show F__law_thing_text (gT n) [some (.str z), none, none] = _
    unfold F__law_thing_text
    refine z_nx (z_ifF rfl rfl) (z_nx (z_ifF rfl rfl) (z_rt (z_ret (z_ifEF rfl ?_))))
    show gRepl " " "_" (.str z) = _
    rw [tx_of]
    show (if z.length + (z.length + 1) * 1 ≤ 16777216 then _ else none) = _
    rw [if_pos h.1.1]
end K88

set_option Elab.async false
set_option linter.all false
set_option maxRecDepth 100000
set_option maxHeartbeats 4000000
namespace K88
open PySem PySem.Spec PyProof.Rows L2 Pu
theorem asSs_tx : ∀ ls : List (List Nat), asSs (ls.map fun l => PyData.str (tx l)) = some (ls.map tx)
  | [] => rfl
  | l :: ls => by
    show (asSs (ls.map fun l => PyData.str (tx l))).map (tx l :: ·) = _
    rw [asSs_tx ls]
    rfl
theorem texts_of {g : List PyData → Option PyData} {n d : Nat} {ev : Ev} {i : Nat} (hi : i < ev.length) : ∀ {ds : List PyData}, (∀ x ∈ ds, ∃ l, g [x] = some (.str (tx l)) ∧ Tq n d l) → ∃ ls : List (List Nat), ls.length = ds.length ∧ compL asOne [i] (fun _ => some true) (fCall g (fCons (fVar i) fNil)) ev ds = some (ls.map fun l => .str (tx l)) ∧ ∀ l ∈ ls, Tq n d l
  | [], _ => ⟨[], rfl, rfl, fun l h => nomatch h⟩
  | x :: ds, h => by
    obtain ⟨l, h1, h2⟩ := h x List.mem_cons_self
    obtain ⟨ls, k1, k2, k3⟩ := texts_of (n := n) (d := d) hi (ds := ds) fun y hy => h y (List.mem_cons_of_mem _ hy)
    refine ⟨l :: ls, by rw [List.length_cons, List.length_cons, k1], ?_, fun m hm => ?_⟩
    · have e : fCall g (fCons (fVar i) fNil) (ev.set i (some x)) = some (.str (tx l)) := by
        refine z_call (z_cons (w := x) ?_ rfl) h1
        unfold fVar
        rw [List.getElem?_set_self hi]
        rfl
      show ((fCall g (fCons (fVar i) fNil) (ev.set i (some x))).bind fun y => (compL asOne [i] (fun _ => some true) (fCall g (fCons (fVar i) fNil)) ev ds).bind fun ys => some (y :: ys)) = _
      rw [e, k2]
      rfl
    · rcases List.mem_cons.mp hm with rfl | hm
      · exact h2
      · exact k3 m hm
theorem join_ok {n d : Nat} : ∀ {ls : List (List Nat)}, ls.length ≤ 3 → (∀ l ∈ ls, Tq n d l) → Tq (3 * n + 2) d (TL.joinL [32] ls)
  | [], _, _ => Tq.nil.more (Nat.zero_le _) (Nat.le_refl _)
  | [a], _, h => (h a (by simp)).more (by omega) (Nat.le_refl _)
  | [a, b], _, h => ((h a (by simp)).sep (h b (by simp))).more (by omega) (Nat.le_refl _)
  | [a, b, c], _, h => ((h a (by simp)).sep ((h b (by simp)).sep (h c (by simp)))).more (by omega) (Nat.le_refl _)
  | _ :: _ :: _ :: _ :: _, hl, _ => by simp at hl
theorem thing_text : ∀ (d : Nat) (w : PyData), d ≤ 4 → ThingOk d w → ∃ l, gT (d + 1) [w] = some (.str (tx l)) ∧ Tq (NT d) d l
  | 0, w, _, h => leaf_text h 0
  | d + 1, w, h4, h => by
    rcases h with h | ⟨ds, hw, hlen, hds⟩
    · obtain ⟨l, h1, h2⟩ := leaf_text h (d + 1)
      exact ⟨l, h1, h2.more (NT_ge _) (Nat.zero_le _)⟩
    · have hz := sizeLine_eq
      have hN : ∀ k, k ≤ 4 → NT k ≤ 3400 := by decide
      have hNd := hN d (by omega)
      obtain ⟨ls, k1, k2, k3⟩ := texts_of (g := gT (d + 1)) (n := NT d) (d := d) (ev := [some w, none, none]) (i := 2) (by show 2 < 3; decide) fun x hx => thing_text d x (by omega) (hds x hx)
      have hj := join_ok (by omega) k3
      have hsum : ((ls.map tx).map (·.length)).sum + (ls.map tx).length * (" " : Str).length ≤ 16777216 := by
        have : ∀ ms : List (List Nat), (∀ l ∈ ms, Tq (NT d) d l) → ((ms.map tx).map (·.length)).sum ≤ ms.length * NT d := fun ms hm => by
          induction ms with
          | nil => exact Nat.zero_le _
          | cons m ms ih =>
            rw [List.map_cons, List.map_cons, List.sum_cons, List.length_cons, Nat.succ_mul]
            have h1 := (hm m List.mem_cons_self).len
            have h2 := ih fun l hl => hm l (List.mem_cons_of_mem _ hl)
            rw [tx_len]
            omega
        have h1 := this ls k3
        have h2 : ls.length * NT d ≤ 3 * 3400 := Nat.mul_le_mul (by omega) hNd
        rw [List.length_map]
        show _ + ls.length * 1 ≤ _
        omega
      have hcomp : ∀ t : Ev, t = [some w, none, none] → (w = .tuple ds ∨ w = .list ds) → fJoin (fC (.str " ")) (fComp (fIt (fVar 0)) asOne [2] [2] (fun _ => some true) (fCall (gT (d + 1)) (fCons (fVar 2) fNil))) t = some (.str (tx (TL.joinL [32] ls))) := by
        rintro t rfl hw
        have hit : fIt (fVar 0) [some w, none, none] = some ds := by rcases hw with rfl | rfl <;> rfl
        have hc : fComp (fIt (fVar 0)) asOne [2] [2] (fun _ => some true) (fCall (gT (d + 1)) (fCons (fVar 2) fNil)) [some w, none, none] = some (.list (ls.map fun l => .str (tx l))) := by
          unfold fComp
          rw [hit, Option.bind_some, if_pos (by omega)]
          show (compL asOne [2] (fun _ => some true) (fCall (gT (d + 1)) (fCons (fVar 2) fNil)) [some w, none, none] ds).bind _ = _
          rw [k2]
          rfl
        unfold fJoin
        rw [hc]
        show gJoin " " (.list (ls.map fun l => .str (tx l))) = _
        unfold gJoin
        show (asSs (ls.map fun l => PyData.str (tx l))).bind _ = _
        rw [asSs_tx, Option.bind_some, if_pos hsum]
        congr 2
        refine TL.ext_tl ?_
        rw [TL.join_eq, TL.tl_join, List.map_map]
        have e : ls.map (TL.tl ∘ tx) = ls := by
          have : (TL.tl ∘ tx) = id := by funext l; show (tx l).cps.toList = l; simp [tx]
          rw [this, List.map_id]
        rw [e]
        show TL.joinL [32] ls = (tx _).cps.toList
        simp [tx]
      have hjl := hj.len
      have hwrap : ∀ (o c : Nat), (o = 40 ∧ c = 41) ∨ (o = 91 ∧ c = 93) → Tq (NT (d + 1)) (d + 1) ([o] ++ TL.joinL [32] ls ++ [c]) := fun o c h => by
        refine (Tq.wrap h hj).more ?_ (Nat.le_refl _)
        show 3 * NT d + 2 + 2 ≤ 3 * NT d + 4
        omega
      have two : ∀ (o c : Nat) (zo zc : Str), zo = tx [o] → zc = tx [c] → ∀ t : Ev, fVar 1 t = some (.str (tx (TL.joinL [32] ls))) → f2 gAdd (f2 gAdd (fC (.str zo)) (fVar 1)) (fC (.str zc)) t = some (.str (tx ([o] ++ TL.joinL [32] ls ++ [c]))) := by
        rintro o c zo zc rfl rfl t ht
        refine f2_tx (f2_tx rfl ht ?_) rfl ?_
        · rw [List.length_singleton]; omega
        · rw [List.length_append, List.length_singleton, List.length_singleton]; omega
      rcases hw with rfl | rfl
      · refine ⟨_, z_run rfl ?_, hwrap 40 41 (.inl ⟨rfl, rfl⟩)⟩
        show F__law_thing_text (gT (d + 1)) [some (.tuple ds), none, none] = _
        unfold F__law_thing_text
        exact z_rt (z_ifT rfl (z_nx (z_set (hcomp _ rfl (.inl rfl))) (z_rt (z_ret (z_ifET rfl (two 40 41 "(" ")" rfl rfl _ rfl))))))
      · refine ⟨_, z_run rfl ?_, hwrap 91 93 (.inr ⟨rfl, rfl⟩)⟩
        show F__law_thing_text (gT (d + 1)) [some (.list ds), none, none] = _
        unfold F__law_thing_text
        exact z_rt (z_ifT rfl (z_nx (z_set (hcomp _ rfl (.inr rfl))) (z_rt (z_ret (z_ifEF rfl (two 91 93 "[" "]" rfl rfl _ rfl))))))
/-- twice bent -/
theorem bent_ok {d : Nat} {w : PyData} (hd : d ≤ 4) {l l1 : List Nat} (h : Tq (NT d) d l) (b1 : Bent l l1) : TextOk 22 l1 ∧ l1.length ≤ 1000000 ∧ ∀ l2, Bent l1 l2 → TextOk 22 l2 := by
  have hN : ∀ k, k ≤ 4 → NT k ≤ 3400 := by decide
  have h0 := (h.tp.more (hN d hd) (Nat.le_refl 40) hd)
  have h1 := h0.bent b1
  refine ⟨(h1.more (Nat.le_refl _) (Nat.le_refl _) (by omega)).ok (by omega) (by omega), by have := h1.len; omega, fun l2 b2 => ?_⟩
  have h2 := h1.bent b2
  exact (h2.more (Nat.le_refl _) (Nat.le_refl _) (by omega)).ok (by omega) (by omega)
end K88

set_option Elab.async false
set_option linter.all false
set_option maxRecDepth 100000
set_option maxHeartbeats 4000000
namespace K88
open PySem PySem.Spec PyProof.Rows L2 Pu
def chkU (r : Option PyData) (i : Nat) : Bool := match r with
  | some (.list [.str s, .int j]) => s == "unread" && j == (i : Nat)
  | _ => false
theorem chkU_ok {r : Option PyData} {i : Nat} (h : chkU r i = true) : r = some (.list [.str "unread", .int (i : Nat)]) := by
  unfold chkU at h
  split at h
  · rw [Bool.and_eq_true, beq_iff_eq, beq_iff_eq] at h
    rw [h.1, h.2]
  · cases h
def fixed : List (Str × Nat) := [("", 0), ("(1 -0)", 4), ("[1", 2), ("x_", 2), (" ", 0), ("()x", 2), ("( 1)", 1), ("(1 )", 3), ("(1  2)", 3), ("[1)", 2), ("01", 1), ("-", 1), ("--1", 1), ("x__y", 2), ("_x", 0), ("@x", 0), ("X", 0), ("1x", 1),
  ("x y", 1), ("!!", 1), ("(1,2)", 2), ("~~", 1), ("(x_ y)", 3), (")", 0), ("1.5", 1), ("[[]", 3), ("'x'", 0), ("(-1 -)", 5), ("x_)", 2), ("((((", 4)]
theorem fixed_due : (fixed.all fun p => chkU (dueF 23 [.str p.1]) p.2) = true := by decide +kernel
end K88

set_option Elab.async false
set_option linter.all false
set_option maxRecDepth 100000
set_option maxHeartbeats 4000000
/-! The fixed texts and the odds, heard. -/
namespace K88
open PySem PySem.Spec PyProof.Rows L2 Pu
theorem bS_step : ∀ (l : List Nat) (i j : Nat), i ≤ j → bS (l.take j) - bS (l.take i) ≤ l.length
  | [], i, j, _ => by simp [bS]
  | a :: l, 0, 0, _ => by simp [bS]; omega
  | a :: l, 0, j + 1, _ => by
    have h := bS_step l 0 j (Nat.zero_le _)
    have ha := (op_le a).1
    have e : bS ((a :: l).take (j + 1)) = op a + bS (l.take j) := by simp [bS]
    rw [e]
    rw [show bS (l.take 0) = 0 by rw [List.take_zero]; rfl] at h
    rw [show bS ((a :: l).take 0) = 0 by rw [List.take_zero]; rfl, List.length_cons]
    omega
  | a :: l, i + 1, j + 1, hij => by
    have h := bS_step l i j (Nat.le_of_succ_le_succ hij)
    have e : ∀ k, bS ((a :: l).take (k + 1)) = op a + bS (l.take k) := fun k => by simp [bS]
    rw [e, e, List.length_cons]
    omega
theorem Tp.short {n : Nat} {l : List Nat} (h : l.length ≤ n) (hp : ∀ c ∈ l, 32 ≤ c ∧ c ≤ 126) : Tp n n n l :=
  ⟨h, hp, fun a b _ hb _ => by omega, fun i j hij => by have := bS_step l i j hij; omega⟩
theorem short_ok {z : Str} (h : (decide (z.cps.toList.length ≤ 20) && z.cps.toList.all fun c => decide (32 ≤ c) && decide (c ≤ 126)) = true) : TextOk 22 z.cps.toList := by
  rw [Bool.and_eq_true] at h
  refine ((Tp.short (of_decide_eq_true h.1) fun c hc => ?_).more (n' := 20) (m' := 20) (d' := 22) (Nat.le_refl _) (Nat.le_refl _) (by decide)).ok (by decide) (by decide)
  have := List.all_eq_true.mp h.2 c hc
  rw [Bool.and_eq_true] at this
  exact ⟨of_decide_eq_true this.1, of_decide_eq_true this.2⟩
theorem fixed_short : (fixed.all fun p => decide (p.1.cps.toList.length ≤ 20) && p.1.cps.toList.all fun c => decide (32 ≤ c) && decide (c ≤ 126)) = true := by decide +kernel
theorem fixed_heard {C : Addr} {p : Str × Nat} (hp : p ∈ fixed) : dueF 23 [.str p.1] = some (.list [.str "unread", .int (p.2 : Nat)]) ∧ heardF C [.str p.1] = some (.list [.str "unread", .int (p.2 : Nat)]) := by
  have hd := chkU_ok (List.all_eq_true.mp fixed_due p hp)
  obtain ⟨r, _, h2, h3, _⟩ := due_heard (C := C) (short_ok (List.all_eq_true.mp fixed_short p hp))
  rw [tx_of] at h2 h3
  refine ⟨hd, ?_⟩
  rw [h3, ← h2, hd]
theorem unread_exact (n : Nat) (i : Nat) : gE (n + 2) [.list [.str "unread", .int (i : Nat)], .list [.str "unread", .int (i : Nat)]] = some (.bool true) :=
  exact_refl (n + 1) _ rfl ⟨by simp [PyData.depth, PyData.depthAll], rfl⟩
def odds : List PyData := [.none, .int 5, .list [], .tuple [], .dict [], .bool true, .str "1\n", .str "(1\t2)", .list [.str "1"], .str "X\t", .str "\n"]
theorem odd_heard {C : Addr} {w : PyData} (hw : w ∈ odds) : heardF C [w] = some (.list [.str "text", w]) := by
  have h : odds.all (fun w => match prOk w with | some false => true | _ => false) = true := by decide +kernel
  have h := List.all_eq_true.mp h w hw
  unfold heardF
  split at h
  · rename_i e
    simp only [e]
  · cases h
theorem odd_exact (n : Nat) {w : PyData} (hw : w ∈ odds) : gE (n + 4) [.list [.str "text", w], .list [.str "text", w]] = some (.bool true) := by
  by_cases hd : w = .dict []
  · subst hd; exact exact_text0 (n + 2)
  · refine exact_refl (n + 3) _ ?_ ?_
    all_goals
      unfold odds at hw
      simp only [List.mem_cons, List.not_mem_nil, or_false] at hw
      rcases hw with rfl | rfl | rfl | rfl | rfl | rfl | rfl | rfl | rfl | rfl | rfl
    all_goals first | exact absurd rfl hd | rfl | exact ⟨by simp [PyData.depth, PyData.depthAll], by first | rfl | decide +kernel⟩
end K88

set_option Elab.async false
set_option linter.all false
set_option maxRecDepth 100000
set_option maxHeartbeats 4000000
namespace K88
open PySem PySem.Spec PyProof.Rows L2 Pu
section
variable {P : Program} {w : World} {K : PySem.W.Frag} {mg : Str → Option Value} {base : Heap}
abbrev s_thing_text : Stmt := topS 12
theorem sc_thing_text : FnScope ["thing"] ["thing"] (defScope s_thing_text) := ⟨rfl, rfl, rfl, by decide +kernel, rfl, by decide +kernel, by decide +kernel⟩
def F_thing_text (g_thing_told : List PyData → Option PyData) (g_is_thing : List PyData → Option PyData) : Ev → Option Out := (fSeq (fIfS (fNot (fT (fCall g_is_thing (fCons (fVar 0) fNil)))) (fSeq (fun _ => none) fNext) fNext) (fSeq (fRet (fCall g_thing_told (fCons (fVar 0) fNil))) fNext))
theorem d_thing_text {k : Nat} {g_thing_told : List PyData → Option PyData} {g_is_thing : List PyData → Option PyData}  (D : DefAt K mg "thing_text" "thing_text" s_thing_text ["thing"]) (D_thing_told : DefP P w K mg base "thing_told" k ["thing"] g_thing_told) (D_is_thing : DefP P w K mg base "is_thing" k ["value"] g_is_thing) : DefP P w K mg base "thing_text" (k + 1) ["thing"] (runF ["thing"] 1 (F_thing_text g_thing_told g_is_thing)) :=
  defP_of D sc_thing_text fun f cdv A outer s H E hr nd => (puss_cons (pus_if (put_not (put_val (pu_callD D_is_thing hr rfl (pua_cons (pu_var 0) pua_nil)))) (puss_cons pus_no puss_nil) puss_nil) (puss_cons (pus_ret (pu_callD D_thing_told hr rfl (pua_cons (pu_var 0) pua_nil))) puss_nil))

def gR (C : Addr) : List PyData → Option PyData
  | [w] => match prOk w with
    | some true => match readF C [w] with
      | some (.tuple [f, .none]) => some f
      | _ => none
    | _ => none
  | _ => none
theorem read_pure {CT CU C fr : Addr} {fdr : FuncData} {k : Nat} (FR : FnOk P w K mg base (L2.CX P w) k fr fdr ["text"] (spRead C CT CU)) : FnOk P w K mg base (L2.CX P w) k fr fdr ["text"] (spP (gR C)) :=
  FR.imp fun vs H Q E ⟨Hs, ws, v, s, r, e, q⟩ => by
    unfold gR at e
    split at e
    · rename_i w0
      obtain ⟨u, rfl, r1⟩ := r.one
      split at e
      · rename_i hp
        split at e
        · rename_i f hf
          cases e
          exact ⟨Hs, _, u, true, rfl, s, r1, hp, (fun z => nomatch z), fun _ => ⟨_, .none, hf, .inl ⟨rfl, fun v' H' Hs' x r' => q v' H' Hs' x r'⟩⟩⟩
        · cases e
      · cases e
    · cases e
def gIT : Nat → List PyData → Option PyData
  | 0 => fun _ => none
  | n + 1 => runF ["value", "part"] 1 (F_is_thing (runF ["value", "sign"] 1 F_is_paper_word) (gIT n))
def gTo : Nat → List PyData → Option PyData
  | 0 => fun _ => none
  | n + 1 => runF ["thing", "text", "part"] 1 (F_thing_told (gTo n))
def gTh (n : Nat) : List PyData → Option PyData := runF ["thing"] 1 (F_thing_text (gTo n) (gIT n))
def chkS (r : Option PyData) (z : Str) : Bool := match r with
  | some (.str s) => s == z
  | _ => false
theorem chkS_ok {r : Option PyData} {z : Str} (h : chkS r z = true) : r = some (.str z) := by
  unfold chkS at h
  split at h
  · rw [beq_iff_eq] at h; rw [h]
  · cases h
def ab : PyData := .list [.tuple [.str "a b"]]
theorem ab_text : gTh 3 [ab] = some (.str "[(a_b)]") := chkS_ok (by decide +kernel)
def chkAb : Option PyData → Bool
  | some (.list [.str s, .list [.tuple [.str t]]]) => s == "told" && t == "a b"
  | _ => false
theorem ab_due : dueF 23 [.str "[(a_b)]"] = some (.list [.str "told", ab]) := by
  have h : chkAb (dueF 23 [.str "[(a_b)]"]) = true := by decide +kernel
  unfold chkAb at h
  split at h
  · rename_i e
    rw [Bool.and_eq_true, beq_iff_eq, beq_iff_eq] at h
    rw [e, h.1, h.2]
    rfl
  · cases h
theorem ab_read {C : Addr} : gR C [.str "[(a_b)]"] = some ab := by
  obtain ⟨r, _, h2, h3, _⟩ := due_heard (C := C) (short_ok (z := "[(a_b)]") (by decide +kernel))
  rw [tx_of] at h2 h3
  rw [← h2, ab_due] at h3
  have hp : prOk (.str "[(a_b)]") = some true := by
    unfold prOk
    exact (if_pos (show (Str.ofString "[(a_b)]").length ≤ sizeLine by decide +kernel)).trans (congrArg some (by decide +kernel))
  unfold heardF at h3
  simp only [hp] at h3
  unfold gR
  simp only [hp]
  split at h3
  · rename_i e
    simp only [e]
    injection h3 with h3
    injection h3 with h3
    injection h3 with _ h3
    injection h3 with h3
    rw [h3]
  · exfalso
    injection h3 with h3
    injection h3 with h3
    injection h3 with h3
    injection h3 with h3
    exact absurd h3 (by decide)
  · cases h3
end
end K88

set_option Elab.async false
set_option linter.all false
set_option maxRecDepth 100000
set_option maxHeartbeats 4000000
namespace K88
open PySem PySem.Spec PyProof.Rows L2 Pu
section
variable {P : Program} {w : World} {K : PySem.W.Frag} {mg : Str → Option Value} {base : Heap}
theorem pu_dic0 {X : Cx} {pos : Pos} : PU X (.Dict [] [] pos) (fDict []) :=
  ⟨conv pe_dnewK fun σ H Q ⟨Hs, ev, w, s, re, e, q⟩ => by
    cases e
    exact fun p hp => q _ _ _ ((Ext.refl s).laid hp _) (.dic upd_same .nil)⟩
abbrev s_law : Stmt := topS 30
theorem sc_law : FnScope ["script", "purse", "spin", "text", "turn", "late", "texts", "at", "odds", "odd"] ["script"] (defScope s_law) := ⟨rfl, rfl, rfl, by decide +kernel, rfl, by decide +kernel, by decide +kernel⟩
def F_rest (gth gR_ gEx gHe gDu : List PyData → Option PyData) : Ev → Option Out := (fSeq (fSet 6 (fLst (fCons (fTup (fCons (fC (.str "")) (fCons (fC (.int 0)) fNil))) (fCons (fTup (fCons (fC (.str "(1 -0)")) (fCons (fC (.int 4)) fNil))) (fCons (fTup (fCons (fC (.str "[1")) (fCons (fC (.int 2)) fNil))) (fCons (fTup (fCons (fC (.str "x_")) (fCons (fC (.int 2)) fNil))) (fCons (fTup (fCons (fC (.str " ")) (fCons (fC (.int 0)) fNil))) (fCons (fTup (fCons (fC (.str "()x")) (fCons (fC (.int 2)) fNil))) (fCons (fTup (fCons (fC (.str "( 1)")) (fCons (fC (.int 1)) fNil))) (fCons (fTup (fCons (fC (.str "(1 )")) (fCons (fC (.int 3)) fNil))) (fCons (fTup (fCons (fC (.str "(1  2)")) (fCons (fC (.int 3)) fNil))) (fCons (fTup (fCons (fC (.str "[1)")) (fCons (fC (.int 2)) fNil))) (fCons (fTup (fCons (fC (.str "01")) (fCons (fC (.int 1)) fNil))) (fCons (fTup (fCons (fC (.str "-")) (fCons (fC (.int 1)) fNil))) fNil)))))))))))))) (fSeq (fSet 6 (f2 gAdd (fVar 6) (fLst (fCons (fTup (fCons (fC (.str "--1")) (fCons (fC (.int 1)) fNil))) (fCons (fTup (fCons (fC (.str "x__y")) (fCons (fC (.int 2)) fNil))) (fCons (fTup (fCons (fC (.str "_x")) (fCons (fC (.int 0)) fNil))) (fCons (fTup (fCons (fC (.str "@x")) (fCons (fC (.int 0)) fNil))) (fCons (fTup (fCons (fC (.str "X")) (fCons (fC (.int 0)) fNil))) (fCons (fTup (fCons (fC (.str "1x")) (fCons (fC (.int 1)) fNil))) fNil))))))))) (fSeq (fSet 6 (f2 gAdd (fVar 6) (fLst (fCons (fTup (fCons (fC (.str "x y")) (fCons (fC (.int 1)) fNil))) (fCons (fTup (fCons (fC (.str "!!")) (fCons (fC (.int 1)) fNil))) (fCons (fTup (fCons (fC (.str "(1,2)")) (fCons (fC (.int 2)) fNil))) (fCons (fTup (fCons (fC (.str "~~")) (fCons (fC (.int 1)) fNil))) (fCons (fTup (fCons (fC (.str "(x_ y)")) (fCons (fC (.int 3)) fNil))) (fCons (fTup (fCons (fC (.str ")")) (fCons (fC (.int 0)) fNil))) (fCons (fTup (fCons (fC (.str "1.5")) (fCons (fC (.int 1)) fNil))) (fCons (fTup (fCons (fC (.str "[[]")) (fCons (fC (.int 3)) fNil))) (fCons (fTup (fCons (fC (.str "'x'")) (fCons (fC (.int 0)) fNil))) (fCons (fTup (fCons (fC (.str "(-1 -)")) (fCons (fC (.int 5)) fNil))) (fCons (fTup (fCons (fC (.str "x_)")) (fCons (fC (.int 2)) fNil))) (fCons (fTup (fCons (fC (.str "((((")) (fCons (fC (.int 4)) fNil))) fNil))))))))))))))) (fSeq (fIfS (f2T gNe (fComp (fIt (fVar 6)) (asTup 2) [3, 7] [3, 7] (fOr (f2T gNe (fCall gDu (fCons (fVar 3) fNil)) (fLst (fCons (fC (.str "unread")) (fCons (fVar 7) fNil)))) (fNot (fT (fCall gEx (fCons (fLst (fCons (fC (.str "unread")) (fCons (fVar 7) fNil))) (fCons (fCall gHe (fCons (fVar 3) fNil)) fNil)))))) (fVar 3)) (fLst fNil)) (fSeq (fRet (fC (.bool false))) fNext) fNext) (fSeq (fSet 8 (fLst (fCons (fC .none) (fCons (fC (.int 5)) (fCons (fLst fNil) (fCons (fTup fNil) (fCons (fDict []) (fCons (fC (.bool true)) (fCons (fC (.str "1\n")) (fCons (fC (.str "(1\t2)")) (fCons (fLst (fCons (fC (.str "1")) fNil)) (fCons (fC (.str "X\t")) (fCons (fC (.str "\n")) fNil))))))))))))) (fSeq (fRet (fAndV (fB (f2T gEq (fComp (fIt (fVar 8)) asOne [9] [9] (fNot (fT (fCall gEx (fCons (fLst (fCons (fC (.str "text")) (fCons (fVar 9) fNil))) (fCons (fCall gHe (fCons (fVar 9) fNil)) fNil))))) (fVar 9)) (fLst fNil))) (fB (f2T gEq (fCall gth (fCons (fCall gR_ (fCons (fC (.str "[(a_b)]")) fNil)) fNil)) (fC (.str "[(a_b)]")))))) fNext))))))
theorem d_rest {k : Nat} {gth gR_ gEx gHe gDu : List PyData → Option PyData} {fr : Addr} {fdr : FuncData} (D_thing_text : DefP P w K mg base "thing_text" k ["thing"] gth)
    (FR : FnOk P w K mg base (L2.CX P w) k fr fdr ["text"] (spP gR_)) (mR : mg "read_thing" = some (.ref fr)) (kR : PySem.W.keepIn K (.ref fr) = true) (bR : Binds K fdr ["text"] [])
    (D__law_exact : DefP P w K mg base "_law_exact" k ["mine", "theirs"] gEx) (D__law_heard : DefP P w K mg base "_law_heard" k ["text"] gHe) (D__law_due : DefP P w K mg base "_law_due" k ["text"] gDu)
    {f : Addr} {cdv : Value} {A : Around} {outer : List Env} {s : Shared} {H : Hp} {E : XK} (hr : Room k (A.deeper (envOfC "law" (defScope s_law) s.heap.objs.size f cdv))) (nd : (["script", "purse", "spin", "text", "turn", "late", "texts", "at", "odds", "odd"] : List Str).Nodup) :
    PUSs (cxOf CX0 P w K mg base ["script", "purse", "spin", "text", "turn", "late", "texts", "at", "odds", "odd"] "law" (defScope s_law) f cdv A outer s H E).nox ((defBody s_law).drop 1) (F_rest gth gR_ gEx gHe gDu) :=
  (puss_cons (pus_set (i := 6) nd rfl (Or.inl rfl) (pu_lst (pua_cons (pu_tup (pua_cons pu_str (pua_cons pu_int pua_nil))) (pua_cons (pu_tup (pua_cons pu_str (pua_cons pu_int pua_nil))) (pua_cons (pu_tup (pua_cons pu_str (pua_cons pu_int pua_nil))) (pua_cons (pu_tup (pua_cons pu_str (pua_cons pu_int pua_nil))) (pua_cons (pu_tup (pua_cons pu_str (pua_cons pu_int pua_nil))) (pua_cons (pu_tup (pua_cons pu_str (pua_cons pu_int pua_nil))) (pua_cons (pu_tup (pua_cons pu_str (pua_cons pu_int pua_nil))) (pua_cons (pu_tup (pua_cons pu_str (pua_cons pu_int pua_nil))) (pua_cons (pu_tup (pua_cons pu_str (pua_cons pu_int pua_nil))) (pua_cons (pu_tup (pua_cons pu_str (pua_cons pu_int pua_nil))) (pua_cons (pu_tup (pua_cons pu_str (pua_cons pu_int pua_nil))) (pua_cons (pu_tup (pua_cons pu_str (pua_cons pu_int pua_nil))) pua_nil)))))))))))))) (puss_cons (pus_set (i := 6) nd rfl (Or.inl rfl) (pu_op o_add g_add (pu_var 6) (pu_lst (pua_cons (pu_tup (pua_cons pu_str (pua_cons pu_int pua_nil))) (pua_cons (pu_tup (pua_cons pu_str (pua_cons pu_int pua_nil))) (pua_cons (pu_tup (pua_cons pu_str (pua_cons pu_int pua_nil))) (pua_cons (pu_tup (pua_cons pu_str (pua_cons pu_int pua_nil))) (pua_cons (pu_tup (pua_cons pu_str (pua_cons pu_int pua_nil))) (pua_cons (pu_tup (pua_cons pu_str (pua_cons pu_int pua_nil))) pua_nil))))))))) (puss_cons (pus_set (i := 6) nd rfl (Or.inl rfl) (pu_op o_add g_add (pu_var 6) (pu_lst (pua_cons (pu_tup (pua_cons pu_str (pua_cons pu_int pua_nil))) (pua_cons (pu_tup (pua_cons pu_str (pua_cons pu_int pua_nil))) (pua_cons (pu_tup (pua_cons pu_str (pua_cons pu_int pua_nil))) (pua_cons (pu_tup (pua_cons pu_str (pua_cons pu_int pua_nil))) (pua_cons (pu_tup (pua_cons pu_str (pua_cons pu_int pua_nil))) (pua_cons (pu_tup (pua_cons pu_str (pua_cons pu_int pua_nil))) (pua_cons (pu_tup (pua_cons pu_str (pua_cons pu_int pua_nil))) (pua_cons (pu_tup (pua_cons pu_str (pua_cons pu_int pua_nil))) (pua_cons (pu_tup (pua_cons pu_str (pua_cons pu_int pua_nil))) (pua_cons (pu_tup (pua_cons pu_str (pua_cons pu_int pua_nil))) (pua_cons (pu_tup (pua_cons pu_str (pua_cons pu_int pua_nil))) (pua_cons (pu_tup (pua_cons pu_str (pua_cons pu_int pua_nil))) pua_nil))))))))))))))) (puss_cons (pus_if (put_cmp (o_ne (u64 hr)) g_ne (pu_lc (own := [("text", 3), ("at", 7)]) (is := [3, 7]) rfl nd (pui_any (pu_var 6)) (blkOk_by (N := ["script", "purse", "spin", "text", "turn", "late", "texts", "at", "odds", "odd"]) (sc := defScope s_law) (by decide +kernel)) gp_tup2 tp_self (by decide) (fun _ _ _ _ _ => (pg_tup rfl (pgs_cons (pg_name (i := 3) nd rfl (Or.inl rfl)) (pgs_cons (pg_name (i := 7) nd rfl (Or.inl rfl)) pgs_nil)))) (fun _ _ _ _ _ => pts_one (PUT.pt ((put_w (puw_or (put_cmp (o_ne (u64 hr)) g_ne (pu_callD D__law_due hr rfl (pua_cons (pu_var 3) pua_nil)) (pu_lst (pua_cons pu_str (pua_cons (pu_var 7) pua_nil))) (nomark _)) (puw_or1 (put_not (put_val (pu_callD D__law_exact hr rfl (pua_cons (pu_lst (pua_cons pu_str (pua_cons (pu_var 7) pua_nil))) (pua_cons (pu_callD D__law_heard hr rfl (pua_cons (pu_var 3) pua_nil)) pua_nil))))))))))) (fun _ _ _ _ _ => (pu_var 3))) (pu_lst pua_nil) (nomark _)) (puss_cons (pus_ret pu_bl) puss_nil) puss_nil) (puss_cons (pus_set (i := 8) nd rfl (Or.inl rfl) (pu_lst (pua_cons pu_non (pua_cons pu_int (pua_cons (pu_lst pua_nil) (pua_cons (pu_tup pua_nil) (pua_cons (pu_dic0) (pua_cons pu_bl (pua_cons pu_str (pua_cons pu_str (pua_cons (pu_lst (pua_cons pu_str pua_nil)) (pua_cons pu_str (pua_cons pu_str pua_nil))))))))))))) (puss_cons (pus_ret (pu_and (pu_cmp (o_eq (u64 hr)) g_eq (pu_lc (own := [("odd", 9)]) (is := [9]) rfl nd (pui_any (pu_var 8)) (blkOk_by (N := ["script", "purse", "spin", "text", "turn", "late", "texts", "at", "odds", "odd"]) (sc := defScope s_law) (by decide +kernel)) gp_one tp_self (by decide) (fun _ _ _ _ _ => (pg_name (i := 9) nd rfl (Or.inl rfl))) (fun _ _ _ _ _ => pts_one (PUT.pt ((put_not (put_val (pu_callD D__law_exact hr rfl (pua_cons (pu_lst (pua_cons pu_str (pua_cons (pu_var 9) pua_nil))) (pua_cons (pu_callD D__law_heard hr rfl (pua_cons (pu_var 9) pua_nil)) pua_nil)))))))) (fun _ _ _ _ _ => (pu_var 9))) (pu_lst pua_nil) (nomark _)) (pu_one (pu_cmp (o_eq (u64 hr)) g_eq (pu_callD D_thing_text hr rfl (pua_cons (pu_call FR hr rfl mR kR bR passL (pua_cons pu_str pua_nil)) pua_nil)) pu_str (nomark _))))) puss_nil))))))
end
end K88

set_option Elab.async false
set_option linter.all false
set_option maxRecDepth 100000
/-! The law's rest comes to True. -/
namespace K88
open PySem PySem.Spec PyProof.Rows L2 Pu
theorem compL_none {as : PyData → Option (List PyData)} {is : List Nat} {ft : Ev → Option Bool} {fe : Ev → Option PyData} {ev : Ev} : ∀ {ws : List PyData}, (∀ w ∈ ws, ∃ us, as w = some us ∧ ft (setAllE ev (is.zip us)) = some false) → compL as is ft fe ev ws = some []
  | [], _ => rfl
  | w :: ws, h => by
    obtain ⟨us, e1, e2⟩ := h w List.mem_cons_self
    rw [compL, e1, Option.bind_some, e2, Option.bind_some, if_neg Bool.false_ne_true]
    exact compL_none fun x hx => h x (List.mem_cons_of_mem _ hx)
theorem comp_none {fit : Ev → Option (List PyData)} {as : PyData → Option (List PyData)} {is own : List Nat} {ft : Ev → Option Bool} {fe : Ev → Option PyData} {ev : Ev} {ws : List PyData} (h1 : fit ev = some ws) (hl : ws.length ≤ sizeLine)
    (h : ∀ w ∈ ws, ∃ us, as w = some us ∧ ft (setAllE (wipeE ev own) (is.zip us)) = some false) : fComp fit as is own ft fe ev = some (.list []) := by
  unfold fComp
  rw [h1, Option.bind_some, if_pos hl, compL_none h]
  rfl
def fixedD : List PyData := fixed.map fun p => .tuple [.str p.1, .int (p.2 : Nat)]
theorem unread_eq (i : Nat) : gNe (.list [.str "unread", .int (i : Nat)]) (.list [.str "unread", .int (i : Nat)]) = some false := by
  show (some (PyData.eqv (.list [.str "unread", .int (i : Nat)]) (.list [.str "unread", .int (i : Nat)]))).map (! ·) = _
  simp [PyData.eqv, PyData.eqvAll]
theorem rest_true {C : Addr} : F_rest (gTh 3) (gR C) (gE 25) (heardF C) (dueF 23) [none, none, none, none, none, none, none, none, none, none] = some (.rt (.bool true)) := by
  have hsz := sizeLine_eq
  unfold F_rest
  refine z_nx (z_set (w := .list (fixedD.take 12)) rfl) (z_nx (z_set (w := .list (fixedD.take 18)) rfl) (z_nx (z_set (w := .list fixedD) rfl) (z_nx (z_ifF (z_2T (w := .list []) (u := .list []) ?_ rfl rfl) rfl) (z_nx (z_set (w := .list odds) rfl) (z_rt (z_ret (z_andV (a := true) (b := true) (z_B (z_2T (w := .list []) (u := .list []) ?_ rfl rfl)) (z_B (z_2T (w := .str "[(a_b)]") (u := .str "[(a_b)]") (z_call (z_cons (z_call (z_cons rfl rfl) ab_read) rfl) ab_text) rfl rfl)))))))))
  · refine comp_none (ws := fixedD) rfl (by show 30 ≤ sizeLine; omega) fun x hx => ?_
    obtain ⟨p, hp, rfl⟩ := List.mem_map.mp hx
    obtain ⟨h1, h2⟩ := fixed_heard (C := C) hp
    refine ⟨_, rfl, ?_⟩
    refine z_or (a := false) (b := false) (z_2T (w := .list [.str "unread", .int (p.2 : Nat)]) (u := .list [.str "unread", .int (p.2 : Nat)]) (z_call (z_cons rfl rfl) h1) rfl (unread_eq _)) ?_
    exact z_not (b := true) (z_T (z_call (z_cons (w := .list [.str "unread", .int (p.2 : Nat)]) rfl (z_cons (z_call (z_cons rfl rfl) h2) rfl)) (unread_exact 23 _)))
  · refine comp_none (ws := odds) rfl (by show 11 ≤ sizeLine; omega) fun x hx => ?_
    refine ⟨_, rfl, ?_⟩
    exact z_not (b := true) (z_T (z_call (z_cons (w := .list [.str "text", x]) rfl (z_cons (z_call (z_cons rfl rfl) (odd_heard hx)) rfl)) (odd_exact 21 hx)))
end K88

set_option Elab.async false
set_option linter.all false
set_option maxRecDepth 100000
set_option maxHeartbeats 4000000
namespace K88
open PySem PySem.Spec PyProof.Rows L2 Pu
section
variable {P : Program} {w : World} {K : PySem.W.Frag} {mg : Str → Option Value} {base : Heap}
theorem ThingOk.up : ∀ {d : Nat} {w : PyData}, ThingOk d w → ThingOk (d + 1) w
  | 0, _, h => .inl h
  | d + 1, _, .inl h => .inl h
  | d + 1, _, .inr ⟨ds, e, l, h⟩ => .inr ⟨ds, e, l, fun x hx => (h x hx).up⟩
theorem ThingOk.add {w : PyData} {d : Nat} (h : ThingOk d w) : ∀ k, ThingOk (d + k) w
  | 0 => h
  | k + 1 => (ThingOk.add h k).up
theorem ThingOk.to4 {w : PyData} {d : Nat} (hd : d ≤ 4) (h : ThingOk d w) : ThingOk 4 w := by
  have := h.add (4 - d)
  rw [show d + (4 - d) = 4 by omega] at this
  exact this
theorem cost4 : ∀ {d : Nat}, d ≤ 4 → cost d ≤ 2820
  | 0, _ => by simp [cost]
  | 1, _ => by simp [cost]
  | 2, _ => by simp [cost]
  | 3, _ => by simp [cost]
  | 4, _ => by simp [cost]
def fTest (gEx gHe gDu : List PyData → Option PyData) : Ev → Option Bool := fNot (fT (fCall gEx (fCons (fCall gDu (fCons (fVar 5) fNil)) (fCons (fCall gHe (fCons (fVar 5) fNil)) fNil))))
theorem re5 {a0 a1 a2 a3 a4 : Option V} {r : L2.St} {z : Str} : REnv HE (a0 :: a1 :: a2 :: a3 :: a4 :: some (.str z) :: r) [none, none, none, none, none, some (.str z)] := by
  refine ⟨by simp, fun i w e => ?_⟩
  match i with
  | 0 => simp at e
  | 1 => simp at e
  | 2 => simp at e
  | 3 => simp at e
  | 4 => simp at e
  | 5 => simp at e; subst e; exact ⟨.str z, rfl, .str z⟩
  | j + 6 => simp at e
theorem test_ok {C : Addr} {l : List Nat} (T : TextOk 22 l) {a0 a1 a2 a3 a4 : Option V} {r : L2.St} {H : Hp} {Q : Bool → Hp → Prop} (q : ∀ H', Same H H' → Q false H') :
    tPuT (fTest (gE 25) (heardF C) (dueF 23)) (a0 :: a1 :: a2 :: a3 :: a4 :: some (.str (tx l)) :: r) H Q := by
  obtain ⟨u, _, h2, h3, h4, h5⟩ := due_heard (C := C) T
  refine ⟨HE, _, false, (fun _ _ e => nomatch e), re5, ?_, fun H' Hs' x => q H' x.big⟩
  exact z_not (b := true) (z_T (z_call (z_cons (z_call (z_cons rfl rfl) h2) (z_cons (z_call (z_cons rfl rfl) h3) rfl)) (exact_refl 24 _ h4 h5)))
def Big (p : Addr) (H H' : Hp) : Prop := ∀ b o, b ≠ p → H b = some o → H' b = some o
theorem Big.trans {p : Addr} {H H' H2 : Hp} (a : Big p H H') (b : Big p H' H2) : Big p H H2 := fun x o n e => b x o n (a x o n e)
def spLaw (K : PySem.W.Frag) : Sp := fun vs H Q _ => ∃ (a : Addr) (ns : List Int), vs = [.ref a] ∧ SqL K H a (ns.map V.int) ∧ ns.length ≤ 63 ∧ ∀ H', Q (.bl true) H'
theorem ok_law {C f fPS fD fT fB fTT fr : Addr} {fd fdPS fdD fdT fdB fdTT fdr : FuncData} {k : Nat} (F : Fun K "law" "law" s_law f fd)
    (FPS : FnOk P w K mg base CX0 k fPS fdPS ["script", "few"] (spPurses K)) (mPS : mg "_law_purses" = some (.ref fPS)) (kPS : PySem.W.keepIn K (.ref fPS) = true) (bPS : Binds K fdPS ["script", "few"] [])
    (FD : FnOk P w K mg base CX0 k fD fdD ["purse", "many"] spDraw) (mD : mg "_law_draw" = some (.ref fD)) (kD : PySem.W.keepIn K (.ref fD) = true) (bD : Binds K fdD ["purse", "many"] [])
    (FT : FnOk P w K mg base CX0 k fT fdT ["purse", "deep"] (spThing 5)) (mT : mg "_law_thing" = some (.ref fT)) (kT : PySem.W.keepIn K (.ref fT) = true) (bT : Binds K fdT ["purse", "deep"] [])
    (FB : FnOk P w K mg base CX0 k fB fdB ["purse", "text"] spBent) (mB : mg "_law_bent" = some (.ref fB)) (kB : PySem.W.keepIn K (.ref fB) = true) (bB : Binds K fdB ["purse", "text"] [])
    (FTT : FnOk P w K mg base CX0 k fTT fdTT ["thing"] (spP (gT 5))) (mTT : mg "_law_thing_text" = some (.ref fTT)) (kTT : PySem.W.keepIn K (.ref fTT) = true) (bTT : Binds K fdTT ["thing"] [])
    (D_thing_text : DefP P w K mg base "thing_text" k ["thing"] (gTh 3))
    (FR : FnOk P w K mg base (L2.CX P w) k fr fdr ["text"] (spP (gR C))) (mR : mg "read_thing" = some (.ref fr)) (kR : PySem.W.keepIn K (.ref fr) = true) (bR : Binds K fdr ["text"] [])
    (D_exact : DefP P w K mg base "_law_exact" k ["mine", "theirs"] (gE 25)) (D_heard : DefP P w K mg base "_law_heard" k ["text"] (heardF C)) (D_due : DefP P w K mg base "_law_due" k ["text"] (dueF 23)) (m_range : mg "range" = none) :
    FnOk P w K mg base CX0 (k + 1) f fd ["script"] (spLaw K) := by
  refine F.ok sc_law (fun vs H Q E h => ?_) (fun cdv A outer s H vs Q E hr h => ?_)
  · obtain ⟨a, ns, rfl, _⟩ := h
    rfl
  · obtain ⟨a, ns, rfl, hS, hl, q⟩ := h
    have nd := sc_law.nd
    refine ⟨_, pss_cons (ps_for PassesOwn.never rfl (pi_list (pe_call FPS hr rfl mPS kPS bPS .nil pass0 (pa_cons (pv 0) (pa_cons pe_int pa_nil)))) (pg_name (i := 1) nd rfl (Or.inl rfl))
        (pss_one (ps_for PassesOwn.never rfl (pi_range1 rfl m_range (pa_cons pe_int pa_nil)) (pg_name (i := 2) nd rfl (Or.inl rfl))
          (pss_cons (ps_set (i := 3) nd rfl (Or.inl rfl) (pe_call FTT hr rfl mTT kTT bTT .nil pass0 (pa_cons (pe_call FT hr rfl mT kT bT .nil pass0 (pa_cons (pv 1) (pa_cons (pe_op op_add pe_int (pe_call FD hr rfl mD kD bD .nil pass0 (pa_cons (pv 1) (pa_cons pe_int pa_nil)))) pa_nil))) pa_nil)))
          (pss_one (ps_for PassesOwn.never rfl (pi_range1 rfl m_range (pa_cons pe_int pa_nil)) (pg_name (i := 4) nd rfl (Or.inl rfl))
            (pss_cons (ps_set (i := 5) nd rfl (Or.inl rfl) (pe_call FB hr rfl mB kB bB .nil pass0 (pa_cons (pv 1) (pa_cons (pv 3) pa_nil))))
            (pss_cons (ps_set (i := 5) nd rfl (Or.inl rfl) (pe_ifExp (pt_cmpR op_gt (pv 4) pe_int (nomark _)) (pe_call FB hr rfl mB kB bB .nil pass0 (pa_cons (pv 1) (pa_cons (pv 5) pa_nil))) (pv 5)))
            (pss_one (ps_if (PUT.pt (f := fTest (gE 25) (heardF C) (dueF 23)) (put_not (put_val (pu_callD D_exact hr rfl (pua_cons (pu_callD D_due hr rfl (pua_cons (pu_var 5) pua_nil)) (pua_cons (pu_callD D_heard hr rfl (pua_cons (pu_var 5) pua_nil)) pua_nil)))))) (pss_one (ps_ret (PU.pe pu_bl))) pss_nil))))))))))
      (PUSs.pss (d_rest D_thing_text FR mR kR bR D_exact D_heard D_due hr nd)), ?_⟩
    refine ⟨_, rfl, a, ns, rfl, hS, hl, fun lp ps H1 s1 _ nlp hlp hps hP => ?_⟩
    refine ⟨lp, rfl, ⟨_, SqL.of hlp⟩, ?_⟩
    refine ⟨fun i m σ H' => m = ps.length - i ∧ i ≤ ps.length ∧ ∃ x1 x2 x3 x4 x5 : Option V, σ = [some (.ref a), x1, x2, x3, x4, x5, none, none, none, none] ∧ H' lp = some (.lst (ps.map V.ref)) ∧ ∀ j p, i ≤ j → ps[j]? = some p → Pur p H' HE 0,
      ⟨ps.length, by simp, Nat.zero_le _, none, none, none, none, none, rfl, hlp, fun j p _ e => (hP.2 p (List.mem_of_getElem? e)).2⟩, ?_⟩
    rintro i m σ H2 ⟨rfl, hle, x1, x2, x3, x4, x5, rfl, hl2, hp2⟩
    by_cases hlt : i < ps.length
    · refine .inr ⟨⟨_, _, SqL.of hl2, by rw [List.getElem?_map, List.getElem?_eq_getElem hlt]; rfl⟩, fun σ' H' => ∃ x1 x2 x3 x4 x5 : Option V, σ' = [some (.ref a), x1, x2, x3, x4, x5, none, none, none, none] ∧ H' lp = some (.lst (ps.map V.ref)) ∧ ∀ j p, i + 1 ≤ j → ps[j]? = some p → Pur p H' HE 0, fun σ' H' h => ⟨ps.length - (i + 1), by omega, rfl, hlt, h⟩, ?_⟩
      rintro x H3 ⟨rfl, hy⟩
      have hx := hy _ (SqL.of hl2)
      rw [List.getElem?_map, List.getElem?_eq_getElem hlt] at hx
      cases hx
      have hR := hp2 i ps[i] (Nat.le_refl _) (List.getElem?_eq_getElem hlt)
      have hne : lp ≠ ps[i] := fun z => nlp (z ▸ List.getElem_mem hlt)
      have hne2 : ∀ j p, i + 1 ≤ j → ps[j]? = some p → p ≠ ps[i] := fun j p hj e z => by
        subst z
        have := ((List.getElem?_inj hlt hP.1).mp ((List.getElem?_eq_getElem hlt).trans e.symm))
        omega
      generalize ps[i] = p at hR hne hne2
      refine ⟨5, rfl, by decide, by decide, ?_⟩
      refine ⟨fun i m σ H' => m = 5 - i ∧ i ≤ 5 ∧ ∃ x2 x3 x4 x5 : Option V, σ = [some (.ref a), some (.ref p), x2, x3, x4, x5, none, none, none, none] ∧ Big p H3 H' ∧ Pur p H' HE (i * 5000),
        ⟨5, rfl, Nat.zero_le _, x2, x3, x4, x5, rfl, (fun _ _ _ e => e), by rw [Nat.zero_mul]; exact hR⟩, ?_⟩
      rintro t m σ H4 ⟨rfl, hle5, y2, y3, y4, y5, rfl, big4, R4⟩
      by_cases ht : t < 5
      · refine .inr ⟨ht, fun σ' H' => ∃ x2 x3 x4 x5 : Option V, σ' = [some (.ref a), some (.ref p), x2, x3, x4, x5, none, none, none, none] ∧ Big p H3 H' ∧ Pur p H' HE ((t + 1) * 5000), fun σ' H' h => ⟨5 - (t + 1), by omega, rfl, ht, h⟩, ?_⟩
        rintro x H5 ⟨rfl, rfl⟩
        refine ⟨_, rfl, _, rfl, p, HE, _, 4, rfl, R4, by omega, by decide, by decide, fun r H6 r0 r4 x6 R6 => ?_⟩
        obtain ⟨r, rfl⟩ : ∃ n : Nat, r = (n : Nat) := ⟨r.toNat, by omega⟩
        refine ⟨_, _, rfl, rfl, ?_⟩
        have hc := cost4 (d := r + 1) (by omega)
        refine ⟨p, HE, _, r + 1, by show [V.ref p, V.int (1 + (r : Nat))] = _; rw [show ((1 : Int) + (r : Nat)) = ((r + 1 : Nat) : Int) by omega], by omega, R6, by omega, fun th v H7 Hs7 x7 r7 th7 R7 => ?_⟩
        obtain ⟨l, hl1, hl2'⟩ := thing_text 4 th (Nat.le_refl _) (ThingOk.to4 (d := r + 1) (by omega) th7)
        refine ⟨Hs7, [th], _, R7.sub, .cons r7 .nil, hl1, fun v8 H8 Hs8 x8 r8 => ?_⟩
        cases r8
        have R8 : Pur p H8 HE (t * 5000 + 2900) := ((R7.ext x8).empty).more (by omega)
        have big8 : Big p H3 H8 := ((big4.trans x6.big).trans x7.big).trans fun b o _ e => x8.big b o e
        refine ⟨9, rfl, by decide, by decide, ?_⟩
        refine ⟨fun i m σ H' => m = 9 - i ∧ i ≤ 9 ∧ ∃ z2 z4 z5 : Option V, σ = [some (.ref a), some (.ref p), z2, some (.str (tx l)), z4, z5, none, none, none, none] ∧ Big p H3 H' ∧ Pur p H' HE (t * 5000 + 2900 + i * 40),
          ⟨9, rfl, Nat.zero_le _, _, _, _, rfl, big8, by rw [Nat.zero_mul]; exact R8⟩, ?_⟩
        rintro j m σ H9 ⟨rfl, hle9, z2, z4, z5, rfl, big9, R9⟩
        by_cases hj : j < 9
        · refine .inr ⟨hj, fun σ' H' => ∃ z2 z4 z5 : Option V, σ' = [some (.ref a), some (.ref p), z2, some (.str (tx l)), z4, z5, none, none, none, none] ∧ Big p H3 H' ∧ Pur p H' HE (t * 5000 + 2900 + (j + 1) * 40), fun σ' H' h => ⟨9 - (j + 1), by omega, rfl, hj, h⟩, ?_⟩
          rintro x H10 ⟨rfl, rfl⟩
          have hll : l.length ≤ 1000000 := by have h := hl2'.len; have : NT 4 ≤ 3400 := by decide
                                              omega
          refine ⟨_, rfl, _, rfl, p, _, l, rfl, R9, by omega, hll, fun l1 H11 b1 s11 R11 => ?_⟩
          obtain ⟨T1, len1, T2⟩ := bent_ok (w := th) (Nat.le_refl 4) hl2' b1
          refine ⟨_, rfl, _, _, rfl, rfl, _, rfl, ?_⟩
          refine ite2 (fun c => ?_) (fun c => ?_)
          · refine ⟨_, rfl, _, rfl, p, _, l1, rfl, R11, by omega, len1, fun l2 H12 b2 s12 R12 => ?_⟩
            refine test_ok (T2 l2 b2) fun H13 s13 => iteF ?_
            exact ⟨_, _, _, rfl, ((big9.trans s11).trans s12).trans (fun b o _ e => s13 b o e), (R12.grow s13).more (by omega)⟩
          · refine ⟨_, rfl, ?_⟩
            refine test_ok T1 fun H13 s13 => iteF ?_
            exact ⟨_, _, _, rfl, (big9.trans s11).trans (fun b o _ e => s13 b o e), (R11.grow s13).more (by omega)⟩
        · have ej : j = 9 := by omega
          subst ej
          exact .inl ⟨Nat.le_refl _, _, _, _, _, rfl, big9, R9.more (by omega)⟩
      · have et : t = 5 := by omega
        subst et
        refine .inl ⟨Nat.le_refl _, _, _, _, _, _, rfl, big4 _ _ hne hl2, fun j p' hj e => ?_⟩
        obtain ⟨a', b', c', d', e', r'⟩ := (hp2 j p' (by omega) e).at_
        exact ⟨⟨a', b', c', d', big4 _ _ (hne2 j p' hj e) e', r'⟩, rfl, fun _ _ e => nomatch e⟩
    · have ei : i = ps.length := by omega
      subst ei
      refine .inl ⟨⟨_, SqL.of hl2, by rw [List.length_map]; exact Nat.le_refl _⟩, ?_⟩
      refine ⟨HE, [none, none, none, none, none, none, none, none, none, none], .rt (.bool true), (fun _ _ e => nomatch e), ⟨by simp, fun i w e => ?_⟩, rest_true, fun v H' Hs' _ r => ?_⟩
      · exfalso
        match i with
        | 0 | 1 | 2 | 3 | 4 | 5 | 6 | 7 | 8 | 9 => simp at e
        | j + 10 => simp at e
      · cases r; exact q H'
end
end K88

set_option Elab.async false
set_option linter.all false
set_option maxRecDepth 100000
set_option maxHeartbeats 4000000
namespace K88
open PySem PySem.Spec PyProof.Rows L2 Pu
section
variable {P : Program} {w : World} {K : PySem.W.Frag} {mg : Str → Option Value} {base : Heap}
/-! The levels of the pure defs. -/
theorem _root_.Pu.DefAt.no_ {x qual : Str} {st : Stmt} {ps : List Str} (D : DefAt K mg x qual st ps) (k : Nat) : DefP P w K mg base x k ps (fun _ => none) := by
  obtain ⟨f, fd, Fn, hm, hb⟩ := D.ex
  have no : ∀ vs H Q E, ¬ spP (fun _ => none) vs H Q E := fun vs H Q E h => by obtain ⟨_, _, _, _, _, e, _⟩ := h; cases e
  exact ⟨f, fd, ⟨fun vs H Q E h => absurd h (no vs H Q E), fun A outer s H args us vs Q E _ _ _ _ h => absurd h (no vs H Q E)⟩, hm, Fn.kp, hb⟩
theorem lv_tok (D : DefAt K mg "_law_token" "_law_token" s__law_token ["text", "at"]) (m_int : mg "int" = none) (m_len : mg "len" = none) (k : Nat) : DefP P w K mg base "_law_token" (k + 1) ["text", "at"] gTok := d__law_token WNt D m_int m_len
theorem lv_parsed (D : DefAt K mg "_law_parsed" "_law_parsed" s__law_parsed ["text", "at"]) (DT : DefAt K mg "_law_token" "_law_token" s__law_token ["text", "at"]) (m_int : mg "int" = none) (m_tuple : mg "tuple" = none) (m_len : mg "len" = none) : ∀ n : Nat, DefP P w K mg base "_law_parsed" (n + 1) ["text", "at"] (gP n)
  | 0 => D.no_ _
  | n + 1 => d__law_parsed WNt D m_tuple m_len (lv_parsed D DT m_int m_tuple m_len n) (lv_tok DT m_int m_len n)
theorem lv_due (DD : DefAt K mg "_law_due" "_law_due" s__law_due ["text"]) (D : DefAt K mg "_law_parsed" "_law_parsed" s__law_parsed ["text", "at"]) (DT : DefAt K mg "_law_token" "_law_token" s__law_token ["text", "at"]) (m_int : mg "int" = none) (m_tuple : mg "tuple" = none) (m_len : mg "len" = none) (n : Nat) : DefP P w K mg base "_law_due" (n + 2) ["text"] (dueF n) :=
  d__law_due DD m_len (lv_parsed D DT m_int m_tuple m_len n)
theorem lv_exact (D : DefAt K mg "_law_exact" "_law_exact" s__law_exact ["mine", "theirs"]) (m_isinstance : mg "isinstance" = none) (m_bool : mg "bool" = none) (m_str : mg "str" = none) (m_int : mg "int" = none) (m_list : mg "list" = none) (m_tuple : mg "tuple" = none) (m_dict : mg "dict" = none) (m_zip : mg "zip" = none) (m_all : mg "all" = none) (m_len : mg "len" = none) : ∀ n : Nat, DefP P w K mg base "_law_exact" n ["mine", "theirs"] (gE n)
  | 0 => D.no_ _
  | n + 1 => d_exact2 D m_isinstance m_bool m_str m_int m_list m_tuple m_dict m_zip m_all m_len (lv_exact D m_isinstance m_bool m_str m_int m_list m_tuple m_dict m_zip m_all m_len n)
theorem lv_text (D : DefAt K mg "_law_thing_text" "_law_thing_text" s__law_thing_text ["thing"]) (m_isinstance : mg "isinstance" = none) (m_int : mg "int" = none) (m_str : mg "str" = none) (m_tuple : mg "tuple" = none) (m_list : mg "list" = none) : ∀ n : Nat, DefP P w K mg base "_law_thing_text" n ["thing"] (gT n)
  | 0 => D.no_ _
  | n + 1 => d__law_thing_text D m_isinstance m_int m_str m_tuple m_list (lv_text D m_isinstance m_int m_str m_tuple m_list n)
theorem lv_told (D : DefAt K mg "thing_told" "thing_told" s_thing_told ["thing"]) (m_isinstance : mg "isinstance" = none) (m_int : mg "int" = none) (m_str : mg "str" = none) (m_bool : mg "bool" = none) (m_list : mg "list" = none) (m_tuple : mg "tuple" = none) : ∀ n : Nat, DefP P w K mg base "thing_told" n ["thing"] (gTo n)
  | 0 => D.no_ _
  | n + 1 => d_thing_told D m_isinstance m_int m_str m_bool m_list m_tuple (lv_told D m_isinstance m_int m_str m_bool m_list m_tuple n)
theorem lv_is (D : DefAt K mg "is_thing" "is_thing" s_is_thing ["value"]) (DW : DefAt K mg "is_paper_word" "is_paper_word" s_is_paper_word ["value"]) (m_isinstance : mg "isinstance" = none) (m_int : mg "int" = none) (m_str : mg "str" = none) (m_list : mg "list" = none) (m_tuple : mg "tuple" = none) (m_all : mg "all" = none) : ∀ n : Nat, DefP P w K mg base "is_thing" (n + 1) ["value"] (gIT n)
  | 0 => D.no_ _
  | n + 1 => d_is_thing D m_isinstance m_int m_list m_tuple m_all (d_is_paper_word DW m_all m_isinstance m_str) (lv_is D DW m_isinstance m_int m_str m_list m_tuple m_all n)
theorem lv_thing_text (DX : DefAt K mg "thing_text" "thing_text" s_thing_text ["thing"]) (DT : DefAt K mg "thing_told" "thing_told" s_thing_told ["thing"]) (D : DefAt K mg "is_thing" "is_thing" s_is_thing ["value"]) (DW : DefAt K mg "is_paper_word" "is_paper_word" s_is_paper_word ["value"]) (m_isinstance : mg "isinstance" = none) (m_int : mg "int" = none) (m_str : mg "str" = none) (m_bool : mg "bool" = none) (m_list : mg "list" = none) (m_tuple : mg "tuple" = none) (m_all : mg "all" = none) (n : Nat) : DefP P w K mg base "thing_text" (n + 2) ["thing"] (gTh n) :=
  d_thing_text DX ((lv_told DT m_isinstance m_int m_str m_bool m_list m_tuple n).mono (Nat.le_succ n)) (lv_is D DW m_isinstance m_int m_str m_list m_tuple m_all n)
theorem lv_thing {f fD fO : Addr} {fd fdD fdO : FuncData} (F : Fun K "_law_thing" "_law_thing" s_thing f fd) (mF : mg "_law_thing" = some (.ref f)) (kF : PySem.W.keepIn K (.ref f) = true) (bF : Binds K fd ["purse", "deep"] [])
    {k : Nat} (FD : FnOk P w K mg base CX0 k fD fdD ["purse", "many"] spDraw) (mD : mg "_law_draw" = some (.ref fD)) (kD : PySem.W.keepIn K (.ref fD) = true) (bD : Binds K fdD ["purse", "many"] [])
    (FO : FnOk P w K mg base CX0 k fO fdO ["purse", "some"] spOneOf) (mO : mg "_law_one_of" = some (.ref fO)) (kO : PySem.W.keepIn K (.ref fO) = true) (bO : Binds K fdO ["purse", "some"] [])
    (m_range : mg "range" = none) (m_tuple : mg "tuple" = none) : ∀ D : Nat, FnOk P w K mg base CX0 (k + D) f fd ["purse", "deep"] (spThing D)
  | 0 => by
    have no : ∀ vs H Q E, ¬ spThing 0 vs H Q E := fun vs H Q E ⟨_, _, _, d, _, h, _⟩ => absurd h (Nat.not_lt_zero d)
    exact ⟨fun vs H Q E h => absurd h (no vs H Q E), fun A outer s H args us vs Q E _ _ _ _ h => absurd h (no vs H Q E)⟩
  | D + 1 => ok_thing F mF kF bF (lv_thing F mF kF bF FD mD kD bD FO mO kO bO m_range m_tuple D) (FD.mono (Nat.le_add_right k D)) mD kD bD (FO.mono (Nat.le_add_right k D)) mO kO bO m_range m_tuple
end
end K88

set_option Elab.async false
set_option linter.all false
set_option maxRecDepth 100000
set_option maxHeartbeats 4000000
namespace K88
open PySem PySem.Spec PyProof.Rows L2 Pu
section
variable {P : Program} {w : World} {K : PySem.W.Frag} {mg : Str → Option Value} {base : Heap}
/-! The promises joined. -/
theorem top_law {C CE CT CU fT fU fi ft fe fs fg fit f : Addr} {fd fdT fdU fdi fdt fde fds fdg fdit : FuncData} (F : Fun K "law" "law" s_law f fd)
    (T : TR K C) (M : Mk K C fi) (hC : mg "ThingReader" = some (.ref C)) (X : TXs K mg CE CT CU fT fU)
    (FT : FnOk P w K mg base CX0 1 fT fdT ["self", "value"] (spExInit CT)) (bT : Binds K fdT ["self", "value"] []) (FU : FnOk P w K mg base CX0 1 fU fdU ["self", "value"] (spExInit CU)) (bU : Binds K fdU ["self", "value"] [])
    (Fi : Fun K "__init__" "ThingReader.__init__" s_init fi fdi) (bi : Binds K fdi ["self"] [])
    (Ft : Fun K "takes" "ThingReader.takes" s_takes ft fdt) (bt : Binds K fdt ["self", "sign"] []) (mt : Meth K C "takes" ft)
    (Fg : Fun K "goes_on" "ThingReader.goes_on" s_ThingReader_goes_on fg fdg) (bg : Binds K fdg ["self", "sign"] []) (mG : Meth K C "goes_on" fg)
    (Fit : Fun K "item" "ThingReader.item" s_ThingReader_item fit fdit) (bit : Binds K fdit ["self"] []) (mI : Meth K C "item" fit)
    (Fe : Fun K "ends" "ThingReader.ends" s_ends fe fde) (be : Binds K fde ["self"] []) (mE : Meth K C "ends" fe)
    (Fs : Fun K "shuts" "ThingReader.shuts" s_shuts fs fds) (bs : Binds K fds ["self", "sign"] []) (mS : Meth K C "shuts" fs)
    (D7 : DefAt K mg "check_row" "check_row" s_check_row ["text"]) (D9 : DefAt K mg "is_paper_word" "is_paper_word" s_is_paper_word ["value"]) (D10 : DefAt K mg "is_thing" "is_thing" s_is_thing ["value"])
    (D11 : DefAt K mg "thing_told" "thing_told" s_thing_told ["thing"]) (D12 : DefAt K mg "thing_text" "thing_text" s_thing_text ["thing"]) (D14 : DefAt K mg "thing_read" "thing_read" s_thing_read ["text"]) (D15 : DefAt K mg "read_thing" "read_thing" s_read_thing ["text"])
    (D17 : DefAt K mg "_law_purse" "_law_purse" s_purse ["script", "at"]) (D18 : DefAt K mg "_law_mixed" "_law_mixed" s_mixed ["seed", "spin", "at"]) (D19 : DefAt K mg "_law_draw" "_law_draw" s_draw ["purse", "many"]) (D20 : DefAt K mg "_law_purses" "_law_purses" s_purses ["script", "few"])
    (D21 : DefAt K mg "_law_one_of" "_law_one_of" s_one_of ["purse", "some"]) (D22 : DefAt K mg "_law_exact" "_law_exact" s__law_exact ["mine", "theirs"]) (D23 : DefAt K mg "_law_thing_text" "_law_thing_text" s__law_thing_text ["thing"]) (D24 : DefAt K mg "_law_thing" "_law_thing" s_thing ["purse", "deep"])
    (D25 : DefAt K mg "_law_token" "_law_token" s__law_token ["text", "at"]) (D26 : DefAt K mg "_law_parsed" "_law_parsed" s__law_parsed ["text", "at"]) (D27 : DefAt K mg "_law_due" "_law_due" s__law_due ["text"]) (D28 : DefAt K mg "_law_heard" "_law_heard" s__law_heard ["text"]) (D29 : DefAt K mg "_law_bent" "_law_bent" s_bent ["purse", "text"])
    (z_all : mg "all" = none) (z_bool : mg "bool" = none) (z_dict : mg "dict" = none) (z_enumerate : mg "enumerate" = none) (z_int : mg "int" = none) (z_isinstance : mg "isinstance" = none) (z_len : mg "len" = none) (z_list : mg "list" = none) (z_max : mg "max" = none) (z_min : mg "min" = none) (z_range : mg "range" = none) (z_str : mg "str" = none) (z_sum : mg "sum" = none) (z_tuple : mg "tuple" = none) (z_zip : mg "zip" = none) :
    FnOk P w K mg base CX0 51 f fd ["script"] (spLaw K) := by
  obtain ⟨f7, fd7, F7, m7, b7⟩ := D7.ex
  obtain ⟨f14, fd14, F14, m14, b14⟩ := D14.ex
  obtain ⟨f15, fd15, F15, m15, b15⟩ := D15.ex
  obtain ⟨f17, fd17, F17, m17, b17⟩ := D17.ex
  obtain ⟨f18, fd18, F18, m18, b18⟩ := D18.ex
  obtain ⟨f19, fd19, F19, m19, b19⟩ := D19.ex
  obtain ⟨f20, fd20, F20, m20, b20⟩ := D20.ex
  obtain ⟨f21, fd21, F21, m21, b21⟩ := D21.ex
  obtain ⟨f24, fd24, F24, m24, b24⟩ := D24.ex
  obtain ⟨f28, fd28, F28, m28, b28⟩ := D28.ex
  obtain ⟨f29, fd29, F29, m29, b29⟩ := D29.ex
  have oI := ok_init (P := P) (w := w) (mg := mg) (base := base) (k := 4) Fi T
  have oit := d_ThingReader_item (P := P) (w := w) (mg := mg) (base := base) (k := 1) Fit T.cl T.nW z_int
  have ogo := d_ThingReader_goes_on (P := P) (w := w) (mg := mg) (base := base) (k := 3) Fg T.cl T.nW
  have oE := ok_ends (k := 2) Fe T oit bit mI
  have oS := ok_shuts (k := 3) Fs T oE be mE z_tuple
  have oT := ok_takes (k := 4) Ft T (oE.mono (by decide)) be mE oS bs mS ogo bg mG
  have oR := ok_thing_read (k := 5) F14 T M hC z_enumerate z_len oI bi (oT.mono (by decide)) bt mt (oE.mono (by decide)) be mE
  have oC := ok_check_row (k := 4) F7 X.t (FT.mono (by decide)) bT z_all z_isinstance z_str
  have oRT := ok_read_thing (k := 6) F15 X (FU.mono (by decide)) bU (oC.mono (by decide)) m7 F7.kp b7 (oR.mono (by decide)) m14 F14.kp b14
  have oH := ok_heard (k := 8) F28 X oRT m15 F15.kp b15 z_isinstance
  have oM := ok_mixed (P := P) (w := w) (mg := mg) (base := base) (k := 0) F18 z_int
  have oD := ok_draw (k := 1) F19 oM m18 F18.kp b18 z_int z_range
  have oO := ok_one_of (k := 2) F21 oD m19 F19.kp b19 z_len
  have oTh := lv_thing (k := 3) F24 m24 F24.kp b24 (oD.mono (by decide)) m19 F19.kp b19 oO m21 F21.kp b21 z_range z_tuple 5
  have oB := ok_bent (k := 3) F29 (oD.mono (by decide)) m19 F19.kp b19 oO m21 F21.kp b21 z_len z_list
  have oP := ok_purse (P := P) (w := w) (mg := mg) (base := base) (k := 0) F17 z_int z_sum z_max
  have oPs := ok_purses (k := 1) F20 oP m17 F17.kp b17 z_range z_max z_min z_len
  obtain ⟨f23, fd23, o23, m23, k23, b23⟩ := (lv_text (P := P) (w := w) (base := base) D23 z_isinstance z_int z_str z_tuple z_list 5).ex
  exact ok_law (k := 50) F (oPs.mono (by decide)) m20 F20.kp b20 (oD.mono (by decide)) m19 F19.kp b19 (oTh.mono (by decide)) m24 F24.kp b24 (oB.mono (by decide)) m29 F29.kp b29 (o23.mono (by decide)) m23 k23 b23
    ((lv_thing_text D12 D11 D10 D9 z_isinstance z_int z_str z_bool z_list z_tuple z_all 3).mono (by decide)) ((read_pure oRT).mono (by decide)) m15 F15.kp b15
    ((lv_exact D22 z_isinstance z_bool z_str z_int z_list z_tuple z_dict z_zip z_all z_len 25).mono (by decide)) (DefP.mono ⟨f28, fd28, oH, m28, F28.kp, b28⟩ (by decide))
    ((lv_due D27 D26 D25 z_int z_tuple z_len 23).mono (by decide)) z_range
end
end K88

set_option Elab.async false
set_option linter.all false
set_option maxRecDepth 100000
set_option maxHeartbeats 8000000
namespace K88
open PySem PySem.Spec PyProof.Rows L2 Pu
theorem kit_self {K : PySem.W.Frag} {t : Value} {a : Addr} (h : t = .ref a := by rfl) : PySem.W.kitOne K t t = some true := by
  subst h
  unfold PySem.W.kitOne
  rw [if_pos (by simp)]
theorem kit_exc {K : PySem.W.Frag} {t : Value} {C : Addr} {b : Bool} (n : (t == .ref C) = false) (h1 : PySem.W.subIn K (.ref C) (.type "BaseException") = some true) (h2 : PySem.W.hasDictIn K C = true) (h3 : PySem.W.typeIn K (.ref C) = some (.type "type")) (h4 : PySem.W.subIn K t (.ref C) = some b) : PySem.W.kitOne K t (.ref C) = some b := by
  have h := PySem.W.exm_ref h1 h2 h3 h4
  unfold PySem.W.exmOne at h
  unfold PySem.W.kitOne
  rw [if_neg (by rw [n]; exact Bool.false_ne_true)]
  rw [if_pos (by rw [h1]; rfl)] at h
  exact h
theorem all_mk {l : PySem.W.OpenLaw} {w : World} {K : PySem.W.Frag} {h : Heap} {mg : Str → Option Value} {fa : Addr} (X : K.In h) (G : h.Ns mainGlobals mg) (hfa : mg "law" = some (.ref fa))
    {f7 f9 f10 f11 f12 f14 f15 f17 f18 f19 f20 f21 f22 f23 f24 f25 f26 f27 f28 f29 f30 fMI fMT fMG fMM fME fMS : Addr} {od7 an7 od9 an9 od10 an10 od11 an11 od12 an12 od14 an14 od15 an15 od17 an17 od18 an18 od19 an19 od20 an20 od21 an21 od22 an22 od23 an23 od24 an24 od25 an25 od26 an26 od27 an27 od28 an28 od29 an29 od30 an30 odMI anMI odMT anMT odMG anMG odMM anMM odME anME odMS anMS : Option Addr} {sl7 sl9 sl10 sl11 sl12 sl14 sl15 sl17 sl18 sl19 sl20 sl21 sl22 sl23 sl24 sl25 sl26 sl27 sl28 sl29 sl30 slMI slMT slMG slMM slME slMS : Array (Option Value)} {oc7 kV7 dc7 pm7 cd7 ct7 oc9 kV9 dc9 pm9 cd9 ct9 oc10 kV10 dc10 pm10 cd10 ct10 oc11 kV11 dc11 pm11 cd11 ct11 oc12 kV12 dc12 pm12 cd12 ct12 oc14 kV14 dc14 pm14 cd14 ct14 oc15 kV15 dc15 pm15 cd15 ct15 oc17 kV17 dc17 pm17 cd17 ct17 oc18 kV18 dc18 pm18 cd18 ct18 oc19 kV19 dc19 pm19 cd19 ct19 oc20 kV20 dc20 pm20 cd20 ct20 oc21 kV21 dc21 pm21 cd21 ct21 oc22 kV22 dc22 pm22 cd22 ct22 oc23 kV23 dc23 pm23 cd23 ct23 oc24 kV24 dc24 pm24 cd24 ct24 oc25 kV25 dc25 pm25 cd25 ct25 oc26 kV26 dc26 pm26 cd26 ct26 oc27 kV27 dc27 pm27 cd27 ct27 oc28 kV28 dc28 pm28 cd28 ct28 oc29 kV29 dc29 pm29 cd29 ct29 oc30 kV30 dc30 pm30 cd30 ct30 ocMI kVMI dcMI pmMI cdMI ctMI ocMT kVMT dcMT pmMT cdMT ctMT ocMG kVMG dcMG pmMG cdMG ctMG ocMM kVMM dcMM pmMM cdMM ctMM ocME kVME dcME pmME cdME ctME ocMS kVMS dcMS pmMS cdMS ctMS : Value}
    {C CE CT CU fT fU TT TU NT NU : Addr} {nmT qnT nmU qnU : Str} {bsT bsU suT suU : List Value} {snT snU : List Str} {abT abU : Bool} {coT coU : Option Bool} {ddT ddU : Option Addr} {m0T m1T m2T m3T m5T : Option Value} {odT anT tdT : Option Addr} {slT tsT : Array (Option Value)} {ocT dcT pmT cdT ctT toT : Value} {tnT : Nat} {m0U m1U m2U m3U m5U : Option Value} {odU anU tdU : Option Addr} {slU tsU : Array (Option Value)} {ocU dcU pmU cdU ctU toU : Value} {tnU : Nat}
    (a7 : PySem.W.nsIn K mainGlobals "check_row" = some (some (.ref f7))) (l7 : K.lookup f7 = some ⟨oc7, od7, .func (PySem.W.fnOf "check_row" "check_row" (defArgs s_check_row) (defBody s_check_row) (defScope s_check_row) .none kV7 dc7 pm7 an7 cd7 ct7), sl7⟩) (c7 : PySem.W.codeIn K cd7 "check_row" = true) (k7 : PySem.W.keepIn K (.ref f7) = true)
    (a9 : PySem.W.nsIn K mainGlobals "is_paper_word" = some (some (.ref f9))) (l9 : K.lookup f9 = some ⟨oc9, od9, .func (PySem.W.fnOf "is_paper_word" "is_paper_word" (defArgs s_is_paper_word) (defBody s_is_paper_word) (defScope s_is_paper_word) .none kV9 dc9 pm9 an9 cd9 ct9), sl9⟩) (c9 : PySem.W.codeIn K cd9 "is_paper_word" = true) (k9 : PySem.W.keepIn K (.ref f9) = true)
    (a10 : PySem.W.nsIn K mainGlobals "is_thing" = some (some (.ref f10))) (l10 : K.lookup f10 = some ⟨oc10, od10, .func (PySem.W.fnOf "is_thing" "is_thing" (defArgs s_is_thing) (defBody s_is_thing) (defScope s_is_thing) .none kV10 dc10 pm10 an10 cd10 ct10), sl10⟩) (c10 : PySem.W.codeIn K cd10 "is_thing" = true) (k10 : PySem.W.keepIn K (.ref f10) = true)
    (a11 : PySem.W.nsIn K mainGlobals "thing_told" = some (some (.ref f11))) (l11 : K.lookup f11 = some ⟨oc11, od11, .func (PySem.W.fnOf "thing_told" "thing_told" (defArgs s_thing_told) (defBody s_thing_told) (defScope s_thing_told) .none kV11 dc11 pm11 an11 cd11 ct11), sl11⟩) (c11 : PySem.W.codeIn K cd11 "thing_told" = true) (k11 : PySem.W.keepIn K (.ref f11) = true)
    (a12 : PySem.W.nsIn K mainGlobals "thing_text" = some (some (.ref f12))) (l12 : K.lookup f12 = some ⟨oc12, od12, .func (PySem.W.fnOf "thing_text" "thing_text" (defArgs s_thing_text) (defBody s_thing_text) (defScope s_thing_text) .none kV12 dc12 pm12 an12 cd12 ct12), sl12⟩) (c12 : PySem.W.codeIn K cd12 "thing_text" = true) (k12 : PySem.W.keepIn K (.ref f12) = true)
    (a14 : PySem.W.nsIn K mainGlobals "thing_read" = some (some (.ref f14))) (l14 : K.lookup f14 = some ⟨oc14, od14, .func (PySem.W.fnOf "thing_read" "thing_read" (defArgs s_thing_read) (defBody s_thing_read) (defScope s_thing_read) .none kV14 dc14 pm14 an14 cd14 ct14), sl14⟩) (c14 : PySem.W.codeIn K cd14 "thing_read" = true) (k14 : PySem.W.keepIn K (.ref f14) = true)
    (a15 : PySem.W.nsIn K mainGlobals "read_thing" = some (some (.ref f15))) (l15 : K.lookup f15 = some ⟨oc15, od15, .func (PySem.W.fnOf "read_thing" "read_thing" (defArgs s_read_thing) (defBody s_read_thing) (defScope s_read_thing) .none kV15 dc15 pm15 an15 cd15 ct15), sl15⟩) (c15 : PySem.W.codeIn K cd15 "read_thing" = true) (k15 : PySem.W.keepIn K (.ref f15) = true)
    (a17 : PySem.W.nsIn K mainGlobals "_law_purse" = some (some (.ref f17))) (l17 : K.lookup f17 = some ⟨oc17, od17, .func (PySem.W.fnOf "_law_purse" "_law_purse" (defArgs s_purse) (defBody s_purse) (defScope s_purse) .none kV17 dc17 pm17 an17 cd17 ct17), sl17⟩) (c17 : PySem.W.codeIn K cd17 "_law_purse" = true) (k17 : PySem.W.keepIn K (.ref f17) = true)
    (a18 : PySem.W.nsIn K mainGlobals "_law_mixed" = some (some (.ref f18))) (l18 : K.lookup f18 = some ⟨oc18, od18, .func (PySem.W.fnOf "_law_mixed" "_law_mixed" (defArgs s_mixed) (defBody s_mixed) (defScope s_mixed) .none kV18 dc18 pm18 an18 cd18 ct18), sl18⟩) (c18 : PySem.W.codeIn K cd18 "_law_mixed" = true) (k18 : PySem.W.keepIn K (.ref f18) = true)
    (a19 : PySem.W.nsIn K mainGlobals "_law_draw" = some (some (.ref f19))) (l19 : K.lookup f19 = some ⟨oc19, od19, .func (PySem.W.fnOf "_law_draw" "_law_draw" (defArgs s_draw) (defBody s_draw) (defScope s_draw) .none kV19 dc19 pm19 an19 cd19 ct19), sl19⟩) (c19 : PySem.W.codeIn K cd19 "_law_draw" = true) (k19 : PySem.W.keepIn K (.ref f19) = true)
    (a20 : PySem.W.nsIn K mainGlobals "_law_purses" = some (some (.ref f20))) (l20 : K.lookup f20 = some ⟨oc20, od20, .func (PySem.W.fnOf "_law_purses" "_law_purses" (defArgs s_purses) (defBody s_purses) (defScope s_purses) .none kV20 dc20 pm20 an20 cd20 ct20), sl20⟩) (c20 : PySem.W.codeIn K cd20 "_law_purses" = true) (k20 : PySem.W.keepIn K (.ref f20) = true)
    (a21 : PySem.W.nsIn K mainGlobals "_law_one_of" = some (some (.ref f21))) (l21 : K.lookup f21 = some ⟨oc21, od21, .func (PySem.W.fnOf "_law_one_of" "_law_one_of" (defArgs s_one_of) (defBody s_one_of) (defScope s_one_of) .none kV21 dc21 pm21 an21 cd21 ct21), sl21⟩) (c21 : PySem.W.codeIn K cd21 "_law_one_of" = true) (k21 : PySem.W.keepIn K (.ref f21) = true)
    (a22 : PySem.W.nsIn K mainGlobals "_law_exact" = some (some (.ref f22))) (l22 : K.lookup f22 = some ⟨oc22, od22, .func (PySem.W.fnOf "_law_exact" "_law_exact" (defArgs s__law_exact) (defBody s__law_exact) (defScope s__law_exact) .none kV22 dc22 pm22 an22 cd22 ct22), sl22⟩) (c22 : PySem.W.codeIn K cd22 "_law_exact" = true) (k22 : PySem.W.keepIn K (.ref f22) = true)
    (a23 : PySem.W.nsIn K mainGlobals "_law_thing_text" = some (some (.ref f23))) (l23 : K.lookup f23 = some ⟨oc23, od23, .func (PySem.W.fnOf "_law_thing_text" "_law_thing_text" (defArgs s__law_thing_text) (defBody s__law_thing_text) (defScope s__law_thing_text) .none kV23 dc23 pm23 an23 cd23 ct23), sl23⟩) (c23 : PySem.W.codeIn K cd23 "_law_thing_text" = true) (k23 : PySem.W.keepIn K (.ref f23) = true)
    (a24 : PySem.W.nsIn K mainGlobals "_law_thing" = some (some (.ref f24))) (l24 : K.lookup f24 = some ⟨oc24, od24, .func (PySem.W.fnOf "_law_thing" "_law_thing" (defArgs s_thing) (defBody s_thing) (defScope s_thing) .none kV24 dc24 pm24 an24 cd24 ct24), sl24⟩) (c24 : PySem.W.codeIn K cd24 "_law_thing" = true) (k24 : PySem.W.keepIn K (.ref f24) = true)
    (a25 : PySem.W.nsIn K mainGlobals "_law_token" = some (some (.ref f25))) (l25 : K.lookup f25 = some ⟨oc25, od25, .func (PySem.W.fnOf "_law_token" "_law_token" (defArgs s__law_token) (defBody s__law_token) (defScope s__law_token) .none kV25 dc25 pm25 an25 cd25 ct25), sl25⟩) (c25 : PySem.W.codeIn K cd25 "_law_token" = true) (k25 : PySem.W.keepIn K (.ref f25) = true)
    (a26 : PySem.W.nsIn K mainGlobals "_law_parsed" = some (some (.ref f26))) (l26 : K.lookup f26 = some ⟨oc26, od26, .func (PySem.W.fnOf "_law_parsed" "_law_parsed" (defArgs s__law_parsed) (defBody s__law_parsed) (defScope s__law_parsed) .none kV26 dc26 pm26 an26 cd26 ct26), sl26⟩) (c26 : PySem.W.codeIn K cd26 "_law_parsed" = true) (k26 : PySem.W.keepIn K (.ref f26) = true)
    (a27 : PySem.W.nsIn K mainGlobals "_law_due" = some (some (.ref f27))) (l27 : K.lookup f27 = some ⟨oc27, od27, .func (PySem.W.fnOf "_law_due" "_law_due" (defArgs s__law_due) (defBody s__law_due) (defScope s__law_due) .none kV27 dc27 pm27 an27 cd27 ct27), sl27⟩) (c27 : PySem.W.codeIn K cd27 "_law_due" = true) (k27 : PySem.W.keepIn K (.ref f27) = true)
    (a28 : PySem.W.nsIn K mainGlobals "_law_heard" = some (some (.ref f28))) (l28 : K.lookup f28 = some ⟨oc28, od28, .func (PySem.W.fnOf "_law_heard" "_law_heard" (defArgs s__law_heard) (defBody s__law_heard) (defScope s__law_heard) .none kV28 dc28 pm28 an28 cd28 ct28), sl28⟩) (c28 : PySem.W.codeIn K cd28 "_law_heard" = true) (k28 : PySem.W.keepIn K (.ref f28) = true)
    (a29 : PySem.W.nsIn K mainGlobals "_law_bent" = some (some (.ref f29))) (l29 : K.lookup f29 = some ⟨oc29, od29, .func (PySem.W.fnOf "_law_bent" "_law_bent" (defArgs s_bent) (defBody s_bent) (defScope s_bent) .none kV29 dc29 pm29 an29 cd29 ct29), sl29⟩) (c29 : PySem.W.codeIn K cd29 "_law_bent" = true) (k29 : PySem.W.keepIn K (.ref f29) = true)
    (a30 : PySem.W.nsIn K mainGlobals "law" = some (some (.ref f30))) (l30 : K.lookup f30 = some ⟨oc30, od30, .func (PySem.W.fnOf "law" "law" (defArgs s_law) (defBody s_law) (defScope s_law) .none kV30 dc30 pm30 an30 cd30 ct30), sl30⟩) (c30 : PySem.W.codeIn K cd30 "law" = true) (k30 : PySem.W.keepIn K (.ref f30) = true)
    (aMI : PySem.W.findIn K (.ref C) "__init__" = some (some (.ref fMI))) (iMI : PySem.W.isFn K (.ref fMI) = true) (lMI : K.lookup fMI = some ⟨ocMI, odMI, .func (PySem.W.fnOf "__init__" "ThingReader.__init__" (defArgs s_init) (defBody s_init) (defScope s_init) .none kVMI dcMI pmMI anMI cdMI ctMI), slMI⟩) (cMI : PySem.W.codeIn K cdMI "ThingReader.__init__" = true) (kMI : PySem.W.keepIn K (.ref fMI) = true)
    (aMT : PySem.W.findIn K (.ref C) "takes" = some (some (.ref fMT))) (iMT : PySem.W.isFn K (.ref fMT) = true) (lMT : K.lookup fMT = some ⟨ocMT, odMT, .func (PySem.W.fnOf "takes" "ThingReader.takes" (defArgs s_takes) (defBody s_takes) (defScope s_takes) .none kVMT dcMT pmMT anMT cdMT ctMT), slMT⟩) (cMT : PySem.W.codeIn K cdMT "ThingReader.takes" = true) (kMT : PySem.W.keepIn K (.ref fMT) = true)
    (aMG : PySem.W.findIn K (.ref C) "goes_on" = some (some (.ref fMG))) (iMG : PySem.W.isFn K (.ref fMG) = true) (lMG : K.lookup fMG = some ⟨ocMG, odMG, .func (PySem.W.fnOf "goes_on" "ThingReader.goes_on" (defArgs s_ThingReader_goes_on) (defBody s_ThingReader_goes_on) (defScope s_ThingReader_goes_on) .none kVMG dcMG pmMG anMG cdMG ctMG), slMG⟩) (cMG : PySem.W.codeIn K cdMG "ThingReader.goes_on" = true) (kMG : PySem.W.keepIn K (.ref fMG) = true)
    (aMM : PySem.W.findIn K (.ref C) "item" = some (some (.ref fMM))) (iMM : PySem.W.isFn K (.ref fMM) = true) (lMM : K.lookup fMM = some ⟨ocMM, odMM, .func (PySem.W.fnOf "item" "ThingReader.item" (defArgs s_ThingReader_item) (defBody s_ThingReader_item) (defScope s_ThingReader_item) .none kVMM dcMM pmMM anMM cdMM ctMM), slMM⟩) (cMM : PySem.W.codeIn K cdMM "ThingReader.item" = true) (kMM : PySem.W.keepIn K (.ref fMM) = true)
    (aME : PySem.W.findIn K (.ref C) "ends" = some (some (.ref fME))) (iME : PySem.W.isFn K (.ref fME) = true) (lME : K.lookup fME = some ⟨ocME, odME, .func (PySem.W.fnOf "ends" "ThingReader.ends" (defArgs s_ends) (defBody s_ends) (defScope s_ends) .none kVME dcME pmME anME cdME ctME), slME⟩) (cME : PySem.W.codeIn K cdME "ThingReader.ends" = true) (kME : PySem.W.keepIn K (.ref fME) = true)
    (aMS : PySem.W.findIn K (.ref C) "shuts" = some (some (.ref fMS))) (iMS : PySem.W.isFn K (.ref fMS) = true) (lMS : K.lookup fMS = some ⟨ocMS, odMS, .func (PySem.W.fnOf "shuts" "ThingReader.shuts" (defArgs s_shuts) (defBody s_shuts) (defScope s_shuts) .none kVMS dcMS pmMS anMS cdMS ctMS), slMS⟩) (cMS : PySem.W.codeIn K cdMS "ThingReader.shuts" = true) (kMS : PySem.W.keepIn K (.ref fMS) = true)
    (z_all : PySem.W.nsIn K mainGlobals "all" = some none)
    (z_bool : PySem.W.nsIn K mainGlobals "bool" = some none)
    (z_dict : PySem.W.nsIn K mainGlobals "dict" = some none)
    (z_enumerate : PySem.W.nsIn K mainGlobals "enumerate" = some none)
    (z_int : PySem.W.nsIn K mainGlobals "int" = some none)
    (z_isinstance : PySem.W.nsIn K mainGlobals "isinstance" = some none)
    (z_len : PySem.W.nsIn K mainGlobals "len" = some none)
    (z_list : PySem.W.nsIn K mainGlobals "list" = some none)
    (z_max : PySem.W.nsIn K mainGlobals "max" = some none)
    (z_min : PySem.W.nsIn K mainGlobals "min" = some none)
    (z_range : PySem.W.nsIn K mainGlobals "range" = some none)
    (z_str : PySem.W.nsIn K mainGlobals "str" = some none)
    (z_sum : PySem.W.nsIn K mainGlobals "sum" = some none)
    (z_tuple : PySem.W.nsIn K mainGlobals "tuple" = some none)
    (z_zip : PySem.W.nsIn K mainGlobals "zip" = some none)
    (gE : PySem.W.nsIn K mainGlobals "EndError" = some (some (.ref CE)))
    (sg0 : PySem.W.specialIn K (.builtin "object.__class__") "__get__" = some (some (.builtin "getset_descriptor.__get__")))
    (tk0 : PySem.W.takesIn K (.builtin "object.__class__") = some true)
    (moT : PySem.W.mroIn K CT (.type "object") = some true)
    (moU : PySem.W.mroIn K CU (.type "object") = some true)
    (stu : PySem.W.subIn K (.ref CT) (.ref CU) = some false)
    (sut : PySem.W.subIn K (.ref CU) (.ref CT) = some false)
    (ste : PySem.W.subIn K (.ref CT) (.ref CE) = some true)
    (sue : PySem.W.subIn K (.ref CU) (.ref CE) = some true)
    (eBE : PySem.W.subIn K (.ref CE) (.type "BaseException") = some true)
    (tyE : PySem.W.typeIn K (.ref CE) = some (.type "type"))
    (hdE : PySem.W.hasDictIn K CE = true)
    (neTU : (Value.ref CT == Value.ref CU) = false) (neUT : (Value.ref CU == Value.ref CT) = false)
    (gC : PySem.W.nsIn K mainGlobals "ThingReader" = some (some (.ref C)))
    (pg : PySem.W.plainGet K C Str.empty = true)
    (hdC : PySem.W.hasDictIn K C = true)
    (po : PySem.W.plainOver K C = true)
    (saC : PySem.W.findIn K (.ref C) "__setattr__" = some (some (.builtin "object.__setattr__")))
    (mkC : PySem.W.makesIn K C = true)
    (kCC : PySem.W.keepIn K (.ref C) = true)
    (nL : PySem.W.findIn K (.ref C) "lots" = some none)
    (nS : PySem.W.findIn K (.ref C) "signs" = some none)
    (nW : PySem.W.findIn K (.ref C) "word" = some none)
    (nE : PySem.W.findIn K (.ref C) "is_ended" = some none)
    (gT : PySem.W.nsIn K mainGlobals "InvalidText" = some (some (.ref CT)))
    (xT : K.lookup CT = some (excClassObj nmT qnT CT NT bsT [.ref CE, .type "ValueError", .type "Exception", .type "BaseException", .type "object"] true snT suT abT coT ddT m0T m1T m2T m3T m5T "ValueError.__new__"))
    (saT : PySem.W.findIn K (.ref CT) "__setattr__" = some (some (.builtin "object.__setattr__")))
    (gaT : PySem.W.findIn K (.ref CT) "__getattribute__" = some (some (.builtin "BaseException.__getattribute__")))
    (ggT : PySem.W.findIn K (.ref CT) "__getattr__" = some none)
    (nvT : PySem.W.findIn K (.ref CT) "value" = some none)
    (caT : PySem.W.findIn K (.ref CT) "__class__" = some (some (.builtin "object.__class__")))
    (iaT : PySem.W.findIn K (.ref CT) "__init__" = some (some (.ref fT)))
    (tiT : PySem.W.typeIn K (.ref fT) = some (.type "function"))
    (eBT : PySem.W.subIn K (.ref CT) (.type "BaseException") = some true)
    (tyT : PySem.W.typeIn K (.ref CT) = some (.type "type"))
    (kCT : PySem.W.keepIn K (.ref CT) = true)
    (hdT : PySem.W.hasDictIn K CT = true)
    (lT : K.lookup fT = some ⟨ocT, odT, .func (PySem.W.fnOf "__init__" "InvalidText.__init__" (defArgs s_exT) (defBody s_exT) (defScope s_exT) (.ref TT) .none dcT pmT anT cdT ctT), slT⟩)
    (lTT : K.lookup TT = some ⟨toT, tdT, .seq #[.none] tnT, tsT⟩)
    (cT : PySem.W.codeIn K cdT "InvalidText.__init__" = true) (kT : PySem.W.keepIn K (.ref fT) = true)
    (gU : PySem.W.nsIn K mainGlobals "Unread" = some (some (.ref CU)))
    (xU : K.lookup CU = some (excClassObj nmU qnU CU NU bsU [.ref CE, .type "ValueError", .type "Exception", .type "BaseException", .type "object"] true snU suU abU coU ddU m0U m1U m2U m3U m5U "ValueError.__new__"))
    (saU : PySem.W.findIn K (.ref CU) "__setattr__" = some (some (.builtin "object.__setattr__")))
    (gaU : PySem.W.findIn K (.ref CU) "__getattribute__" = some (some (.builtin "BaseException.__getattribute__")))
    (ggU : PySem.W.findIn K (.ref CU) "__getattr__" = some none)
    (nvU : PySem.W.findIn K (.ref CU) "value" = some none)
    (caU : PySem.W.findIn K (.ref CU) "__class__" = some (some (.builtin "object.__class__")))
    (iaU : PySem.W.findIn K (.ref CU) "__init__" = some (some (.ref fU)))
    (tiU : PySem.W.typeIn K (.ref fU) = some (.type "function"))
    (eBU : PySem.W.subIn K (.ref CU) (.type "BaseException") = some true)
    (tyU : PySem.W.typeIn K (.ref CU) = some (.type "type"))
    (kCU : PySem.W.keepIn K (.ref CU) = true)
    (hdU : PySem.W.hasDictIn K CU = true)
    (lU : K.lookup fU = some ⟨ocU, odU, .func (PySem.W.fnOf "__init__" "Unread.__init__" (defArgs s_exU) (defBody s_exU) (defScope s_exU) (.ref TU) .none dcU pmU anU cdU ctU), slU⟩)
    (lTU : K.lookup TU = some ⟨toU, tdU, .seq #[.none] tnU, tsU⟩)
    (cU : PySem.W.codeIn K cdU "Unread.__init__" = true) (kU : PySem.W.keepIn K (.ref fU) = true)
    : ∃ fd : FuncData, (∀ (s : Shared) (v : Value), BindsTo s fd ⟨[v], []⟩ [("script", v)]) ∧ ∀ base : Heap, K.In base → base.Ns mainGlobals mg → FnOk l.prog w K mg base CX0 51 fa fd ["script"] (spLaw K) := by
  have e := hfa.symm.trans (PySem.W.mg_of X G a30)
  cases e
  have F7 := fun_mk (st := s_check_row) l7 c7 k7
  have b7 := F7.binds (ps := ["text"]) fun _ _ _ _ _ _ us hl => match us, hl with | [_], _ => rfl
  have F9 := fun_mk (st := s_is_paper_word) l9 c9 k9
  have b9 := F9.binds (ps := ["value"]) fun _ _ _ _ _ _ us hl => match us, hl with | [_], _ => rfl
  have F10 := fun_mk (st := s_is_thing) l10 c10 k10
  have b10 := F10.binds (ps := ["value"]) fun _ _ _ _ _ _ us hl => match us, hl with | [_], _ => rfl
  have F11 := fun_mk (st := s_thing_told) l11 c11 k11
  have b11 := F11.binds (ps := ["thing"]) fun _ _ _ _ _ _ us hl => match us, hl with | [_], _ => rfl
  have F12 := fun_mk (st := s_thing_text) l12 c12 k12
  have b12 := F12.binds (ps := ["thing"]) fun _ _ _ _ _ _ us hl => match us, hl with | [_], _ => rfl
  have F14 := fun_mk (st := s_thing_read) l14 c14 k14
  have b14 := F14.binds (ps := ["text"]) fun _ _ _ _ _ _ us hl => match us, hl with | [_], _ => rfl
  have F15 := fun_mk (st := s_read_thing) l15 c15 k15
  have b15 := F15.binds (ps := ["text"]) fun _ _ _ _ _ _ us hl => match us, hl with | [_], _ => rfl
  have F17 := fun_mk (st := s_purse) l17 c17 k17
  have b17 := F17.binds (ps := ["script", "at"]) fun _ _ _ _ _ _ us hl => match us, hl with | [_, _], _ => rfl
  have F18 := fun_mk (st := s_mixed) l18 c18 k18
  have b18 := F18.binds (ps := ["seed", "spin", "at"]) fun _ _ _ _ _ _ us hl => match us, hl with | [_, _, _], _ => rfl
  have F19 := fun_mk (st := s_draw) l19 c19 k19
  have b19 := F19.binds (ps := ["purse", "many"]) fun _ _ _ _ _ _ us hl => match us, hl with | [_, _], _ => rfl
  have F20 := fun_mk (st := s_purses) l20 c20 k20
  have b20 := F20.binds (ps := ["script", "few"]) fun _ _ _ _ _ _ us hl => match us, hl with | [_, _], _ => rfl
  have F21 := fun_mk (st := s_one_of) l21 c21 k21
  have b21 := F21.binds (ps := ["purse", "some"]) fun _ _ _ _ _ _ us hl => match us, hl with | [_, _], _ => rfl
  have F22 := fun_mk (st := s__law_exact) l22 c22 k22
  have b22 := F22.binds (ps := ["mine", "theirs"]) fun _ _ _ _ _ _ us hl => match us, hl with | [_, _], _ => rfl
  have F23 := fun_mk (st := s__law_thing_text) l23 c23 k23
  have b23 := F23.binds (ps := ["thing"]) fun _ _ _ _ _ _ us hl => match us, hl with | [_], _ => rfl
  have F24 := fun_mk (st := s_thing) l24 c24 k24
  have b24 := F24.binds (ps := ["purse", "deep"]) fun _ _ _ _ _ _ us hl => match us, hl with | [_, _], _ => rfl
  have F25 := fun_mk (st := s__law_token) l25 c25 k25
  have b25 := F25.binds (ps := ["text", "at"]) fun _ _ _ _ _ _ us hl => match us, hl with | [_, _], _ => rfl
  have F26 := fun_mk (st := s__law_parsed) l26 c26 k26
  have b26 := F26.binds (ps := ["text", "at"]) fun _ _ _ _ _ _ us hl => match us, hl with | [_, _], _ => rfl
  have F27 := fun_mk (st := s__law_due) l27 c27 k27
  have b27 := F27.binds (ps := ["text"]) fun _ _ _ _ _ _ us hl => match us, hl with | [_], _ => rfl
  have F28 := fun_mk (st := s__law_heard) l28 c28 k28
  have b28 := F28.binds (ps := ["text"]) fun _ _ _ _ _ _ us hl => match us, hl with | [_], _ => rfl
  have F29 := fun_mk (st := s_bent) l29 c29 k29
  have b29 := F29.binds (ps := ["purse", "text"]) fun _ _ _ _ _ _ us hl => match us, hl with | [_, _], _ => rfl
  have F30 := fun_mk (st := s_law) l30 c30 k30
  have b30 := F30.binds (ps := ["script"]) fun _ _ _ _ _ _ us hl => match us, hl with | [_], _ => rfl
  have FMI := fun_mk (st := s_init) lMI cMI kMI
  have bMI := FMI.binds (ps := ["self"]) fun _ _ _ _ _ _ us hl => match us, hl with | [_], _ => rfl
  have FMT := fun_mk (st := s_takes) lMT cMT kMT
  have bMT := FMT.binds (ps := ["self", "sign"]) fun _ _ _ _ _ _ us hl => match us, hl with | [_, _], _ => rfl
  have FMG := fun_mk (st := s_ThingReader_goes_on) lMG cMG kMG
  have bMG := FMG.binds (ps := ["self", "sign"]) fun _ _ _ _ _ _ us hl => match us, hl with | [_, _], _ => rfl
  have FMM := fun_mk (st := s_ThingReader_item) lMM cMM kMM
  have bMM := FMM.binds (ps := ["self"]) fun _ _ _ _ _ _ us hl => match us, hl with | [_], _ => rfl
  have FME := fun_mk (st := s_ends) lME cME kME
  have bME := FME.binds (ps := ["self"]) fun _ _ _ _ _ _ us hl => match us, hl with | [_], _ => rfl
  have FMS := fun_mk (st := s_shuts) lMS cMS kMS
  have bMS := FMS.binds (ps := ["self", "sign"]) fun _ _ _ _ _ _ us hl => match us, hl with | [_, _], _ => rfl
  have ktt : PySem.W.kitOne K (.ref CT) (.ref CT) = some true := kit_self
  have kuu : PySem.W.kitOne K (.ref CU) (.ref CU) = some true := kit_self
  have ktu : PySem.W.kitOne K (.ref CT) (.ref CU) = some false := kit_exc neTU eBU hdU tyU stu
  have kut : PySem.W.kitOne K (.ref CU) (.ref CT) = some false := kit_exc neUT eBT hdT tyT sut
  have emT : PySem.W.exmOne K (.ref CT) (.ref CE) = some true := PySem.W.exm_ref eBE hdE tyE ste
  have emU : PySem.W.exmOne K (.ref CU) (.ref CE) = some true := PySem.W.exm_ref eBE hdE tyE sue
  have clT : (PySem.W.clsIn K CT).isSome = true := by unfold PySem.W.clsIn; rw [xT]; rfl
  have clU : (PySem.W.clsIn K CU).isSome = true := by unfold PySem.W.clsIn; rw [xU]; rfl
  have FDT : FunD K "__init__" "InvalidText.__init__" (defArgs s_exT) (defBody s_exT) (defScope s_exT) [.non] [] fT _ := ⟨⟨_, _, _, _, _, _, _, _, _, _, rfl, lT, cT, .inr ⟨(by decide), _, _, [_], _, rfl, lTT, rfl, .cons rfl .nil⟩, .inl rfl⟩, kT⟩
  have OT : OexC K CT := ⟨⟨_, _, _, _, _, _, _, _, _, _, _, _, _, _, _, xT, by rfl⟩, saT, eBT, tyT, kCT⟩
  obtain ⟨dsT, vT, bdT⟩ := FDT.binds1 (ps := ["self", "value"]) 2 1 (by decide) rfl fun _ _ _ _ _ _ _ us its hu hi => match us, its, hu, hi with | [_, _], [_], _, _ => ⟨_, rfl, rfl⟩
  cases vT
  have XT : TX K mg "InvalidText" CT fT CE := ⟨PySem.W.mg_of X G gT, OT, iaT, tiT, ⟨clT, gaT, ggT, eBT, hdT, caT, sg0, tk0, moT⟩, nvT, emT⟩
  have FDU : FunD K "__init__" "Unread.__init__" (defArgs s_exU) (defBody s_exU) (defScope s_exU) [.non] [] fU _ := ⟨⟨_, _, _, _, _, _, _, _, _, _, rfl, lU, cU, .inr ⟨(by decide), _, _, [_], _, rfl, lTU, rfl, .cons rfl .nil⟩, .inl rfl⟩, kU⟩
  have OU : OexC K CU := ⟨⟨_, _, _, _, _, _, _, _, _, _, _, _, _, _, _, xU, by rfl⟩, saU, eBU, tyU, kCU⟩
  obtain ⟨dsU, vU, bdU⟩ := FDU.binds1 (ps := ["self", "value"]) 2 1 (by decide) rfl fun _ _ _ _ _ _ _ us its hu hi => match us, its, hu, hi with | [_, _], [_], _, _ => ⟨_, rfl, rfl⟩
  cases vU
  have XU : TX K mg "Unread" CU fU CE := ⟨PySem.W.mg_of X G gU, OU, iaU, tiU, ⟨clU, gaU, ggU, eBU, hdU, caU, sg0, tk0, moU⟩, nvU, emU⟩
  refine ⟨PySem.W.fnOf "law" "law" (defArgs s_law) (defBody s_law) (defScope s_law) .none kV30 dc30 pm30 an30 cd30 ct30, fun s v => .of_eq rfl, fun base _ _ => ?_⟩
  exact top_law F30 ⟨⟨pg, hdC, po, saC⟩, nL, nS, nW, nE⟩ ⟨mkC, aMI, iMI, kCC⟩ (PySem.W.mg_of X G gC) ⟨XT, XU, PySem.W.mg_of X G gE, ktt, ktu, kut, kuu⟩ (ok_exT FDT OT nvT) bdT (ok_exU FDU OU nvU) bdU FMI bMI FMT bMT ⟨aMT, iMT, kMT⟩ FMG bMG ⟨aMG, iMG, kMG⟩ FMM bMM ⟨aMM, iMM, kMM⟩ FME bME ⟨aME, iME, kME⟩ FMS bMS ⟨aMS, iMS, kMS⟩ ⟨_, _, F7, PySem.W.mg_of X G a7, b7⟩ ⟨_, _, F9, PySem.W.mg_of X G a9, b9⟩ ⟨_, _, F10, PySem.W.mg_of X G a10, b10⟩ ⟨_, _, F11, PySem.W.mg_of X G a11, b11⟩ ⟨_, _, F12, PySem.W.mg_of X G a12, b12⟩ ⟨_, _, F14, PySem.W.mg_of X G a14, b14⟩ ⟨_, _, F15, PySem.W.mg_of X G a15, b15⟩ ⟨_, _, F17, PySem.W.mg_of X G a17, b17⟩ ⟨_, _, F18, PySem.W.mg_of X G a18, b18⟩ ⟨_, _, F19, PySem.W.mg_of X G a19, b19⟩ ⟨_, _, F20, PySem.W.mg_of X G a20, b20⟩ ⟨_, _, F21, PySem.W.mg_of X G a21, b21⟩ ⟨_, _, F22, PySem.W.mg_of X G a22, b22⟩ ⟨_, _, F23, PySem.W.mg_of X G a23, b23⟩ ⟨_, _, F24, PySem.W.mg_of X G a24, b24⟩ ⟨_, _, F25, PySem.W.mg_of X G a25, b25⟩ ⟨_, _, F26, PySem.W.mg_of X G a26, b26⟩ ⟨_, _, F27, PySem.W.mg_of X G a27, b27⟩ ⟨_, _, F28, PySem.W.mg_of X G a28, b28⟩ ⟨_, _, F29, PySem.W.mg_of X G a29, b29⟩ (PySem.W.mg_none_of X G z_all) (PySem.W.mg_none_of X G z_bool) (PySem.W.mg_none_of X G z_dict) (PySem.W.mg_none_of X G z_enumerate) (PySem.W.mg_none_of X G z_int) (PySem.W.mg_none_of X G z_isinstance) (PySem.W.mg_none_of X G z_len) (PySem.W.mg_none_of X G z_list) (PySem.W.mg_none_of X G z_max) (PySem.W.mg_none_of X G z_min) (PySem.W.mg_none_of X G z_range) (PySem.W.mg_none_of X G z_str) (PySem.W.mg_none_of X G z_sum) (PySem.W.mg_none_of X G z_tuple) (PySem.W.mg_none_of X G z_zip)
end K88

set_option Elab.async false
set_option linter.all false
set_option maxRecDepth 100000
set_option maxHeartbeats 8000000
namespace K88
open PySem PySem.Spec PyProof.Rows L2 Pu
theorem walk {l : PySem.W.OpenLaw} {q : Program} {loose : List Str} {XP : (Str → Option Value) → Heap → Prop} {YP : World → Heap → Prop} {d : DefRec} {K : Params → PySem.W.Frag} (hn : l.most = some 63) (hdf : d.params.defaults = [])
    (hY : ∀ (w : World) (h : Heap), YP w h → (K w.params).In h)
    (F : ∀ (w : World) (mg : Str → Option Value) (fa : Addr) (h : Heap), (K w.params).In h → h.Ns mainGlobals mg → mg d.name = some (.ref fa) →
      ∃ fd : FuncData, (∀ (s : Shared) (u : Value), BindsTo s fd ⟨[u], []⟩ [("script", u)]) ∧ ∀ base : Heap, (K w.params).In base → base.Ns mainGlobals mg → FnOk l.prog w (K w.params) mg base CX0 51 fa fd ["script"] (spLaw (K w.params))) :
    PySem.W.WalkO q loose XP YP l.row.toRowW d [] (fun f vs => PySem.call f vs) :=
  L2.walk_of (n := 63) (k := 51) (x := "script") (CX := fun _ => CX0) (sp := fun w => spLaw (K w.params)) hn (by decide) hdf ⟨rfl, by decide, by decide⟩ hY F (fun _ _ a ns hl _ hS => ⟨a, ns, rfl, hS, hl, fun _ => rfl⟩) fun _ _ _ _ _ z => z
end K88
open PySem PySem.W PyProof.Rows in
set_option maxRecDepth 100000 in
set_option maxHeartbeats 0 in
theorem PySem.Challenge.cw_comestoend_k88_whole_torn_texts_of_thing_holds : PySem.Challenge.rw_comestoend_k88_whole_torn_texts_of_thing.Holds := by
  w_on; o_law; k_head; (case hw => w_witness2)
  k_fill
  refine K88.walk (l := PySem.Challenge.rw_comestoend_k88_whole_torn_texts_of_thing) rfl rfl (fun w h Y => PySem.W.kIn_of Y) ?F
  case F =>
    intro w mg fa h KX G hmg
    refine' K88.all_mk KX G hmg ?a7 ?l7 ?c7 ?k7 ?a9 ?l9 ?c9 ?k9 ?a10 ?l10 ?c10 ?k10 ?a11 ?l11 ?c11 ?k11 ?a12 ?l12 ?c12 ?k12 ?a14 ?l14 ?c14 ?k14 ?a15 ?l15 ?c15 ?k15 ?a17 ?l17 ?c17 ?k17 ?a18 ?l18 ?c18 ?k18 ?a19 ?l19 ?c19 ?k19 ?a20 ?l20 ?c20 ?k20 ?a21 ?l21 ?c21 ?k21 ?a22 ?l22 ?c22 ?k22 ?a23 ?l23 ?c23 ?k23 ?a24 ?l24 ?c24 ?k24 ?a25 ?l25 ?c25 ?k25 ?a26 ?l26 ?c26 ?k26 ?a27 ?l27 ?c27 ?k27 ?a28 ?l28 ?c28 ?k28 ?a29 ?l29 ?c29 ?k29 ?a30 ?l30 ?c30 ?k30 ?aMI ?iMI ?lMI ?cMI ?kMI ?aMT ?iMT ?lMT ?cMT ?kMT ?aMG ?iMG ?lMG ?cMG ?kMG ?aMM ?iMM ?lMM ?cMM ?kMM ?aME ?iME ?lME ?cME ?kME ?aMS ?iMS ?lMS ?cMS ?kMS ?z_all ?z_bool ?z_dict ?z_enumerate ?z_int ?z_isinstance ?z_len ?z_list ?z_max ?z_min ?z_range ?z_str ?z_sum ?z_tuple ?z_zip ?gE ?sg0 ?tk0 ?moT ?moU ?stu ?sut ?ste ?sue ?eBE ?tyE ?hdE ?neTU ?neUT ?gC ?pg ?hdC ?po ?saC ?mkC ?kCC ?nL ?nS ?nW ?nE ?gT ?xT ?saT ?gaT ?ggT ?nvT ?caT ?iaT ?tiT ?eBT ?tyT ?kCT ?hdT ?lT ?lTT ?cT ?kT ?gU ?xU ?saU ?gaU ?ggU ?nvU ?caU ?iaU ?tiU ?eBU ?tyU ?kCU ?hdU ?lU ?lTU ?cU ?kU
    (case gC => k_is)
    (case gE => k_is)
    (case gT => k_is)
    (case gU => k_is)
    (case stu => k_is)
    (case sut => k_is)
    (case ste => k_is)
    (case sue => k_is)
    (case eBE => k_is)
    (case tyE => k_is)
    (case hdE => k_is)
    (case neTU => rfl)
    (case neUT => rfl)
    (case a7 => k_is)
    (case l7 => k_is)
    (case c7 => k_is)
    (case k7 => k_is)
    (case a9 => k_is)
    (case l9 => k_is)
    (case c9 => k_is)
    (case k9 => k_is)
    (case a10 => k_is)
    (case l10 => k_is)
    (case c10 => k_is)
    (case k10 => k_is)
    (case a11 => k_is)
    (case l11 => k_is)
    (case c11 => k_is)
    (case k11 => k_is)
    (case a12 => k_is)
    (case l12 => k_is)
    (case c12 => k_is)
    (case k12 => k_is)
    (case a14 => k_is)
    (case l14 => k_is)
    (case c14 => k_is)
    (case k14 => k_is)
    (case a15 => k_is)
    (case l15 => k_is)
    (case c15 => k_is)
    (case k15 => k_is)
    (case a17 => k_is)
    (case l17 => k_is)
    (case c17 => k_is)
    (case k17 => k_is)
    (case a18 => k_is)
    (case l18 => k_is)
    (case c18 => k_is)
    (case k18 => k_is)
    (case a19 => k_is)
    (case l19 => k_is)
    (case c19 => k_is)
    (case k19 => k_is)
    (case a20 => k_is)
    (case l20 => k_is)
    (case c20 => k_is)
    (case k20 => k_is)
    (case a21 => k_is)
    (case l21 => k_is)
    (case c21 => k_is)
    (case k21 => k_is)
    (case a22 => k_is)
    (case l22 => k_is)
    (case c22 => k_is)
    (case k22 => k_is)
    (case a23 => k_is)
    (case l23 => k_is)
    (case c23 => k_is)
    (case k23 => k_is)
    (case a24 => k_is)
    (case l24 => k_is)
    (case c24 => k_is)
    (case k24 => k_is)
    (case a25 => k_is)
    (case l25 => k_is)
    (case c25 => k_is)
    (case k25 => k_is)
    (case a26 => k_is)
    (case l26 => k_is)
    (case c26 => k_is)
    (case k26 => k_is)
    (case a27 => k_is)
    (case l27 => k_is)
    (case c27 => k_is)
    (case k27 => k_is)
    (case a28 => k_is)
    (case l28 => k_is)
    (case c28 => k_is)
    (case k28 => k_is)
    (case a29 => k_is)
    (case l29 => k_is)
    (case c29 => k_is)
    (case k29 => k_is)
    (case a30 => k_is)
    (case l30 => k_is)
    (case c30 => k_is)
    (case k30 => k_is)
    (case aMI => k_is)
    (case iMI => k_is)
    (case lMI => k_is)
    (case cMI => k_is)
    (case kMI => k_is)
    (case aMT => k_is)
    (case iMT => k_is)
    (case lMT => k_is)
    (case cMT => k_is)
    (case kMT => k_is)
    (case aMG => k_is)
    (case iMG => k_is)
    (case lMG => k_is)
    (case cMG => k_is)
    (case kMG => k_is)
    (case aMM => k_is)
    (case iMM => k_is)
    (case lMM => k_is)
    (case cMM => k_is)
    (case kMM => k_is)
    (case aME => k_is)
    (case iME => k_is)
    (case lME => k_is)
    (case cME => k_is)
    (case kME => k_is)
    (case aMS => k_is)
    (case iMS => k_is)
    (case lMS => k_is)
    (case cMS => k_is)
    (case kMS => k_is)
    (case z_all => k_is)
    (case z_bool => k_is)
    (case z_dict => k_is)
    (case z_enumerate => k_is)
    (case z_int => k_is)
    (case z_isinstance => k_is)
    (case z_len => k_is)
    (case z_list => k_is)
    (case z_max => k_is)
    (case z_min => k_is)
    (case z_range => k_is)
    (case z_str => k_is)
    (case z_sum => k_is)
    (case z_tuple => k_is)
    (case z_zip => k_is)
    (case sg0 => k_is)
    (case tk0 => k_is)
    (case moT => k_is)
    (case moU => k_is)
    (case pg => k_is)
    (case hdC => k_is)
    (case po => k_is)
    (case saC => k_is)
    (case mkC => k_is)
    (case kCC => k_is)
    (case nL => k_is)
    (case nS => k_is)
    (case nW => k_is)
    (case nE => k_is)
    (case xT => k_is)
    (case saT => k_is)
    (case gaT => k_is)
    (case ggT => k_is)
    (case nvT => k_is)
    (case caT => k_is)
    (case iaT => k_is)
    (case tiT => k_is)
    (case eBT => k_is)
    (case tyT => k_is)
    (case kCT => k_is)
    (case hdT => k_is)
    (case lT => k_is)
    (case lTT => k_is)
    (case cT => k_is)
    (case kT => k_is)
    (case xU => k_is)
    (case saU => k_is)
    (case gaU => k_is)
    (case ggU => k_is)
    (case nvU => k_is)
    (case caU => k_is)
    (case iaU => k_is)
    (case tiU => k_is)
    (case eBU => k_is)
    (case tyU => k_is)
    (case kCU => k_is)
    (case hdU => k_is)
    (case lU => k_is)
    (case lTU => k_is)
    (case cU => k_is)
    (case kU => k_is)

