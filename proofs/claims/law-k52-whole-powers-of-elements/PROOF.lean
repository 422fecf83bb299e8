import PyProof.Rows.All
import HandS.ForMost
import HandS.Exc
import HandS.ExcOwn
import HandS.WordsExc
import HandS.CallSlots
import HandS.Walk
import HandS.Deep
import HandS.TupAny
import HandS.TupLe
import HandS.Conv
import HandS.Style
import PyProof.P3In
import KE.DataCmp
import PyProof.Rows.InDataRows
import HandS.IsInst
import KE.SortData
import HandS.RaiseMore
import PyProof.ListStr
import HandS.Zip
import KE.GoesEnum
import HandS.Defaults
import HandS.HeadHook2
import HandS.HeadEnd
import HandS.StrMore
import HandS.TupSets
import HandS.SetFor
import HandS.Strs
import KE.KStateDown
import HandS.Head0
import HandS.Head1
import HandS.Head2
import HandS.HeadHook1
import PySem.Challenge.RW_wordsrest_k52_whole_powers_of_elements
set_option Elab.async false
set_option linter.all false
set_option maxRecDepth 100000
set_option maxHeartbeats 0
namespace Lay
open PySem PySem.Spec PyProof.Rows L2

/-- what an expression gives: shareable data, a new list or dict of one's own, one that a slot owns, a cell of the store, a def -/
inductive Rv where
  | v (p : PyData) | fr (p : PyData) | bo (p : PyData) | ref (l : Nat) | fn (x : Str) | scr (ns : List Int)
/-- what a slot holds -/
inductive Sl where
  | un | v (p : PyData) | own (p : PyData) | ref (l : Nat) | fn (x : Str) | scr (ns : List Int)
inductive Cell where
  | lst (ds : List PyData) | ins (c : Str) (fs : List (Str × Sl))
abbrev Sto := List Cell
inductive Out (α : Type) where
  | ok (a : α) (s : Sto) | ex (c : Str) (fs : List (Str × PyData)) (s : Sto) | bad
def Out.bind {α β : Type} (o : Out α) (k : α → Sto → Out β) : Out β := match o with
  | .ok a s => k a s
  | .ex c fs s => .ex c fs s
  | .bad => .bad
abbrev E := List Sl → Sto → Out Rv
inductive Fl where
  | nx (δ : List Sl) | ret (r : Rv) | brk (δ : List Sl) | ct (δ : List Sl)
abbrev S := List Sl → Sto → Out Fl

structure Wd where
  N : Addr → Prop
  μ : List Addr
  H : Hp
structure Nx (w w' : Wd) : Prop where
  ext : ∀ a o, w.H a = some o → a ∉ w.μ → w'.H a = some o
  sub : ∀ a, w.N a → w'.N a
  new : ∀ a, w'.N a → w.N a ∨ w.H a = none
  there : ∀ a o, w.H a = some o → ∃ o', w'.H a = some o'
  pre : ∀ (l : Nat) (a : Addr), w.μ[l]? = some a → w'.μ[l]? = some a
  mu : ∀ a, a ∈ w'.μ → a ∈ w.μ ∨ w.H a = none
/-- what shareable data leans on stays -/
def Stay (w w' : Wd) : Prop := ∀ a o, w.H a = some o → ¬ w.N a → w'.H a = some o ∧ ¬ w'.N a
theorem Nx.stay {w w' : Wd} (n : Nx w w') (hm : ∀ a ∈ w.μ, w.N a) : Stay w w' := fun a o h hn =>
  ⟨n.ext a o h fun q => hn (hm a q), fun q => (n.new a q).elim hn fun z => by rw [h] at z; cases z⟩

def keyOf : PyData → Option Key
  | .int i => some (.inl i)
  | .str x => some (.inr x)
  | _ => none
mutual
/-- shareable data -/
inductive RD (K : PySem.W.Frag) (w : Wd) : PyData → V → Prop
  | none : RD K w .none .non
  | bool (b : Bool) : RD K w (.bool b) (.bl b)
  | int (i : Int) : RD K w (.int i) (.int i)
  | str (x : Str) : x.length ≤ sizeLine → PySem.PyData.strOk x = true → RD K w (.str x) (.str x)
  | tup {a : Addr} {vs : List V} {ds : List PyData} : Rd w.H a (.tup vs) → ¬ w.N a → vs.length ≤ sizeLine → RDs K w ds vs → RD K w (.tuple ds) (.ref a)
  | tupK {a : Addr} {vs : List V} {ds : List PyData} : (∃ (o : Obj) (its : Array Value) (n : Nat), K.lookup a = some o ∧ o.cls = .type "tuple" ∧ o.data = .seq its n ∧ its.size ≤ sizeLine ∧ Vals vs its.toList) →
      RDs K w ds vs → RD K w (.tuple ds) (.ref a)
  | lst {a : Addr} {vs : List V} {ds : List PyData} : w.H a = some (.lst vs) → ¬ w.N a → vs.length ≤ sizeLine → RDs K w ds vs → RD K w (.list ds) (.ref a)
  | dct {a : Addr} {kvs : List (Key × V)} {ps : List (PyData × PyData)} : Rd w.H a (.dK kvs) → ¬ w.N a → kvs.length ≤ sizeLine → RDk K w ps kvs → RD K w (.dict ps) (.ref a)
inductive RDs (K : PySem.W.Frag) (w : Wd) : List PyData → List V → Prop
  | nil : RDs K w [] []
  | cons {p : PyData} {v : V} {ps : List PyData} {vs : List V} : RD K w p v → RDs K w ps vs → RDs K w (p :: ps) (v :: vs)
inductive RDk (K : PySem.W.Frag) (w : Wd) : List (PyData × PyData) → List (Key × V) → Prop
  | nil : RDk K w [] []
  | cons {p q : PyData} {k : Key} {v : V} {ps : List (PyData × PyData)} {kvs : List (Key × V)} : keyOf p = some k → RD K w q v → RDk K w ps kvs → RDk K w ((p, q) :: ps) ((k, v) :: kvs)
end
section
variable {K : PySem.W.Frag} {w w' : Wd}
theorem Rd.stay {a : Addr} {u : HO} (h : Rd w.H a u) (hn : ¬ w.N a) (s : Stay w w') : Rd w'.H a u ∧ ¬ w'.N a := by
  rcases h with h | ⟨o, h⟩
  · exact ⟨.inl (s a _ h hn).1, (s a _ h hn).2⟩
  · exact ⟨.inr ⟨o, (s a _ h hn).1⟩, (s a _ h hn).2⟩
mutual
theorem RD.stay (s : Stay w w') : ∀ {p : PyData} {v : V}, RD K w p v → RD K w' p v
  | _, _, .none => .none
  | _, _, .bool b => .bool b
  | _, _, .int i => .int i
  | _, _, .str x h k => .str x h k
  | _, _, .tup h n l r => .tup (Rd.stay h n s).1 (Rd.stay h n s).2 l (RDs.stay s r)
  | _, _, .tupK h r => .tupK h (RDs.stay s r)
  | _, _, .lst h n l r => .lst (s _ _ h n).1 (s _ _ h n).2 l (RDs.stay s r)
  | _, _, .dct h n l r => .dct (Rd.stay h n s).1 (Rd.stay h n s).2 l (RDk.stay s r)
theorem RDs.stay (s : Stay w w') : ∀ {ps : List PyData} {vs : List V}, RDs K w ps vs → RDs K w' ps vs
  | _, _, .nil => .nil
  | _, _, .cons r t => .cons (RD.stay s r) (RDs.stay s t)
theorem RDk.stay (s : Stay w w') : ∀ {ps : List (PyData × PyData)} {kvs : List (Key × V)}, RDk K w ps kvs → RDk K w' ps kvs
  | _, _, .nil => .nil
  | _, _, .cons e r t => .cons e (RD.stay s r) (RDk.stay s t)
end
theorem RDs.length : ∀ {ps : List PyData} {vs : List V}, RDs K w ps vs → ps.length = vs.length
  | _, _, .nil => rfl
  | _, _, .cons _ t => by simp [RDs.length t]
theorem RDs.get : ∀ {ps : List PyData} {vs : List V} {i : Nat} {p : PyData}, RDs K w ps vs → ps[i]? = some p → ∃ v, vs[i]? = some v ∧ RD K w p v
  | _, _, _, _, .nil, e => by simp at e
  | _, _, 0, _, .cons r _, e => by simp at e; subst e; exact ⟨_, rfl, r⟩
  | _, _, i + 1, _, .cons _ t, e => by simp at e; simpa using RDs.get t e
theorem RDs.append : ∀ {ps qs : List PyData} {vs us : List V}, RDs K w ps vs → RDs K w qs us → RDs K w (ps ++ qs) (vs ++ us)
  | _, _, _, _, .nil, q => q
  | _, _, _, _, .cons r t, q => .cons r (RDs.append t q)
end

def OwnOk (K : PySem.W.Frag) (w : Wd) (a : Addr) : PyData → Prop
  | .list ds => ∃ vs, w.H a = some (.lst vs) ∧ vs.length ≤ sizeLine ∧ RDs K w ds vs
  | .dict ps => ∃ kvs, w.H a = some (.dK kvs) ∧ kvs.length ≤ sizeLine ∧ RDk K w ps kvs
  | _ => False
/-- the law's script, as it stands -/
def ScrOk (K : PySem.W.Frag) (w : Wd) (a : Addr) (o : Obj) (ns : List Int) : Prop := (w.H a = some (.frz o (.lst (ns.map V.int))) ∧ ¬ w.N a) ∨
  ∃ (o : Obj) (its : Array Value) (n : Nat), K.lookup a = some o ∧ o.cls = .type "list" ∧ o.dict = none ∧ o.data = .seq its n ∧ its.size ≤ sizeLine ∧ Vals (ns.map V.int) its.toList
theorem ScrOk.stay {K : PySem.W.Frag} {w w' : Wd} {a : Addr} {o : Obj} {ns : List Int} (h : ScrOk K w a o ns) (s : Stay w w') : ScrOk K w' a o ns := h.imp (fun h => s a _ h.1 h.2) id
theorem ScrOk.seq {K : PySem.W.Frag} {w : Wd} {a : Addr} {o : Obj} {ns : List Int} (h : ScrOk K w a o ns) : SqL K w.H a (ns.map V.int) := h.elim (fun h => .inl (.inr ⟨o, h.1⟩)) .inr
def SlV (K : PySem.W.Frag) (mg : Str → Option Value) (w : Wd) : Sl → V → Prop
  | .v p, v => RD K w p v
  | .ref l, v => ∃ a, w.μ[l]? = some a ∧ v = .ref a
  | .fn x, v => ∃ f, mg x = some (.ref f) ∧ v = .ref f
  | .scr ns, v => ∃ a o, ScrOk K w a o ns ∧ True ∧ v = .ref a
  | _, _ => False
def CellOk (K : PySem.W.Frag) (mg : Str → Option Value) (w : Wd) (a : Addr) : Cell → Prop
  | .lst ds => OwnOk K w a (.list ds)
  | .ins c fs => ∃ C dx gs, mg c = some (.ref C) ∧ w.H a = some (.ins C dx gs) ∧ Paired (fun (x : Str × Sl) (y : Str × V) => x.1 = y.1 ∧ SlV K mg w x.2 y.2) fs gs
structure RelS (K : PySem.W.Frag) (mg : Str → Option Value) (w : Wd) (s : Sto) : Prop where
  mN : ∀ a ∈ w.μ, w.N a
  tr : ∀ a, w.N a → ∃ o, w.H a = some o
  len : w.μ.length = s.length
  nd : w.μ.Nodup
  cell : ∀ (l : Nat) c a, s[l]? = some c → w.μ[l]? = some a → CellOk K mg w a c
def SlotOk (K : PySem.W.Frag) (mg : Str → Option Value) (w : Wd) (O : Nat → Addr) (x : Option (Option V)) (i : Nat) : Sl → Prop
  | .un => True
  | .own p => x = some (some (.ref (O i))) ∧ w.N (O i) ∧ O i ∉ w.μ ∧ OwnOk K w (O i) p
  | q => ∃ v, x = some (some v) ∧ SlV K mg w q v
structure Rel (K : PySem.W.Frag) (mg : Str → Option Value) (w : Wd) (O : Nat → Addr) (σ : L2.St) (δ : List Sl) (s : Sto) : Prop where
  st : RelS K mg w s
  len : δ.length = σ.length
  sl : ∀ (i : Nat) q, δ[i]? = some q → SlotOk K mg w O σ[i]? i q
  inj : ∀ (i j : Nat) p q, δ[i]? = some (.own p) → δ[j]? = some (.own q) → O i = O j → i = j

section
variable {K : PySem.W.Frag} {mg : Str → Option Value} {w w' w'' : Wd} {s s' : Sto} {O : Nat → Addr} {σ : L2.St} {δ : List Sl}
theorem OwnOk.stay {a : Addr} {p : PyData} (h : OwnOk K w a p) (s : Stay w w') (k : w'.H a = w.H a) : OwnOk K w' a p := by
  cases p with
  | list ds => obtain ⟨vs, e, l, r⟩ := h; exact ⟨vs, k.trans e, l, r.stay s⟩
  | dict ps => obtain ⟨vs, e, l, r⟩ := h; exact ⟨vs, k.trans e, l, r.stay s⟩
  | _ => exact h
theorem OwnOk.some {a : Addr} {p : PyData} (h : OwnOk K w a p) : ∃ o, w.H a = some o := by
  cases p with
  | list ds => obtain ⟨vs, e, _⟩ := h; exact ⟨_, e⟩
  | dict ps => obtain ⟨vs, e, _⟩ := h; exact ⟨_, e⟩
  | _ => exact h.elim
theorem SlV.stay {q : Sl} {v : V} (h : SlV K mg w q v) (s : Stay w w') (pre : ∀ (l : Nat) a, w.μ[l]? = some a → w'.μ[l]? = some a) : SlV K mg w' q v := by
  cases q with
  | v p => exact RD.stay s h
  | ref l => obtain ⟨a, e, rfl⟩ := h; exact ⟨a, pre _ _ e, rfl⟩
  | fn x => exact h
  | scr ns => obtain ⟨a, o, e, n, rfl⟩ := h; exact ⟨a, o, e.stay s, trivial, rfl⟩
  | un => exact h
  | own p => exact h
theorem Nx.none (n : Nx w w') {a : Addr} (h : w'.H a = none) : w.H a = none := by
  cases e : w.H a with
  | none => rfl
  | some o => obtain ⟨o', e'⟩ := n.there a o e; rw [h] at e'; cases e'
theorem Nx.refl : Nx w w := ⟨fun _ _ h _ => h, fun _ h => h, fun _ h => .inl h, fun _ o h => ⟨o, h⟩, fun _ _ h => h, fun _ h => .inl h⟩
theorem Nx.trans (n : Nx w w') (n' : Nx w' w'') : Nx w w'' where
  ext := fun a o h hm => n'.ext a o (n.ext a o h hm) fun q => (n.mu a q).elim hm fun z => by rw [h] at z; cases z
  sub := fun a h => n'.sub a (n.sub a h)
  new := fun a h => (n'.new a h).elim (n.new a) fun z => .inr (n.none z)
  there := fun a o h => let ⟨o', h'⟩ := n.there a o h; n'.there a o' h'
  pre := fun l a h => n'.pre l a (n.pre l a h)
  mu := fun a h => (n'.mu a h).elim (n.mu a) fun z => .inr (n.none z)
theorem Nx.owned (n : Nx w w') {a : Addr} (ha : a ∉ w.μ) (h : ∃ o, w.H a = some o) : a ∉ w'.μ ∧ w'.H a = w.H a := by
  obtain ⟨o, e⟩ := h
  exact ⟨fun q => (n.mu a q).elim ha fun z => (by rw [e] at z; cases z), (by rw [n.ext a o e ha, e])⟩
/-- the frame behind what its owner's slots do not feel -/
theorem Rel.next (r : Rel K mg w O σ δ s) (n : Nx w w') (r' : RelS K mg w' s') : Rel K mg w' O σ δ s' := by
  have st := n.stay r.st.mN
  refine ⟨r', r.len, fun i q e => ?_, r.inj⟩
  have h := r.sl i q e
  cases q with
  | un => trivial
  | own p =>
    obtain ⟨h1, h2, h3, h4⟩ := h
    exact ⟨h1, n.sub _ h2, (n.owned h3 h4.some).1, h4.stay st (n.owned h3 h4.some).2⟩
  | v p => obtain ⟨v, h1, h2⟩ := h; exact ⟨v, h1, SlV.stay h2 st n.pre⟩
  | ref l => obtain ⟨v, h1, h2⟩ := h; exact ⟨v, h1, SlV.stay h2 st n.pre⟩
  | fn x => obtain ⟨v, h1, h2⟩ := h; exact ⟨v, h1, SlV.stay h2 st n.pre⟩
  | scr ns => obtain ⟨v, h1, h2⟩ := h; exact ⟨v, h1, SlV.stay h2 st n.pre⟩
/-- a value as an expression gives it: w0 the world ahead of it -/
def RR (K : PySem.W.Frag) (mg : Str → Option Value) (w0 w : Wd) : Rv → V → Prop
  | .v p, v => RD K w p v
  | .fr p, v => ∃ a, v = .ref a ∧ OwnOk K w a p ∧ w.N a ∧ a ∉ w.μ ∧ w0.H a = none
  | .bo p, v => ∃ a, v = .ref a ∧ OwnOk K w a p ∧ a ∉ w.μ
  | .ref l, v => ∃ a, w.μ[l]? = some a ∧ v = .ref a
  | .fn x, v => ∃ f, mg x = some (.ref f) ∧ v = .ref f
  | .scr ns, v => ∃ a o, ScrOk K w a o ns ∧ True ∧ v = .ref a
theorem RR.on {w0 : Wd} {r : Rv} {v : V} (h : RR K mg w0 w r v) (n : Nx w w') (hm : ∀ a ∈ w.μ, w.N a) : RR K mg w0 w' r v := by
  have st := n.stay hm
  cases r with
  | v p => exact RD.stay st h
  | fr p =>
    obtain ⟨a, rfl, h1, h2, h3, h4⟩ := h
    exact ⟨a, rfl, h1.stay st (n.owned h3 h1.some).2, n.sub _ h2, (n.owned h3 h1.some).1, h4⟩
  | bo p =>
    obtain ⟨a, rfl, h1, h3⟩ := h
    exact ⟨a, rfl, h1.stay st (n.owned h3 h1.some).2, (n.owned h3 h1.some).1⟩
  | ref l => obtain ⟨a, e, rfl⟩ := h; exact ⟨a, n.pre _ _ e, rfl⟩
  | fn x => exact h
  | scr ns => obtain ⟨a, o, e, n, rfl⟩ := h; exact ⟨a, o, e.stay st, trivial, rfl⟩
theorem RR.back {w0 w1 : Wd} {r : Rv} {v : V} (h : RR K mg w1 w r v) (n : Nx w0 w1) : RR K mg w0 w r v := by
  cases r with
  | fr p =>
    obtain ⟨a, rfl, h1, h2, h3, h4⟩ := h
    exact ⟨a, rfl, h1, h2, h3, n.none h4⟩
  | v p => exact h
  | bo p => exact h
  | ref l => exact h
  | fn x => exact h
  | scr ns => exact h

/-- an exception's own dict -/
def XdOk (K : PySem.W.Frag) (w : Wd) : Option Addr → List (Str × PyData) → Prop
  | none, fs => fs = []
  | some d, fs => ∃ gs, w.H d = some (.xd gs) ∧ Paired (fun (x : Str × PyData) (y : Str × V) => x.1 = y.1 ∧ RD K w x.2 y.2) fs gs
def Post (K : PySem.W.Frag) (mg : Str → Option Value) (W : WX) (w : Wd) (O : Nat → Addr) (σ : L2.St) (δ : List Sl) {α : Type} (o : Out α) (Q : α → Sto → Wd → Prop) : Prop :=
  match o with
  | .ok a s' => ∀ w', Nx w w' → Rel K mg w' O σ δ s' → Q a s' w'
  | .ex c fs s' => ∀ C d w', Nx w w' → Rel K mg w' O σ δ s' → mg c = some (.ref C) → XdOk K w' d fs → W (.ref C) d σ w'.H
  | .bad => False
section
variable {W : WX} {α β : Type} {o : Out α} {k : α → Sto → Out β}
theorem Post.bind {Q : β → Sto → Wd → Prop} (n : Nx w w') (h : Post K mg W w O σ δ (o.bind k) Q) : Post K mg W w' O σ δ o fun a s' _ => Post K mg W w O σ δ (k a s') Q := by
  cases o with
  | bad => exact h
  | ex c fs s' => exact fun C d w1 n1 r1 e x => h C d w1 (n.trans n1) r1 e x
  | ok a s1 => exact fun _ _ _ => h
theorem Post.bind0 {Q : β → Sto → Wd → Prop} (h : Post K mg W w O σ δ (o.bind k) Q) : Post K mg W w O σ δ o fun a s' _ => Post K mg W w O σ δ (k a s') Q := h.bind Nx.refl
theorem Post.mono {Q Q' : α → Sto → Wd → Prop} (h : Post K mg W w O σ δ o Q) (hq : ∀ a s' w', Nx w w' → Rel K mg w' O σ δ s' → Q a s' w' → Q' a s' w') : Post K mg W w O σ δ o Q' := by
  cases o with
  | bad => exact h
  | ex c fs s' => exact h
  | ok a s1 => exact fun w1 n1 r1 => hq a s1 w1 n1 r1 (h w1 n1 r1)
end
end
/-- an expression's reading, by its denotation -/
def wpE (K : PySem.W.Frag) (mg : Str → Option Value) (W : WX) (f : E) : TE := fun σ H Q =>
  ∃ δ s w O, w.H = H ∧ Rel K mg w O σ δ s ∧ Post K mg W w O σ δ (f δ s) fun r _ w' => ∀ v, RR K mg w w' r v → Q v w'.H
def QE (X : Cx) (W : WX) (e : Expr) (f : E) : Prop := PE X e (wpE X.K X.mg W f)
theorem wpE.intro {K : PySem.W.Frag} {mg : Str → Option Value} {W : WX} {f : E} {w : Wd} {O : Nat → Addr} {σ : L2.St} {δ : List Sl} {s : Sto} {Q : VK} (r : Rel K mg w O σ δ s)
    (h : Post K mg W w O σ δ (f δ s) fun r _ w' => ∀ v, RR K mg w w' r v → Q v w'.H) : wpE K mg W f σ w.H Q := ⟨δ, s, w, O, rfl, r, h⟩
theorem PE.weak {X : Cx} {e : Expr} {t t' : TE} (h : PE X e t) (k : ∀ σ H Q, t' σ H Q → t σ H Q) : PE X e t' := ⟨fun pins s σ H Q I q => h.run pins s σ H Q I (k σ H Q q)⟩
/-- a test's reading -/
abbrev T := List Sl → Sto → Out Bool
def wpT (K : PySem.W.Frag) (mg : Str → Option Value) (W : WX) (f : T) : TT := fun σ H Q =>
  ∃ δ s w O, w.H = H ∧ Rel K mg w O σ δ s ∧ Post K mg W w O σ δ (f δ s) fun b _ w' => Q b w'.H
def QT (X : Cx) (W : WX) (e : Expr) (f : T) : Prop := PT X e (wpT X.K X.mg W f)
def QW (X : Cx) (W : WX) (e : Expr) (f : T) : Prop := PW X e (wpT X.K X.mg W f)
theorem wpT.intro {K : PySem.W.Frag} {mg : Str → Option Value} {W : WX} {f : T} {w : Wd} {O : Nat → Addr} {σ : L2.St} {δ : List Sl} {s : Sto} {Q : Bool → Hp → Prop} (r : Rel K mg w O σ δ s)
    (h : Post K mg W w O σ δ (f δ s) fun b _ w' => Q b w'.H) : wpT K mg W f σ w.H Q := ⟨δ, s, w, O, rfl, r, h⟩
theorem PT.weak {X : Cx} {e : Expr} {t t' : TT} (h : PT X e t) (k : ∀ σ H Q, t' σ H Q → t σ H Q) : PT X e t' := ⟨fun pins s σ H Q I q => h.run pins s σ H Q I (k σ H Q q)⟩
theorem PW.weak {X : Cx} {e : Expr} {t t' : TT} (h : PW X e t) (k : ∀ σ H Q, t' σ H Q → t σ H Q) : PW X e t' := ⟨fun wh pins s σ H Q I q => h.run wh pins s σ H Q I (k σ H Q q)⟩
theorem QW.qt {X : Cx} {W : WX} {e : Expr} {f : T} (h : QW X W e f) : QT X W e f := PW.pt h
end Lay
namespace Lay
open PySem PySem.Spec PyProof.Rows L2
section
variable {K : PySem.W.Frag} {mg : Str → Option Value} {w w' w'' : Wd} {s s' : Sto} {O : Nat → Addr} {σ : L2.St} {δ : List Sl}
/-- a value is the data now (a list of anybody's) -/
def RB (K : PySem.W.Frag) (w : Wd) (p : PyData) (v : V) : Prop := RD K w p v ∨ ∃ a, v = .ref a ∧ OwnOk K w a p
def Rv.pd (s : Sto) : Rv → Option PyData
  | .v p => some p
  | .fr p => some p
  | .bo p => some p
  | .ref l => match s[l]? with
    | some (.lst ds) => some (.list ds)
    | _ => none
  | _ => none
theorem RR.rb {w0 : Wd} {r : Rv} {v : V} {p : PyData} (h : RR K mg w0 w r v) (st : RelS K mg w s) (e : r.pd s = some p) : RB K w p v := by
  cases r with
  | v q => cases e; exact .inl h
  | fr q => cases e; obtain ⟨a, h1, h2, _⟩ := h; exact .inr ⟨a, h1, h2⟩
  | bo q => cases e; obtain ⟨a, h1, h2, _⟩ := h; exact .inr ⟨a, h1, h2⟩
  | fn x => cases e
  | scr ns => cases e
  | ref l =>
    obtain ⟨a, e1, rfl⟩ := h
    simp only [Rv.pd] at e
    split at e
    · rename_i ds hd
      cases e
      exact .inr ⟨a, rfl, st.cell l _ a hd e1⟩
    · cases e
theorem RB.none {v : V} (h : RB K w .none v) : v = .non := by
  rcases h with h | ⟨a, _, h⟩
  · cases h; rfl
  · exact h.elim
theorem RB.bool {v : V} {b : Bool} (h : RB K w (.bool b) v) : v = .bl b := by
  rcases h with h | ⟨a, _, h⟩
  · cases h; rfl
  · exact h.elim
theorem RB.int {v : V} {i : Int} (h : RB K w (.int i) v) : v = .int i := by
  rcases h with h | ⟨a, _, h⟩
  · cases h; rfl
  · exact h.elim
theorem RB.str {v : V} {x : Str} (h : RB K w (.str x) v) : v = .str x ∧ x.length ≤ sizeLine ∧ PySem.PyData.strOk x = true := by
  rcases h with h | ⟨a, _, h⟩
  · cases h with | str _ h1 h2 => exact ⟨rfl, h1, h2⟩
  · exact h.elim
theorem RB.tup {v : V} {ds : List PyData} (h : RB K w (.tuple ds) v) : ∃ a vs, v = .ref a ∧ SqT K w.H a vs ∧ vs.length ≤ sizeLine ∧ RDs K w ds vs := by
  rcases h with h | ⟨a, _, h⟩
  · cases h with
    | tup h1 h2 h3 h4 => exact ⟨_, _, rfl, .inl h1, h3, h4⟩
    | tupK h1 h2 =>
      refine ⟨_, _, rfl, .inr h1, ?_, h2⟩
      obtain ⟨o, its, n, _, _, _, z, r⟩ := h1
      have := r.length
      simp only [Array.length_toList] at this
      omega
  · exact h.elim
theorem RB.lst {v : V} {ds : List PyData} (h : RB K w (.list ds) v) : ∃ a vs, v = .ref a ∧ w.H a = some (.lst vs) ∧ vs.length ≤ sizeLine ∧ RDs K w ds vs := by
  rcases h with h | ⟨a, e, h⟩
  · cases h with | lst h1 h2 h3 h4 => exact ⟨_, _, rfl, h1, h3, h4⟩
  · obtain ⟨vs, h1, h2, h3⟩ := h; exact ⟨a, vs, e, h1, h2, h3⟩
theorem RB.dct {v : V} {ps : List (PyData × PyData)} (h : RB K w (.dict ps) v) : ∃ a kvs, v = .ref a ∧ Rd w.H a (.dK kvs) ∧ kvs.length ≤ sizeLine ∧ RDk K w ps kvs := by
  rcases h with h | ⟨a, e, h⟩
  · cases h with | dct h1 h2 h3 h4 => exact ⟨_, _, rfl, h1, h3, h4⟩
  · obtain ⟨vs, h1, h2, h3⟩ := h; exact ⟨a, vs, e, .inl h1, h2, h3⟩
mutual
def okD : Nat → PyData → Bool
  | _, .none => true
  | _, .bool _ => true
  | _, .int _ => true
  | _, .str _ => true
  | 0, .list _ => false
  | n + 1, .list xs => okDs n xs
  | 0, .tuple _ => false
  | n + 1, .tuple xs => okDs n xs
  | _, .dict _ => false
def okDs : Nat → List PyData → Bool
  | _, [] => true
  | n, x :: xs => okD n x && okDs n xs
end
theorem okDs_all (n : Nat) : ∀ xs : List PyData, okDs n xs = xs.all (okD n)
  | [] => by simp [okDs]
  | x :: xs => by simp [okDs, okDs_all n xs]
mutual
theorem RD.toDp : ∀ (n : Nat) (p : PyData) (v : V), okD n p = true → RD K w p v → Dp K w.H v p ∧ p.canLay0 = true ∧ p.depth ≤ n
  | n, .none, _, _, .none => ⟨.non, by simp [PyData.canLay0], by simp [PyData.depth]⟩
  | n, .bool b, _, _, .bool _ => ⟨.bl b, by simp [PyData.canLay0], by simp [PyData.depth]⟩
  | n, .int b, _, _, .int _ => ⟨.int b, by simp [PyData.canLay0], by simp [PyData.depth]⟩
  | n, .str b, _, _, .str _ _ h => ⟨.str b, by simp [PyData.canLay0, h], by simp [PyData.depth]⟩
  | n + 1, .tuple ds, _, h, .tup h1 _ _ r => by
    have q := RDs.toDp n ds _ (by simpa [okD] using h) r
    exact ⟨.tup (.inl h1) q.1, by simpa [PyData.canLay0] using q.2.1, by simp only [PyData.depth]; omega⟩
  | n + 1, .tuple ds, _, h, .tupK h1 r => by
    have q := RDs.toDp n ds _ (by simpa [okD] using h) r
    exact ⟨.tup (.inr h1) q.1, by simpa [PyData.canLay0] using q.2.1, by simp only [PyData.depth]; omega⟩
  | n + 1, .list ds, _, h, .lst h1 _ _ r => by
    have q := RDs.toDp n ds _ (by simpa [okD] using h) r
    exact ⟨.lst (.inl (.inl h1)) q.1, by simpa [PyData.canLay0] using q.2.1, by simp only [PyData.depth]; omega⟩
  | n, .dict _, _, h, .dct _ _ _ _ => by cases n <;> simp [okD] at h
theorem RDs.toDp : ∀ (n : Nat) (ps : List PyData) (vs : List V), okDs n ps = true → RDs K w ps vs → DpAll K w.H vs ps ∧ PyData.canLayAll0 ps = true ∧ PyData.depthAll ps ≤ n
  | n, [], _, _, .nil => ⟨.nil, by simp [PyData.canLayAll0], by simp [PyData.depthAll]⟩
  | n, p :: ps, _, h, .cons r t => by
    simp only [okDs, Bool.and_eq_true] at h
    have q1 := RD.toDp n p _ h.1 r
    have q2 := RDs.toDp n ps _ h.2 t
    exact ⟨.cons q1.1 q2.1, by simp [PyData.canLayAll0, q1.2.1, q2.2.1], by simp only [PyData.depthAll]; omega⟩
end
theorem RB.toDp {n : Nat} {p : PyData} {v : V} (hn : okD n p = true) (h : RB K w p v) (h64 : n ≤ 64) : Dp K w.H v p ∧ SeqAt.shaped p = true := by
  have fin : Dp K w.H v p ∧ p.canLay0 = true ∧ p.depth ≤ n → Dp K w.H v p ∧ SeqAt.shaped p = true := fun ⟨h1, h2, h3⟩ =>
    ⟨h1, by simp only [SeqAt.shaped, h2, Bool.true_and, decide_eq_true_eq]; omega⟩
  rcases h with h | ⟨a, rfl, h⟩
  · exact fin (RD.toDp n p v hn h)
  · cases p with
    | list ds =>
      obtain ⟨vs, h1, h2, h3⟩ := h
      cases n with
      | zero => simp [okD] at hn
      | succ n =>
        have q := RDs.toDp n ds _ (by simpa [okD] using hn) h3
        exact fin ⟨.lst (.inl (.inl h1)) q.1, by simpa [PyData.canLay0] using q.2.1, by simp only [PyData.depth]; omega⟩
    | dict ps => cases n <;> simp [okD] at hn
    | _ => exact h.elim

structure Gr (w w' : Wd) : Prop where
  same : ∀ a o, w.H a = some o → w'.H a = some o
  sub : ∀ a, w.N a → w'.N a
  new : ∀ a, w'.N a → w.N a ∨ (w.H a = none ∧ ∃ o, w'.H a = some o)
  mu : w'.μ = w.μ
theorem Gr.refl : Gr w w := ⟨fun _ _ h => h, fun _ h => h, fun _ h => .inl h, rfl⟩
theorem Gr.nx (g : Gr w w') : Nx w w' := ⟨fun a o h _ => g.same a o h, g.sub, fun a h => (g.new a h).imp id And.left, fun a o h => ⟨o, g.same a o h⟩, fun l a h => by rw [g.mu]; exact h, fun a h => .inl (by rw [← g.mu]; exact h)⟩
theorem Gr.trans (g : Gr w w') (g' : Gr w' w'') : Gr w w'' where
  same := fun a o h => g'.same a o (g.same a o h)
  sub := fun a h => g'.sub a (g.sub a h)
  new := fun a h => (g'.new a h).elim (fun q => (g.new a q).imp id fun ⟨h1, o, h2⟩ => ⟨h1, o, g'.same a o h2⟩) fun ⟨h1, h2⟩ => .inr ⟨g.nx.none h1, h2⟩
  mu := g'.mu.trans g.mu
theorem Gr.st (g : Gr w w') (st : RelS K mg w s) : RelS K mg w' s := by
  have stay := g.nx.stay st.mN
  refine ⟨fun a h => g.sub a (st.mN a (by rw [← g.mu]; exact h)), fun a h => ?_, by rw [g.mu]; exact st.len, by rw [g.mu]; exact st.nd, fun l c a h1 h2 => ?_⟩
  · rcases g.new a h with h | ⟨_, h⟩
    · obtain ⟨o, e⟩ := st.tr a h
      exact ⟨o, g.same a o e⟩
    · exact h
  · rw [g.mu] at h2
    have q := st.cell l c a h1 h2
    cases c with
    | lst ds =>
      have q : OwnOk K w a (.list ds) := q
      obtain ⟨o, e⟩ := q.some
      exact q.stay stay (by rw [g.same a o e, e])
    | ins c fs =>
      obtain ⟨C, dx, gs, e1, e2, e3⟩ := q
      refine ⟨C, dx, gs, e1, g.same a _ e2, Paired.mapP e3 fun x y h => ⟨h.1, SlV.stay h.2 stay g.nx.pre⟩⟩
theorem Gr.rel (g : Gr w w') (r : Rel K mg w O σ δ s) : Rel K mg w' O σ δ s := r.next g.nx (g.st r.st)
/-- a new object that nobody changes -/
theorem Gr.add {p : Addr} {o : HO} (h : w.H p = none) : Gr w ⟨w.N, w.μ, upd w.H p o⟩ :=
  ⟨fun a u e => by show upd w.H p o a = _; rw [upd_ne (ne_of_none e h)]; exact e, fun _ h => h, fun _ h => .inl h, rfl⟩
/-- a new object of one's own -/
theorem Gr.addN {p : Addr} {o : HO} (h : w.H p = none) : Gr w ⟨fun a => w.N a ∨ a = p, w.μ, upd w.H p o⟩ :=
  ⟨fun a u e => by show upd w.H p o a = _; rw [upd_ne (ne_of_none e h)]; exact e, fun _ h => .inl h, fun a q => q.imp id fun e => ⟨by rw [e]; exact h, o, by rw [e]; exact upd_same⟩, rfl⟩
/-- the answer of an operation -/
def Giv (K : PySem.W.Frag) (mg : Str → Option Value) (w : Wd) (Q : VK) (z : Rv) : Prop := ∀ w' v, Gr w w' → RR K mg w w' z v → Q v w'.H
theorem Giv.v {Q : VK} {p : PyData} {v : V} (h : Giv K mg w Q (.v p)) (r : RD K w p v) : Q v w.H := h w v Gr.refl r
theorem Giv.tup {Q : VK} {ds : List PyData} {vs : List V} {p : Addr} (h : Giv K mg w Q (.v (.tuple ds))) (st : RelS K mg w s) (r : RDs K w ds vs) (l : vs.length ≤ sizeLine) (hp : w.H p = none) : Q (.ref p) (upd w.H p (.tup vs)) := by
  have g : Gr w ⟨w.N, w.μ, upd w.H p (.tup vs)⟩ := Gr.add hp
  refine h _ _ g ?_
  refine RD.tup (.inl upd_same) (fun q => ?_) l (r.stay (g.nx.stay st.mN))
  obtain ⟨o, e⟩ := st.tr p q
  rw [hp] at e; cases e
theorem Giv.lst {Q : VK} {ds : List PyData} {vs : List V} {p : Addr} (h : Giv K mg w Q (.fr (.list ds))) (st : RelS K mg w s) (r : RDs K w ds vs) (l : vs.length ≤ sizeLine) (hp : w.H p = none) : Q (.ref p) (upd w.H p (.lst vs)) := by
  have g : Gr w ⟨fun a => w.N a ∨ a = p, w.μ, upd w.H p (.lst vs)⟩ := Gr.addN hp
  refine h _ _ g ⟨p, rfl, ⟨vs, upd_same, l, ?_⟩, .inr rfl, fun q => ?_, hp⟩
  · exact r.stay (g.nx.stay st.mN)
  · obtain ⟨o, e⟩ := st.tr p (st.mN p q)
    rw [hp] at e; cases e
/-- a fresh list may be shared -/
theorem RR.share {w0 : Wd} {p : PyData} {v : V} (n : Nx w0 w) (st : RelS K mg w s) (r : Rel K mg w0 O σ δ s') (h : RR K mg w0 w (.fr p) v) :
    ∃ N', (∀ a, N' a → w.N a) ∧ (∀ a, w.N a → v = .ref a ∨ N' a) ∧ RD K ⟨N', w.μ, w.H⟩ p v ∧ Nx w0 ⟨N', w.μ, w.H⟩ ∧ RelS K mg ⟨N', w.μ, w.H⟩ s := by
  obtain ⟨a, rfl, h1, h2, h3, h4⟩ := h
  have sub : Stay w ⟨fun b => w.N b ∧ b ≠ a, w.μ, w.H⟩ := fun b o e hn => ⟨e, fun q => hn q.1⟩
  refine ⟨fun b => w.N b ∧ b ≠ a, fun b q => q.1, fun b q => ?_, ?_, ?_, ?_⟩
  · by_cases e : b = a
    · exact .inl (by rw [e])
    · exact .inr ⟨q, e⟩
  · cases p with
    | list ds => obtain ⟨vs, e, l, r⟩ := h1; exact .lst e (fun q => q.2 rfl) l (r.stay sub)
    | dict ps => obtain ⟨vs, e, l, r⟩ := h1; exact .dct (.inl e) (fun q => q.2 rfl) l (r.stay sub)
    | _ => exact h1.elim
  · refine ⟨n.ext, fun b q => ⟨n.sub b q, fun e => ?_⟩, fun b q => n.new b q.1, n.there, n.pre, n.mu⟩
    obtain ⟨o, e'⟩ := r.st.tr b q
    rw [e, h4] at e'; cases e'
  · refine ⟨fun b q => ⟨st.mN b q, fun e => h3 (by rw [← e]; exact q)⟩, fun b q => st.tr b q.1, st.len, st.nd, fun l c b e1 e2 => ?_⟩
    have q := st.cell l c b e1 e2
    cases c with
    | lst ds => exact OwnOk.stay (show OwnOk K w b (.list ds) from q) sub rfl
    | ins c fs =>
      obtain ⟨C, dx, gs, e1, e2, e3⟩ := q
      exact ⟨C, dx, gs, e1, e2, Paired.mapP e3 fun x y h => ⟨h.1, SlV.stay h.2 sub fun _ _ h => h⟩⟩
end
end Lay
namespace Lay
open PySem PySem.Spec PyProof.Rows L2
abbrev lim : Nat := 16777216
theorem lim_eq : (sizeLine : Nat) = lim := sizeLine_eq

def opAdd : PyData → PyData → Option Rv
  | .int i, .int j => some (.v (.int (i + j)))
  | .str x, .str y => if x.length + y.length ≤ lim then some (.v (.str (x ++ y))) else none
  | .tuple xs, .tuple ys => if xs.length + ys.length ≤ lim then some (.v (.tuple (xs ++ ys))) else none
  | .list xs, .list ys => if xs.length + ys.length ≤ lim then some (.fr (.list (xs ++ ys))) else none
  | _, _ => none
def opSub : PyData → PyData → Option Rv
  | .int i, .int j => some (.v (.int (i - j)))
  | _, _ => none
def opMul : PyData → PyData → Option Rv
  | .int i, .int j => if (-(2 ^ 64) < i ∧ i < 2 ^ 64) ∨ (-(2 ^ 64) < j ∧ j < 2 ^ 64) then some (.v (.int (i * j))) else none
  | _, _ => none
def opFdiv : PyData → PyData → Option Rv
  | .int i, .int j => if 0 < j ∧ j < 1073741824 then some (.v (.int (i / j))) else none
  | _, _ => none
def opMod : PyData → PyData → Option Rv
  | .int i, .int j => if 0 < j then some (.v (.int (i % j))) else none
  | _, _ => none
def opPow : PyData → PyData → Option Rv
  | .int i, .int j => if 0 ≤ j ∧ j ≤ 1000000 ∧ i.natAbs < 2 ^ 64 then some (.v (.int (i ^ j.toNat))) else none
  | _, _ => none
def vB (b : Bool) : Rv := .v (.bool b)
def opEq (p q : PyData) : Option Rv := if okD 60 p && okD 60 q then some (vB (PyData.eqv p q)) else none
def opNe (p q : PyData) : Option Rv := if okD 60 p && okD 60 q then some (vB (!PyData.eqv p q)) else none
def okCmp (xs ys : List PyData) : Bool := okDs 60 xs && okDs 60 ys && PySem.W.alike (.tuple xs) (.tuple ys)
def opLt : PyData → PyData → Option Rv
  | .int i, .int j => some (vB (decide (i < j)))
  | .str x, .str y => some (vB (decide (x.cps.toList < y.cps.toList)))
  | .tuple xs, .tuple ys => if okCmp xs ys then some (vB (PySem.W.dataLt (.tuple xs) (.tuple ys))) else none
  | _, _ => none
def opLe : PyData → PyData → Option Rv
  | .int i, .int j => some (vB (decide (i ≤ j)))
  | .str x, .str y => some (vB (!decide (y.cps.toList < x.cps.toList)))
  | .tuple xs, .tuple ys => if okCmp xs ys then some (vB (!PySem.W.dataLt (.tuple ys) (.tuple xs))) else none
  | _, _ => none
def opGt : PyData → PyData → Option Rv
  | .int i, .int j => some (vB (decide (j < i)))
  | .str x, .str y => some (vB (decide (y.cps.toList < x.cps.toList)))
  | .tuple xs, .tuple ys => if okCmp xs ys then some (vB (PySem.W.dataLt (.tuple ys) (.tuple xs))) else none
  | _, _ => none
def opGe : PyData → PyData → Option Rv
  | .int i, .int j => some (vB (decide (j ≤ i)))
  | .str x, .str y => some (vB (!decide (x.cps.toList < y.cps.toList)))
  | .tuple xs, .tuple ys => if okCmp xs ys then some (vB (!PySem.W.dataLt (.tuple xs) (.tuple ys))) else none
  | _, _ => none
def inStr (x y : Str) : Bool := !(Builtin.Str.occurrences y x 0 y.length 1).isEmpty
def opIn : PyData → PyData → Option Rv
  | .str x, .str y => some (vB (inStr x y))
  | p, .list ds => if okD 60 p && okDs 60 ds then some (vB (ds.any fun z => PyData.eqv z p)) else none
  | p, .tuple ds => if okD 60 p && okDs 60 ds then some (vB (ds.any fun z => PyData.eqv z p)) else none
  | _, _ => none
def opNotIn : PyData → PyData → Option Rv
  | .str x, .str y => some (vB (!inStr x y))
  | p, .list ds => if okD 60 p && okDs 60 ds then some (vB (!ds.any fun z => PyData.eqv z p)) else none
  | p, .tuple ds => if okD 60 p && okDs 60 ds then some (vB (!ds.any fun z => PyData.eqv z p)) else none
  | _, _ => none

section
variable {X : Cx}
theorem OpR.weak {f : Value → Value → Sem Value} {r r' : R2} (h : OpR X f r) (k : ∀ x y H Q, r' x y H Q → r x y H Q) : OpR X f r' := fun pins s σ H x y v u Q I rx ry q => h pins s σ H x y v u Q I rx ry (k x y H Q q)
def rF (K : PySem.W.Frag) (mg : Str → Option Value) (F : PyData → PyData → Option Rv) : R2 := fun x y H Q =>
  ∃ w p q z s, w.H = H ∧ RelS K mg w s ∧ RB K w p x ∧ RB K w q y ∧ F p q = some z ∧ Giv K mg w Q z
def BinOk (X : Cx) (f : Value → Value → Sem Value) (F : PyData → PyData → Option Rv) : Prop := OpR X f (rF X.K X.mg F)

theorem strOk_app {x y : Str} (h1 : PySem.PyData.strOk x = true) (h2 : PySem.PyData.strOk y = true) : PySem.PyData.strOk (x ++ y) = true := by
  show (x.cps ++ y.cps).all _ = true
  rw [Array.all_append]
  exact Bool.and_eq_true_iff.mpr ⟨h1, h2⟩
theorem len_app (x y : Str) : (x ++ y).length = x.length + y.length := by
  show (x.cps ++ y.cps).size = _
  rw [Array.size_append]; rfl

theorem ok_add : BinOk X (binaryOp .Add) opAdd := by
  refine OpR.weak (((op_add.or op_add_str).or op_catA).or op_cat) fun x y H Q h => ?_
  obtain ⟨w, p, q, z, s, rfl, st, hx, hy, e, g⟩ := h
  unfold opAdd at e
  split at e
  · cases e
    exact .inl (.inl (.inl ⟨_, _, hx.int, hy.int, g.v (.int _)⟩))
  · split at e
    · rename_i hl
      cases e
      obtain ⟨rfl, l1, o1⟩ := hx.str
      obtain ⟨rfl, l2, o2⟩ := hy.str
      refine .inl (.inl (.inr ⟨_, _, rfl, rfl, by rw [lim_eq]; exact hl, g.v (.str _ (by rw [len_app, lim_eq]; exact hl) (strOk_app o1 o2))⟩))
    · cases e
  · split at e
    · rename_i hl
      cases e
      obtain ⟨a, vs, rfl, h1, l1, r1⟩ := hx.tup
      obtain ⟨b, us, rfl, h2, l2, r2⟩ := hy.tup
      have e1 := r1.length
      have e2 := r2.length
      refine .inl (.inr ⟨a, b, vs, us, rfl, rfl, h1, h2, by rw [lim_eq]; omega, fun z => ?_, fun _ z => ?_, fun _ _ p hp => ?_⟩)
      · subst z
        cases r1
        refine g.v ?_
        rcases hy with hy | ⟨_, _, hy⟩
        · exact hy
        · exact hy.elim
      · subst z
        cases r2
        rw [List.append_nil] at g
        refine g.v ?_
        rcases hx with hx | ⟨_, _, hx⟩
        · exact hx
        · exact hx.elim
      · exact g.tup st (r1.append r2) (by rw [List.length_append, lim_eq]; omega) hp
    · cases e
  · split at e
    · rename_i hl
      cases e
      obtain ⟨a, vs, rfl, h1, l1, r1⟩ := hx.lst
      obtain ⟨b, us, rfl, h2, l2, r2⟩ := hy.lst
      have e1 := r1.length
      have e2 := r2.length
      exact .inr ⟨a, b, vs, us, rfl, rfl, h1, h2, by rw [lim_eq]; omega, fun p hp => g.lst st (r1.append r2) (by rw [List.length_append, lim_eq]; omega) hp⟩
    · cases e
  · cases e
theorem ok_sub : BinOk X (binaryOp .Sub) opSub := by
  refine OpR.weak op_sub fun x y H Q h => ?_
  obtain ⟨w, p, q, z, s, rfl, st, hx, hy, e, g⟩ := h
  unfold opSub at e
  split at e
  · cases e; exact ⟨_, _, hx.int, hy.int, g.v (.int _)⟩
  · cases e
theorem ok_mul : BinOk X (binaryOp .Mult) opMul := by
  refine OpR.weak op_mul fun x y H Q h => ?_
  obtain ⟨w, p, q, z, s, rfl, st, hx, hy, e, g⟩ := h
  unfold opMul at e
  split at e
  · split at e
    · rename_i hc
      cases e; exact ⟨_, _, hx.int, hy.int, hc, g.v (.int _)⟩
    · cases e
  · cases e
theorem ok_fdiv : BinOk X (binaryOp .FloorDiv) opFdiv := by
  refine OpR.weak op_fdiv fun x y H Q h => ?_
  obtain ⟨w, p, q, z, s, rfl, st, hx, hy, e, g⟩ := h
  unfold opFdiv at e
  split at e
  · split at e
    · rename_i hc
      cases e; exact ⟨_, _, hx.int, hy.int, hc, g.v (.int _)⟩
    · cases e
  · cases e
theorem ok_mod : BinOk X (binaryOp .Mod) opMod := by
  refine OpR.weak op_mod fun x y H Q h => ?_
  obtain ⟨w, p, q, z, s, rfl, st, hx, hy, e, g⟩ := h
  unfold opMod at e
  split at e
  · split at e
    · rename_i hc
      cases e; exact ⟨_, _, hx.int, hy.int, hc, g.v (.int _)⟩
    · cases e
  · cases e
theorem ok_pow : BinOk X (binaryOp .Pow) opPow := by
  refine OpR.weak op_pow fun x y H Q h => ?_
  obtain ⟨w, p, q, z, s, rfl, st, hx, hy, e, g⟩ := h
  unfold opPow at e
  split at e
  · split at e
    · rename_i hc
      cases e; exact ⟨_, _, hx.int, hy.int, hc, g.v (.int _)⟩
    · cases e
  · cases e
theorem ok_eq (hu : X.A.units + 64 < cLine) : BinOk X (compareOp .Eq) opEq := by
  refine OpR.weak (op_eqD hu) fun x y H Q h => ?_
  obtain ⟨w, p, q, z, s, rfl, st, hx, hy, e, g⟩ := h
  unfold opEq at e
  split at e
  · rename_i hc
    cases e
    rw [Bool.and_eq_true] at hc
    exact ⟨p, q, (hx.toDp hc.1 (by decide)).1, (hy.toDp hc.2 (by decide)).1, (hx.toDp hc.1 (by decide)).2, (hy.toDp hc.2 (by decide)).2, g.v (.bool _)⟩
  · cases e
theorem ok_ne (hu : X.A.units + 64 < cLine) : BinOk X (compareOp .NotEq) opNe := by
  refine OpR.weak (op_neD hu) fun x y H Q h => ?_
  obtain ⟨w, p, q, z, s, rfl, st, hx, hy, e, g⟩ := h
  unfold opNe at e
  split at e
  · rename_i hc
    cases e
    rw [Bool.and_eq_true] at hc
    exact ⟨p, q, (hx.toDp hc.1 (by decide)).1, (hy.toDp hc.2 (by decide)).1, (hx.toDp hc.1 (by decide)).2, (hy.toDp hc.2 (by decide)).2, g.v (.bool _)⟩
  · cases e
def rCmpD (K : PySem.W.Frag) (g : PyData → PyData → Bool) : R2 := fun x y H Q => ∃ xs ys, Dp K H x (.tuple xs) ∧ Dp K H y (.tuple ys) ∧ PySem.W.alike (.tuple xs) (.tuple ys) = true ∧ (PyData.tuple xs).depth ≤ 61 ∧ Q (.bl (g (.tuple xs) (.tuple ys))) H
theorem op_cmpD {op : CmpOp} {g : PyData → PyData → Bool} (hu : X.A.units + 64 < cLine)
    (h0 : ∀ {E : Value → Shared → Prop} {s : Shared} {a b : Value} {da db : PyData} {as bs : List Addr} {Q : Value → Shared → Prop}, Reads s.heap a da as → Reads s.heap b db bs → PySem.W.alike da db = true → da ≠ .none → X.A.units + min da.depth db.depth < cLine → Q (.bool (g da db)) s → wpAny (model X.prog X.w) X.A (compareOp op a b) Q E s) :
    OpR X (compareOp op) (rCmpD X.K g) := by
  intro pins s σ H x y v u Q I rx ry h
  obtain ⟨xs, ys, hx, hy, ha, hd, q⟩ := h
  obtain ⟨as, r1⟩ := Dp.reads I _ x v hx rx
  obtain ⟨bs, r2⟩ := Dp.reads I _ y u hy ry
  exact h0 r1 r2 ha (fun e => by cases e) (by omega) ⟨.bl _, H, I, rfl, q⟩
theorem okCmp_of {w : Wd} {xs ys : List PyData} {x y : V} (h : okCmp xs ys = true) (hx : RB X.K w (.tuple xs) x) (hy : RB X.K w (.tuple ys) y) : Dp X.K w.H x (.tuple xs) ∧ Dp X.K w.H y (.tuple ys) ∧ PySem.W.alike (.tuple xs) (.tuple ys) = true ∧ (PyData.tuple xs).depth ≤ 61 := by
  simp only [okCmp, Bool.and_eq_true] at h
  obtain ⟨⟨h1, h2⟩, h3⟩ := h
  have d1 : okD 61 (.tuple xs) = true := by simpa [okD] using h1
  have d2 : okD 61 (.tuple ys) = true := by simpa [okD] using h2
  refine ⟨(hx.toDp d1 (by decide)).1, (hy.toDp d2 (by decide)).1, h3, ?_⟩
  rcases hx with hx | ⟨_, _, hx⟩
  · exact (RD.toDp 61 _ _ d1 hx).2.2
  · exact hx.elim
theorem ok_lt (hu : X.A.units + 64 < cLine) : BinOk X (compareOp .Lt) opLt := by
  refine OpR.weak ((op_lt.or op_lt_str).or (op_cmpD (g := PySem.W.dataLt) hu PySem.W.lt_data)) fun x y H Q h => ?_
  obtain ⟨w, p, q, z, s, rfl, st, hx, hy, e, g⟩ := h
  unfold opLt at e
  split at e
  · cases e; exact .inl (.inl ⟨_, _, hx.int, hy.int, g.v (.bool _)⟩)
  · cases e; exact .inl (.inr ⟨_, _, hx.str.1, hy.str.1, g.v (.bool _)⟩)
  · split at e
    · rename_i hc
      cases e
      obtain ⟨a1, a2, a3, a4⟩ := okCmp_of hc hx hy
      exact .inr ⟨_, _, a1, a2, a3, a4, g.v (.bool _)⟩
    · cases e
  · cases e
theorem ok_le (hu : X.A.units + 64 < cLine) : BinOk X (compareOp .LtE) opLe := by
  refine OpR.weak ((op_le.or op_le_str).or (op_cmpD (g := fun a b => !PySem.W.dataLt b a) hu PySem.W.le_data)) fun x y H Q h => ?_
  obtain ⟨w, p, q, z, s, rfl, st, hx, hy, e, g⟩ := h
  unfold opLe at e
  split at e
  · cases e; exact .inl (.inl ⟨_, _, hx.int, hy.int, g.v (.bool _)⟩)
  · cases e; exact .inl (.inr ⟨_, _, hx.str.1, hy.str.1, g.v (.bool _)⟩)
  · split at e
    · rename_i hc
      cases e
      obtain ⟨a1, a2, a3, a4⟩ := okCmp_of hc hx hy
      exact .inr ⟨_, _, a1, a2, a3, a4, g.v (.bool _)⟩
    · cases e
  · cases e
theorem ok_gt (hu : X.A.units + 64 < cLine) : BinOk X (compareOp .Gt) opGt := by
  refine OpR.weak ((op_gt.or op_gt_str).or (op_cmpD (g := fun a b => PySem.W.dataLt b a) hu PySem.W.gt_data)) fun x y H Q h => ?_
  obtain ⟨w, p, q, z, s, rfl, st, hx, hy, e, g⟩ := h
  unfold opGt at e
  split at e
  · cases e; exact .inl (.inl ⟨_, _, hx.int, hy.int, g.v (.bool _)⟩)
  · cases e; exact .inl (.inr ⟨_, _, hx.str.1, hy.str.1, g.v (.bool _)⟩)
  · split at e
    · rename_i hc
      cases e
      obtain ⟨a1, a2, a3, a4⟩ := okCmp_of hc hx hy
      exact .inr ⟨_, _, a1, a2, a3, a4, g.v (.bool _)⟩
    · cases e
  · cases e
theorem ok_ge (hu : X.A.units + 64 < cLine) : BinOk X (compareOp .GtE) opGe := by
  refine OpR.weak ((op_ge.or op_ge_str).or (op_cmpD (g := fun a b => !PySem.W.dataLt a b) hu PySem.W.ge_data)) fun x y H Q h => ?_
  obtain ⟨w, p, q, z, s, rfl, st, hx, hy, e, g⟩ := h
  unfold opGe at e
  split at e
  · cases e; exact .inl (.inl ⟨_, _, hx.int, hy.int, g.v (.bool _)⟩)
  · cases e; exact .inl (.inr ⟨_, _, hx.str.1, hy.str.1, g.v (.bool _)⟩)
  · split at e
    · rename_i hc
      cases e
      obtain ⟨a1, a2, a3, a4⟩ := okCmp_of hc hx hy
      exact .inr ⟨_, _, a1, a2, a3, a4, g.v (.bool _)⟩
    · cases e
  · cases e
def rInT (K : PySem.W.Frag) (neg : Bool) : R2 := fun x y H Q => ∃ d ds, Dp K H x d ∧ Dp K H y (.tuple ds) ∧ SeqAt.shaped d = true ∧ SeqAt.shaped (.tuple ds) = true ∧ Q (.bl (if neg then !ds.any fun z => PyData.eqv z d else ds.any fun z => PyData.eqv z d)) H
theorem op_inT (hu : X.A.units + 65 < cLine) : OpR X (compareOp .In) (rInT X.K false) := by
  intro pins s σ H x y v u Q I rx ry h
  obtain ⟨d, ds, hd, he, sd, se, q⟩ := h
  obtain ⟨as, r1⟩ := Dp.reads I d x v hd rx
  obtain ⟨bs, r2⟩ := Dp.reads I (.tuple ds) y u he ry
  exact SeqAt.in_tuple_reads r2 r1 (SeqAt.canLay_of_shaped (d := .tuple ds) se) (SeqAt.canLay_of_shaped sd) (room_in_shaped sd hu) ⟨.bl _, H, I, rfl, q⟩
theorem op_notInT (hu : X.A.units + 65 < cLine) : OpR X (compareOp .NotIn) (rInT X.K true) := by
  intro pins s σ H x y v u Q I rx ry h
  obtain ⟨d, ds, hd, he, sd, se, q⟩ := h
  obtain ⟨as, r1⟩ := Dp.reads I d x v hd rx
  obtain ⟨bs, r2⟩ := Dp.reads I (.tuple ds) y u he ry
  exact SeqAt.notIn_tuple_reads r2 r1 (SeqAt.canLay_of_shaped (d := .tuple ds) se) (SeqAt.canLay_of_shaped sd) (room_in_shaped sd hu) ⟨.bl _, H, I, rfl, q⟩
theorem ok_in (hu : X.A.units + 65 < cLine) : BinOk X (compareOp .In) opIn := by
  refine OpR.weak ((op_in_str.or (op_inD hu)).or (op_inT hu)) fun x y H Q h => ?_
  obtain ⟨w, p, q, z, s, rfl, st, hx, hy, e, g⟩ := h
  unfold opIn at e
  split at e
  · cases e; exact .inl (.inl ⟨_, _, hx.str.1, hy.str.1, g.v (.bool _)⟩)
  · split at e
    · rename_i hc
      cases e
      rw [Bool.and_eq_true] at hc
      exact .inl (.inr ⟨_, _, (hx.toDp hc.1 (by decide)).1, (hy.toDp (n := 61) (by simpa [okD] using hc.2) (by decide)).1, (hx.toDp hc.1 (by decide)).2, (hy.toDp (n := 61) (by simpa [okD] using hc.2) (by decide)).2, g.v (.bool _)⟩)
    · cases e
  · split at e
    · rename_i hc
      cases e
      rw [Bool.and_eq_true] at hc
      exact .inr ⟨_, _, (hx.toDp hc.1 (by decide)).1, (hy.toDp (n := 61) (by simpa [okD] using hc.2) (by decide)).1, (hx.toDp hc.1 (by decide)).2, (hy.toDp (n := 61) (by simpa [okD] using hc.2) (by decide)).2, g.v (.bool _)⟩
    · cases e
  · cases e
theorem ok_notIn (hu : X.A.units + 65 < cLine) : BinOk X (compareOp .NotIn) opNotIn := by
  refine OpR.weak ((op_notin_str.or (op_notInD hu)).or (op_notInT hu)) fun x y H Q h => ?_
  obtain ⟨w, p, q, z, s, rfl, st, hx, hy, e, g⟩ := h
  unfold opNotIn at e
  split at e
  · cases e; exact .inl (.inl ⟨_, _, hx.str.1, hy.str.1, g.v (.bool _)⟩)
  · split at e
    · rename_i hc
      cases e
      rw [Bool.and_eq_true] at hc
      exact .inl (.inr ⟨_, _, (hx.toDp hc.1 (by decide)).1, (hy.toDp (n := 61) (by simpa [okD] using hc.2) (by decide)).1, (hx.toDp hc.1 (by decide)).2, (hy.toDp (n := 61) (by simpa [okD] using hc.2) (by decide)).2, g.v (.bool _)⟩)
    · cases e
  · split at e
    · rename_i hc
      cases e
      rw [Bool.and_eq_true] at hc
      exact .inr ⟨_, _, (hx.toDp hc.1 (by decide)).1, (hy.toDp (n := 61) (by simpa [okD] using hc.2) (by decide)).1, (hx.toDp hc.1 (by decide)).2, (hy.toDp (n := 61) (by simpa [okD] using hc.2) (by decide)).2, g.v (.bool _)⟩
    · cases e
  · cases e
end

def oOf (o : Option Rv) (s : Sto) : Out Rv := match o with
  | some z => .ok z s
  | none => .bad
def fin1 (F : PyData → Option Rv) (r : Rv) (s : Sto) : Out Rv := match r.pd s with
  | some p => oOf (F p) s
  | none => .bad
def fin2 (F : PyData → PyData → Option Rv) (r r' : Rv) (s : Sto) : Out Rv := match r.pd s, r'.pd s with
  | some p, some q => oOf (F p q) s
  | _, _ => .bad
def eVar (i : Nat) : E := fun δ s => match δ[i]? with
  | some (.v p) => .ok (.v p) s
  | some (.own p) => .ok (.bo p) s
  | some (.ref l) => .ok (.ref l) s
  | some (.fn x) => .ok (.fn x) s
  | some (.scr ns) => .ok (.scr ns) s
  | _ => .bad
def eC (p : PyData) : E := fun _ s => .ok (.v p) s
def eFn (x : Str) : E := fun _ s => .ok (.fn x) s
def eBin (F : PyData → PyData → Option Rv) (a b : E) : E := fun δ s => (a δ s).bind fun r s1 => (b δ s1).bind fun r' s2 => fin2 F r r' s2
def eUn (F : PyData → Option Rv) (a : E) : E := fun δ s => (a δ s).bind fun r s1 => fin1 F r s1
/-- a < b < c -/
def eChain (F G : PyData → PyData → Option Rv) (a b c : E) : E := fun δ s => (a δ s).bind fun r s1 => (b δ s1).bind fun r' s2 => (fin2 F r r' s2).bind fun z s3 => match z with
  | .v (.bool true) => (c δ s3).bind fun r'' s4 => fin2 G r' r'' s4
  | .v (.bool false) => .ok (vB false) s3
  | _ => .bad
def asB (r : Rv) (s : Sto) : Out Bool := match r with
  | .v (.bool b) => .ok b s
  | _ => .bad
def eAnd (a b : E) : E := fun δ s => (a δ s).bind fun r s1 => (asB r s1).bind fun c s2 => if c then b δ s2 else .ok (vB false) s2
def eOr (a b : E) : E := fun δ s => (a δ s).bind fun r s1 => (asB r s1).bind fun c s2 => if c then .ok (vB true) s2 else b δ s2
def eNot (a : E) : E := fun δ s => (a δ s).bind fun r s1 => (asB r s1).bind fun c s2 => .ok (vB (!c)) s2
def isNone : PyData → Bool
  | .none => true
  | _ => false
def eIsN (a : E) : E := fun δ s => (a δ s).bind fun r s1 => match r with
  | .v p => .ok (vB (isNone p)) s1
  | _ => .ok (vB false) s1
def eNotN (a : E) : E := fun δ s => (a δ s).bind fun r s1 => match r with
  | .v p => .ok (vB (!isNone p)) s1
  | _ => .ok (vB true) s1
def tVal (a : E) : T := fun δ s => (a δ s).bind asB
def tNt (a : T) : T := fun δ s => (a δ s).bind fun c s1 => .ok (!c) s1
def tAn (a b : T) : T := fun δ s => (a δ s).bind fun c s1 => if c then b δ s1 else .ok false s1
def tO (a b : T) : T := fun δ s => (a δ s).bind fun c s1 => if c then .ok true s1 else b δ s1
def eIf (c : T) (a b : E) : E := fun δ s => (c δ s).bind fun k s1 => if k then a δ s1 else b δ s1
/-- argument lists -/
abbrev AL := List Sl → Sto → Out (List Rv)
def aNil : AL := fun _ s => .ok [] s
def aCons (a : E) (b : AL) : AL := fun δ s => (a δ s).bind fun r s1 => (b δ s1).bind fun rs s2 => .ok (r :: rs) s2
def pds (s : Sto) : List Rv → Option (List PyData)
  | [] => some []
  | r :: rs => match r.pd s, pds s rs with
    | some p, some ps => some (p :: ps)
    | _, _ => none
def finL (F : List PyData → Option Rv) (rs : List Rv) (s : Sto) : Out Rv := match pds s rs with
  | some ps => oOf (F ps) s
  | none => .bad
def eBi (F : List PyData → Option Rv) (a : AL) : E := fun δ s => (a δ s).bind fun rs s1 => finL F rs s1
/-- what is kept in a display must be shareable -/
def Rv.sh : Rv → Option PyData
  | .v p => some p
  | .fr p => some p
  | _ => none
def shs : List Rv → Option (List PyData)
  | [] => some []
  | r :: rs => match r.sh, shs rs with
    | some p, some ps => some (p :: ps)
    | _, _ => none
end Lay
namespace Lay
open PySem PySem.Spec PyProof.Rows L2
section
variable {X : Cx} {W : WX} {K : PySem.W.Frag} {mg : Str → Option Value} {w w' w'' : Wd} {s s' : Sto} {O : Nat → Addr} {σ : L2.St} {δ : List Sl}

theorem Post.at {α : Type} {a : α} {Q : α → Sto → Wd → Prop} (h : Post K mg W w O σ δ (.ok a s) Q) (n : Nx w w') (r : Rel K mg w' O σ δ s) : Q a s w' := h w' n r
theorem Post.ok {α : Type} {a : α} {Q : α → Sto → Wd → Prop} (h : Post K mg W w O σ δ (.ok a s) Q) (r : Rel K mg w O σ δ s) : Q a s w := h w Nx.refl r
/-- the end of an operation -/
theorem giv_of {z : Rv} {Q : VK} (h : Post K mg W w O σ δ (.ok z s) fun r _ w' => ∀ v, RR K mg w w' r v → Q v w'.H) (n : Nx w w') (r : Rel K mg w' O σ δ s) : Giv K mg w' Q z :=
  fun w'' v g rr => h.at (n.trans g.nx) (g.rel r) v (rr.back n)
theorem giv1 {F : PyData → Option Rv} {r1 : Rv} {Q : VK} {x : V} (h : Post K mg W w O σ δ (fin1 F r1 s) fun r _ w' => ∀ v, RR K mg w w' r v → Q v w'.H) (n : Nx w w') (r : Rel K mg w' O σ δ s) {wa : Wd} (hx : RR K mg wa w' r1 x) :
    ∃ p z, RB K w' p x ∧ F p = some z ∧ Giv K mg w' Q z := by
  unfold fin1 at h
  split at h
  · rename_i p hp
    unfold oOf at h
    split at h
    · rename_i z hz
      exact ⟨p, z, hx.rb r.st hp, hz, giv_of h n r⟩
    · exact h.elim
  · exact h.elim
theorem giv2 {F : PyData → PyData → Option Rv} {r1 r2 : Rv} {Q : VK} {x y : V} (h : Post K mg W w O σ δ (fin2 F r1 r2 s) fun r _ w' => ∀ v, RR K mg w w' r v → Q v w'.H) (n : Nx w w') (r : Rel K mg w' O σ δ s) {wa wb : Wd} (hx : RR K mg wa w' r1 x) (hy : RR K mg wb w' r2 y) :
    ∃ p q z, RB K w' p x ∧ RB K w' q y ∧ F p q = some z ∧ Giv K mg w' Q z := by
  unfold fin2 at h
  split at h
  · rename_i p q hp hq
    unfold oOf at h
    split at h
    · rename_i z hz
      exact ⟨p, q, z, hx.rb r.st hp, hy.rb r.st hq, hz, giv_of h n r⟩
    · exact h.elim
  · exact h.elim

theorem qe_var {i : Nat} {x : Str} {pos : Pos} (hN : X.N[i]? = some x := by rfl) (hv : Vis X.env.scope x := by first | exact Or.inl rfl | exact Or.inr (Or.inl rfl) | exact Or.inr (Or.inr rfl)) (hd : (x == ("__debug__" : Str)) = false := by decide)
    (hcd : (x == ("__classdict__" : Str)) = false := by decide) : QE X W (.Name x pos) (eVar i) := by
  refine PE.weak (pe_var hN hv hd hcd) fun σ H Q h => ?_
  obtain ⟨δ, s, w, O, rfl, r, h⟩ := h
  unfold eVar at h
  cases hq : δ[i]? with
  | none => rw [hq] at h; exact h.elim
  | some q =>
    rw [hq] at h
    have z := r.sl i q hq
    cases q with
    | un => exact h.elim
    | v p => obtain ⟨v, e, k⟩ := z; exact ⟨v, e, h.ok r v k⟩
    | own p => obtain ⟨e, k1, k2, k3⟩ := z; exact ⟨_, e, h.ok r _ ⟨_, rfl, k3, k2⟩⟩
    | ref l => obtain ⟨v, e, k⟩ := z; exact ⟨v, e, h.ok r v k⟩
    | fn y => obtain ⟨v, e, k⟩ := z; exact ⟨v, e, h.ok r v k⟩
    | scr ns => obtain ⟨v, e, k⟩ := z; exact ⟨v, e, h.ok r v k⟩
theorem qe_int {i j pos} : QE X W (.Constant (.int i) j pos) (eC (.int i)) := by
  refine PE.weak pe_int fun σ H Q h => ?_
  obtain ⟨δ, s, w, O, rfl, r, h⟩ := h
  exact h.ok r _ (.int _)
theorem qe_bool {b j pos} : QE X W (.Constant (.bool b) j pos) (eC (.bool b)) := by
  refine PE.weak pe_bl fun σ H Q h => ?_
  obtain ⟨δ, s, w, O, rfl, r, h⟩ := h
  exact h.ok r _ (.bool _)
theorem qe_none {j pos} : QE X W (.Constant .none j pos) (eC .none) := by
  refine PE.weak pe_non fun σ H Q h => ?_
  obtain ⟨δ, s, w, O, rfl, r, h⟩ := h
  exact h.ok r _ .none
/-- a text short enough, of true code points -/
def strFit (x : Str) : Bool := decide (x.length ≤ lim) && PySem.PyData.strOk x
theorem qe_str {x y : Str} {j pos} (e : x = y) (hs : strFit y = true := by decide +kernel) : QE X W (.Constant (.str x) j pos) (eC (.str y)) := by
  subst e
  refine PE.weak pe_str fun σ H Q h => ?_
  obtain ⟨δ, s, w, O, rfl, r, h⟩ := h
  simp only [strFit, Bool.and_eq_true, decide_eq_true_eq] at hs
  exact h.ok r _ (.str _ (by rw [lim_eq]; exact hs.1) hs.2)
/-- a module's constant -/
theorem qe_glob {x : Str} {u : Value} {v : V} {p : PyData} {pos : Pos} (hg : Gl X x) (hm : X.mg x = some u) (rv : RelV v u) (rd : ∀ w, RD X.K w p v) (hd : (x == ("__debug__" : Str)) = false := by decide) : QE X W (.Name x pos) (eC p) := by
  refine PE.weak (pe_glob hg hm rv hd) fun σ H Q h => ?_
  obtain ⟨δ, s, w, O, rfl, r, h⟩ := h
  exact h.ok r _ (rd _)
theorem qe_fn {x : Str} {f : Addr} {pos : Pos} (hg : Gl X x) (hm : X.mg x = some (.ref f)) (hd : (x == ("__debug__" : Str)) = false := by decide) : QE X W (.Name x pos) (eFn x) := by
  refine PE.weak (pe_glob hg hm (v := .ref f) rfl hd) fun σ H Q h => ?_
  obtain ⟨δ, s, w, O, rfl, r, h⟩ := h
  exact h.ok r _ ⟨f, hm, rfl⟩

/-- two operands -/
theorem two {fa fb : E} {k : Rv → Rv → Sto → Out Rv} {Q : VK} {R : V → V → Hp → Prop} (r : Rel K mg w O σ δ s)
    (h : Post K mg W w O σ δ ((fa δ s).bind fun r s1 => (fb δ s1).bind fun r' s2 => k r r' s2) fun z _ w' => ∀ v, RR K mg w w' z v → Q v w'.H)
    (hk : ∀ r1 r2 s2 w2 x y, Nx w w2 → Rel K mg w2 O σ δ s2 → RR K mg w w2 r1 x → RR K mg w w2 r2 y → Post K mg W w O σ δ (k r1 r2 s2) (fun z _ w' => ∀ v, RR K mg w w' z v → Q v w'.H) → R x y w2.H) :
    wpE K mg W fa σ w.H fun x H1 => wpE K mg W fb σ H1 fun y H2 => R x y H2 := by
  refine wpE.intro r (h.bind0.mono fun r1 s1 w1 n1 rel1 p1 x rr1 => ?_)
  refine wpE.intro rel1 ((p1.bind n1).mono fun r2 s2 w2 n2 rel2 p2 y rr2 => ?_)
  exact hk r1 r2 s2 w2 x y (n1.trans n2) rel2 (rr1.on n2 rel1.st.mN) (rr2.back n1) p2
theorem qe_bin {op : Operator} {F : PyData → PyData → Option Rv} {a b : Expr} {fa fb : E} {pos : Pos} (ho : BinOk X (binaryOp op) F) (ha : QE X W a fa) (hb : QE X W b fb) : QE X W (.BinOp a op b pos) (eBin F fa fb) := by
  refine PE.weak (pe_op ho ha hb) fun σ H Q h => ?_
  obtain ⟨δ, s, w, O, rfl, r, h⟩ := h
  refine two r h fun r1 r2 s2 w2 x y n rel rr1 rr2 h2 => ?_
  obtain ⟨p, q, z, h3, h4, h5, h6⟩ := giv2 h2 n rel rr1 rr2
  exact ⟨w2, p, q, z, s2, rfl, rel.st, h3, h4, h5, h6⟩
theorem qe_cmp {op : CmpOp} {F : PyData → PyData → Option Rv} {a b : Expr} {fa fb : E} {pos : Pos} (ho : BinOk X (compareOp op) F) (ha : QE X W a fa) (hb : QE X W b fb) (hm : behindInMarks op b = false := by first | exact nomark _ | rfl) : QE X W (.Compare a [op] [b] pos) (eBin F fa fb) := by
  refine PE.weak (pe_cmpR ho ha hb hm) fun σ H Q h => ?_
  obtain ⟨δ, s, w, O, rfl, r, h⟩ := h
  refine two r h fun r1 r2 s2 w2 x y n rel rr1 rr2 h2 => ?_
  obtain ⟨p, q, z, h3, h4, h5, h6⟩ := giv2 h2 n rel rr1 rr2
  exact ⟨w2, p, q, z, s2, rfl, rel.st, h3, h4, h5, h6⟩
theorem qe_isN {a : Expr} {fa : E} {j pos pos'} (ha : QE X W a fa) : QE X W (.Compare a [.Is] [.Constant .none j pos'] pos) (eIsN fa) := by
  refine PE.weak (pe_cmp (pc_isN ha) (by first | exact nobehind _ (by decide) (by decide) | rfl)) fun σ H Q h => ?_
  obtain ⟨δ, s, w, O, rfl, r, h⟩ := h
  refine wpE.intro r (Post.mono (Post.bind0 h) fun r1 s1 w1 n1 rel1 p1 x rr1 => ?_)
  cases r1 with
  | v p =>
    have e : decide (x = V.non) = isNone p := by
      have rr1 : RD X.K w1 p x := rr1
      cases rr1 <;> simp [isNone]
    rw [e]
    exact Post.at p1 n1 rel1 _ (.bool _)
  | fr p => obtain ⟨a, rfl, _⟩ := rr1; exact Post.at p1 n1 rel1 _ (.bool _)
  | bo p => obtain ⟨a, rfl, _⟩ := rr1; exact Post.at p1 n1 rel1 _ (.bool _)
  | ref l => obtain ⟨a, _, rfl⟩ := rr1; exact Post.at p1 n1 rel1 _ (.bool _)
  | fn y => obtain ⟨a, _, rfl⟩ := rr1; exact Post.at p1 n1 rel1 _ (.bool _)
  | scr ns => obtain ⟨a, o, _, _, rfl⟩ := rr1; exact Post.at p1 n1 rel1 _ (.bool _)
theorem qe_notN {a : Expr} {fa : E} {j pos pos'} (ha : QE X W a fa) : QE X W (.Compare a [.IsNot] [.Constant .none j pos'] pos) (eNotN fa) := by
  refine PE.weak (pe_cmp (pc_notN ha) (by first | exact nobehind _ (by decide) (by decide) | rfl)) fun σ H Q h => ?_
  obtain ⟨δ, s, w, O, rfl, r, h⟩ := h
  refine wpE.intro r (Post.mono (Post.bind0 h) fun r1 s1 w1 n1 rel1 p1 x rr1 => ?_)
  cases r1 with
  | v p =>
    have e : (!decide (x = V.non)) = !isNone p := by
      have rr1 : RD X.K w1 p x := rr1
      cases rr1 <;> simp [isNone]
    rw [e]
    exact Post.at p1 n1 rel1 _ (.bool _)
  | fr p => obtain ⟨a, rfl, _⟩ := rr1; exact Post.at p1 n1 rel1 _ (.bool _)
  | bo p => obtain ⟨a, rfl, _⟩ := rr1; exact Post.at p1 n1 rel1 _ (.bool _)
  | ref l => obtain ⟨a, _, rfl⟩ := rr1; exact Post.at p1 n1 rel1 _ (.bool _)
  | fn y => obtain ⟨a, _, rfl⟩ := rr1; exact Post.at p1 n1 rel1 _ (.bool _)
  | scr ns => obtain ⟨a, o, _, _, rfl⟩ := rr1; exact Post.at p1 n1 rel1 _ (.bool _)

theorem asB_ok {α : Type} {r1 : Rv} {wa : Wd} {x : V} {k : Bool → Sto → Out α} {Q : α → Sto → Wd → Prop} (h : Post K mg W w O σ δ ((asB r1 s).bind k) Q) (hx : RR K mg wa w' r1 x) : ∃ c, x = .bl c ∧ Post K mg W w O σ δ (k c s) Q := by
  unfold asB at h
  split at h
  · rename_i b
    have hx : RD K w' (.bool b) x := hx
    cases hx
    exact ⟨b, rfl, h⟩
  · exact h.elim
theorem asB_end {r1 : Rv} {Q : Bool → Sto → Wd → Prop} (h : Post K mg W w O σ δ (asB r1 s) Q) : Post K mg W w O σ δ ((asB r1 s).bind fun b s => .ok b s) Q := by
  unfold asB at h ⊢
  split at h
  · exact h
  · exact h
/-- a value that is a truth, as a test -/
theorem qt_val {e : Expr} {f : E} (h : QE X W e f) (he : ∀ whole, isTrue e X.env whole = (do let v ← whole; standAt e.pos; holding [v] (truthy v)) := by intro _; rfl) : QT X W e (tVal f) := by
  refine PT.weak (pt_val h he) fun σ H Q h => ?_
  obtain ⟨δ, s, w, O, rfl, r, h⟩ := h
  refine wpE.intro r (Post.mono (Post.bind0 h) fun r1 s1 w1 n1 rel1 p1 x rr1 => ?_)
  obtain ⟨c, rfl, h2⟩ := asB_ok (asB_end p1) rr1
  exact ⟨c, rfl, Post.at h2 n1 rel1⟩
theorem qt_cmp {op : CmpOp} {F : PyData → PyData → Option Rv} {a b : Expr} {fa fb : E} {pos : Pos} (ho : BinOk X (compareOp op) F) (ha : QE X W a fa) (hb : QE X W b fb) (hm : behindInMarks op b = false := by first | exact nomark _ | rfl) : QT X W (.Compare a [op] [b] pos) (tVal (eBin F fa fb)) := by
  refine PT.weak (pt_cmpR ho ha hb hm) fun σ H Q h => ?_
  obtain ⟨δ, s, w, O, rfl, r, h⟩ := h
  show wpE X.K X.mg W fa σ w.H (fun x H1 => wpE X.K X.mg W fb σ H1 fun y H2 => rF X.K X.mg F x y H2 fun x H' => ∃ k, x = .bl k ∧ Q k H')
  have h : Post X.K X.mg W w O σ δ ((fa δ s).bind fun r s1 => (fb δ s1).bind fun r' s2 => (fin2 F r r' s2).bind asB) (fun b _ w' => Q b w'.H) := by
    have h : Post X.K X.mg W w O σ δ ((eBin F fa fb δ s).bind asB) (fun b _ w' => Q b w'.H) := h
    unfold eBin at h
    cases e1 : fa δ s with
    | bad => rw [e1] at h; exact h
    | ex c fs s' => rw [e1] at h; exact h
    | ok a s1 =>
      rw [e1] at h
      show Post X.K X.mg W w O σ δ ((fb δ s1).bind fun r' s2 => (fin2 F a r' s2).bind asB) _
      have h : Post X.K X.mg W w O σ δ (((fb δ s1).bind fun r' s2 => fin2 F a r' s2).bind asB) (fun b _ w' => Q b w'.H) := h
      cases e2 : fb δ s1 with
      | bad => rw [e2] at h; exact h
      | ex c fs s' => rw [e2] at h; exact h
      | ok b s2 => rw [e2] at h; exact h
  refine wpE.intro r (h.bind0.mono fun r1 s1 w1 n1 rel1 p1 x rr1 => ?_)
  refine wpE.intro rel1 ((p1.bind n1).mono fun r2 s2 w2 n2 rel2 p2 y rr2 => ?_)
  unfold fin2 at p2
  split at p2
  · rename_i p q hp hq
    unfold oOf at p2
    split at p2
    · rename_i z hz
      refine ⟨w2, p, q, z, s2, rfl, rel2.st, (rr1.on n2 rel1.st.mN).rb rel2.st hp, rr2.rb rel2.st hq, hz, fun w' v g rr => ?_⟩
      obtain ⟨c, rfl, h4⟩ := asB_ok (asB_end p2) rr
      exact ⟨c, rfl, Post.at h4 ((n1.trans n2).trans g.nx) (g.rel rel2)⟩
    · exact p2.elim
  · exact p2.elim
end
end Lay
namespace Lay
open PySem PySem.Spec PyProof.Rows L2
theorem Out.bind_assoc {α β γ : Type} (o : Out α) (f : α → Sto → Out β) (g : β → Sto → Out γ) : (o.bind f).bind g = o.bind fun a s => (f a s).bind g := by cases o <;> rfl
section
variable {X : Cx} {W : WX} {K : PySem.W.Frag} {mg : Str → Option Value} {w w' w'' : Wd} {s s' : Sto} {O : Nat → Addr} {σ : L2.St} {δ : List Sl}
theorem Post.rebase {α : Type} {o : Out α} {Q : α → Sto → Wd → Prop} (h : Post K mg W w O σ δ o Q) (n : Nx w w') : Post K mg W w' O σ δ o Q := by
  cases o with
  | bad => exact h
  | ex c fs s' => exact fun C d w1 n1 r1 e x => h C d w1 (n.trans n1) r1 e x
  | ok a s1 => exact fun w1 n1 r1 => h w1 (n.trans n1) r1
theorem tail {f : E} {Q : VK} (n : Nx w w') (r : Rel K mg w' O σ δ s) (h : Post K mg W w O σ δ (f δ s) fun z _ w'' => ∀ v, RR K mg w w'' z v → Q v w''.H) : wpE K mg W f σ w'.H Q :=
  wpE.intro r ((h.rebase n).mono fun r2 s2 w2 n2 rel2 p v rr => p v (rr.back n))
theorem tailT {f : T} {Q : Bool → Hp → Prop} (n : Nx w w') (r : Rel K mg w' O σ δ s) (h : Post K mg W w O σ δ (f δ s) fun b _ w'' => Q b w''.H) : wpT K mg W f σ w'.H Q :=
  wpT.intro r ((h.rebase n).mono fun r2 s2 w2 n2 rel2 p => p)

theorem qe_one {op} {a : Expr} {fa : E} {pos : Pos} (ha : QE X W a fa) : QE X W (.BoolOp op [a] pos) fa := pe_one ha
theorem qe_and {a b : Expr} {rest : List Expr} {fa fb : E} {pos : Pos} (ha : QE X W a fa) (hb : QE X W (.BoolOp .And (b :: rest) pos) fb) : QE X W (.BoolOp .And (a :: b :: rest) pos) (eAnd fa fb) := by
  refine PE.weak (pe_and ha hb) fun σ H Q h => ?_
  obtain ⟨δ, s, w, O, rfl, r, h⟩ := h
  refine wpE.intro r (Post.mono (Post.bind0 h) fun r1 s1 w1 n1 rel1 p1 x rr1 => ?_)
  obtain ⟨c, rfl, p2⟩ := asB_ok p1 rr1
  refine ⟨c, rfl, ?_⟩
  cases c with
  | true => exact iteT (tail n1 rel1 p2)
  | false => exact iteF (Post.at p2 n1 rel1 _ (.bool _))
theorem qe_or {a b : Expr} {rest : List Expr} {fa fb : E} {pos : Pos} (ha : QE X W a fa) (hb : QE X W (.BoolOp .Or (b :: rest) pos) fb) : QE X W (.BoolOp .Or (a :: b :: rest) pos) (eOr fa fb) := by
  refine PE.weak (pe_or ha hb) fun σ H Q h => ?_
  obtain ⟨δ, s, w, O, rfl, r, h⟩ := h
  refine wpE.intro r (Post.mono (Post.bind0 h) fun r1 s1 w1 n1 rel1 p1 x rr1 => ?_)
  obtain ⟨c, rfl, p2⟩ := asB_ok p1 rr1
  refine ⟨c, rfl, ?_⟩
  cases c with
  | true => exact iteT (Post.at p2 n1 rel1 _ (.bool _))
  | false => exact iteF (tail n1 rel1 p2)
theorem qe_not {a : Expr} {fa : E} {pos : Pos} (ha : QE X W a fa) : QE X W (.UnaryOp .Not a pos) (eNot fa) := by
  refine PE.weak (pe_not ha) fun σ H Q h => ?_
  obtain ⟨δ, s, w, O, rfl, r, h⟩ := h
  refine wpE.intro r (Post.mono (Post.bind0 h) fun r1 s1 w1 n1 rel1 p1 x rr1 => ?_)
  obtain ⟨c, rfl, p2⟩ := asB_ok p1 rr1
  exact ⟨c, rfl, Post.at p2 n1 rel1 _ (.bool _)⟩
theorem qt_not {a : Expr} {fa : T} {pos : Pos} (ha : QT X W a fa) : QT X W (.UnaryOp .Not a pos) (tNt fa) := by
  refine PT.weak (pt_not ha) fun σ H Q h => ?_
  obtain ⟨δ, s, w, O, rfl, r, h⟩ := h
  exact wpT.intro r (Post.mono (Post.bind0 h) fun c s1 w1 n1 rel1 p1 => Post.at p1 n1 rel1)
theorem qw_and1 {a : Expr} {fa : T} {pos : Pos} (ha : QT X W a fa) : QW X W (.BoolOp .And [a] pos) fa := pw_and1 ha
theorem qw_or1 {a : Expr} {fa : T} {pos : Pos} (ha : QT X W a fa) : QW X W (.BoolOp .Or [a] pos) fa := pw_or1 ha
theorem qw_and {a b : Expr} {rest : List Expr} {fa fb : T} {pos : Pos} (ha : QT X W a fa) (hb : QW X W (.BoolOp .And (b :: rest) pos) fb) : QW X W (.BoolOp .And (a :: b :: rest) pos) (tAn fa fb) := by
  refine PW.weak (pw_and ha hb) fun σ H Q h => ?_
  obtain ⟨δ, s, w, O, rfl, r, h⟩ := h
  refine wpT.intro r (Post.mono (Post.bind0 h) fun c s1 w1 n1 rel1 p1 => ?_)
  cases c with
  | true => exact iteT (tailT n1 rel1 p1)
  | false => exact iteF (Post.at p1 n1 rel1)
theorem qw_or {a b : Expr} {rest : List Expr} {fa fb : T} {pos : Pos} (ha : QT X W a fa) (hb : QW X W (.BoolOp .Or (b :: rest) pos) fb) : QW X W (.BoolOp .Or (a :: b :: rest) pos) (tO fa fb) := by
  refine PW.weak (pw_or ha hb) fun σ H Q h => ?_
  obtain ⟨δ, s, w, O, rfl, r, h⟩ := h
  refine wpT.intro r (Post.mono (Post.bind0 h) fun c s1 w1 n1 rel1 p1 => ?_)
  cases c with
  | true => exact iteT (Post.at p1 n1 rel1)
  | false => exact iteF (tailT n1 rel1 p1)
theorem qe_if {c a b : Expr} {fc : T} {fa fb : E} {pos : Pos} (hc : QT X W c fc) (ha : QE X W a fa) (hb : QE X W b fb) : QE X W (.IfExp c a b pos) (eIf fc fa fb) := by
  refine PE.weak (pe_ifExp hc ha hb) fun σ H Q h => ?_
  obtain ⟨δ, s, w, O, rfl, r, h⟩ := h
  refine wpT.intro r (Post.mono (Post.bind0 h) fun c s1 w1 n1 rel1 p1 => ?_)
  cases c with
  | true => exact iteT (tail n1 rel1 p1)
  | false => exact iteF (tail n1 rel1 p1)
/-- what F gives is a truth -/
theorem chain_core {fa fb fc : E} {F G : PyData → PyData → Option Rv} {Q : VK} (r : Rel K mg w O σ δ s) (h : Post K mg W w O σ δ (eChain F G fa fb fc δ s) fun z _ w' => ∀ v, RR K mg w w' z v → Q v w'.H) :
    tChain (rF K mg F) (rF K mg G) (wpE K mg W fa) (wpE K mg W fb) (wpE K mg W fc) σ w.H Q := by
  refine two (k := fun r r' s2 => (fin2 F r r' s2).bind fun z s3 => match z with
    | .v (.bool true) => (fc δ s3).bind fun r'' s4 => fin2 G r' r'' s4
    | .v (.bool false) => .ok (vB false) s3
    | _ => .bad) r h fun r1 r2 s2 w2 x y n rel rr1 rr2 h2 => ?_
  unfold fin2 at h2
  split at h2
  · rename_i p q hp hq
    unfold oOf at h2
    split at h2
    · rename_i z hz
      refine ⟨w2, p, q, z, s2, rfl, rel.st, rr1.rb rel.st hp, rr2.rb rel.st hq, hz, fun w3 v g rr => ?_⟩
      have n3 := n.trans g.nx
      have rel3 := g.rel rel
      simp only [Out.bind] at h2
      split at h2
      · have rr : RD K w3 (.bool true) v := rr
        cases rr
        refine ⟨true, rfl, iteT ?_⟩
        refine wpE.intro rel3 ((h2.bind n3).mono fun r4 s4 w4 n4 rel4 p4 z4 rr4 => ?_)
        obtain ⟨p5, q5, z5, h3, h4, h5, h6⟩ := giv2 p4 (n3.trans n4) rel4 (rr2.on (g.nx.trans n4) rel.st.mN) rr4
        exact ⟨w4, p5, q5, z5, s4, rfl, rel4.st, h3, h4, h5, h6⟩
      · have rr : RD K w3 (.bool false) v := rr
        cases rr
        exact ⟨false, rfl, iteF (Post.at h2 n3 rel3 _ (.bool _))⟩
      · exact h2.elim
    · exact h2.elim
  · exact h2.elim
theorem qe_chain {op op' : CmpOp} {F G : PyData → PyData → Option Rv} {a b c : Expr} {fa fb fc : E} {pos : Pos} (ho : BinOk X (compareOp op) F) (ho' : BinOk X (compareOp op') G) (ha : QE X W a fa) (hb : QE X W b fb) (hc : QE X W c fc) (hm : lastMarks [op, op'] [b, c] = false := by rfl)
    : QE X W (.Compare a [op, op'] [b, c] pos) (eChain F G fa fb fc) := by
  refine PE.weak (pe_chain ho ho' ha hb hc hm) fun σ H Q h => ?_
  obtain ⟨δ, s, w, O, rfl, r, h⟩ := h
  exact chain_core r h
theorem qt_chain {op op' : CmpOp} {F G : PyData → PyData → Option Rv} {a b c : Expr} {fa fb fc : E} {pos : Pos} (ho : BinOk X (compareOp op) F) (ho' : BinOk X (compareOp op') G) (ha : QE X W a fa) (hb : QE X W b fb) (hc : QE X W c fc) (hm : lastMarks [op, op'] [b, c] = false := by rfl)
    : QT X W (.Compare a [op, op'] [b, c] pos) (tVal (eChain F G fa fb fc)) := by
  refine PT.weak (pt_chain ho ho' ha hb hc hm) fun σ H Q h => ?_
  obtain ⟨δ, s, w, O, rfl, r, h⟩ := h
  refine chain_core (Q := fun v H' => ∃ k, v = .bl k ∧ Q k H') r ?_
  have h : Post X.K X.mg W w O σ δ ((eChain F G fa fb fc δ s).bind asB) (fun b _ w' => Q b w'.H) := h
  cases e : eChain F G fa fb fc δ s with
  | bad => rw [e] at h; exact h
  | ex c fs s' => rw [e] at h; exact h
  | ok z s' =>
    rw [e] at h
    intro w' n rel v rr
    have h : Post X.K X.mg W w O σ δ (asB z s') (fun b _ w' => Q b w'.H) := h
    obtain ⟨c, rfl, h2⟩ := asB_ok (asB_end h) rr
    exact ⟨c, rfl, Post.at h2 n rel⟩

inductive RRs (K : PySem.W.Frag) (mg : Str → Option Value) (w0 w : Wd) : List Rv → List V → Prop
  | nil : RRs K mg w0 w [] []
  | cons {r : Rv} {v : V} {rs : List Rv} {vs : List V} : RR K mg w0 w r v → RRs K mg w0 w rs vs → (∀ p a, r = .fr p → v = .ref a → ∀ q, (Rv.fr q, V.ref a) ∉ rs.zip vs) → RRs K mg w0 w (r :: rs) (v :: vs)
theorem RRs.back {w0 w1 : Wd} : ∀ {rs : List Rv} {vs : List V}, RRs K mg w1 w rs vs → Nx w0 w1 → RRs K mg w0 w rs vs
  | _, _, .nil, _ => .nil
  | _, _, .cons r t h, n => .cons (r.back n) (t.back n) h
theorem RRs.length {w0 : Wd} : ∀ {rs : List Rv} {vs : List V}, RRs K mg w0 w rs vs → rs.length = vs.length
  | _, _, .nil => rfl
  | _, _, .cons _ t _ => by simp [t.length]
theorem RRs.mem {w0 : Wd} : ∀ {rs : List Rv} {vs : List V} {r : Rv} {v : V}, RRs K mg w0 w rs vs → (r, v) ∈ rs.zip vs → RR K mg w0 w r v
  | _, _, _, _, .nil, h => by simp at h
  | _, _, _, _, .cons r t _, h => by
    rw [List.zip_cons_cons] at h
    rcases List.mem_cons.mp h with e | h
    · cases e; exact r
    · exact t.mem h
theorem RRs.on {w0 : Wd} (n : Nx w w') (hm : ∀ a ∈ w.μ, w.N a) : ∀ {rs : List Rv} {vs : List V}, RRs K mg w0 w rs vs → RRs K mg w0 w' rs vs
  | _, _, .nil => .nil
  | _, _, .cons r t h => .cons (r.on n hm) (RRs.on n hm t) h
/-- lists of data as they stand now -/
inductive RBs (K : PySem.W.Frag) (w : Wd) : List PyData → List V → Prop
  | nil : RBs K w [] []
  | cons {p : PyData} {v : V} {ps : List PyData} {vs : List V} : RB K w p v → RBs K w ps vs → RBs K w (p :: ps) (v :: vs)
theorem RRs.rbs {w0 : Wd} (st : RelS K mg w s) : ∀ {rs : List Rv} {vs : List V} {ps : List PyData}, RRs K mg w0 w rs vs → pds s rs = some ps → RBs K w ps vs
  | _, _, _, .nil, e => by simp [pds] at e; subst e; exact .nil
  | _, _, _, .cons r t _, e => by
    simp only [pds] at e
    split at e
    · rename_i p qs h1 h2
      cases e
      exact .cons (r.rb st h1) (RRs.rbs st t h2)
    · cases e
def wpA (K : PySem.W.Frag) (mg : Str → Option Value) (W : WX) (f : AL) : TA := fun σ H Q =>
  ∃ δ s w O, w.H = H ∧ Rel K mg w O σ δ s ∧ Post K mg W w O σ δ (f δ s) fun rs _ w' => ∀ vs, RRs K mg w w' rs vs → Q vs w'.H
def QA (X : Cx) (W : WX) (es : List Expr) (f : AL) : Prop := PA X es (wpA X.K X.mg W f)
theorem PA.weak {es : List Expr} {t t' : TA} (h : PA X es t) (k : ∀ σ H Q, t' σ H Q → t σ H Q) : PA X es t' := ⟨fun pos pins s σ H Q I q => h.run pos pins s σ H Q I (k σ H Q q)⟩
theorem wpA.intro {f : AL} {Q : List V → Hp → Prop} (r : Rel K mg w O σ δ s) (h : Post K mg W w O σ δ (f δ s) fun rs _ w' => ∀ vs, RRs K mg w w' rs vs → Q vs w'.H) : wpA K mg W f σ w.H Q := ⟨δ, s, w, O, rfl, r, h⟩
theorem qa_nil : QA X W [] aNil := by
  refine PA.weak pa_nil fun σ H Q h => ?_
  obtain ⟨δ, s, w, O, rfl, r, h⟩ := h
  exact Post.at h Nx.refl r [] .nil
theorem qa_cons {e : Expr} {es : List Expr} {f : E} {g : AL} (ha : QE X W e f) (hr : QA X W es g) (hs : starEach (e :: es) X.env = (false, eval e X.env) :: starEach es X.env := by rfl) : QA X W (e :: es) (aCons f g) := by
  refine PA.weak (pa_cons ha hr hs) fun σ H Q h => ?_
  obtain ⟨δ, s, w, O, rfl, r, h⟩ := h
  refine wpE.intro r (Post.mono (Post.bind0 h) fun r1 s1 w1 n1 rel1 p1 x rr1 => ?_)
  refine wpA.intro rel1 ((Post.bind n1 p1).mono fun rs s2 w2 n2 rel2 p2 vs rrs => ?_)
  refine Post.at p2 (n1.trans n2) rel2 _ (.cons (rr1.on n2 rel1.st.mN) (rrs.back n1) fun p a e1 e2 q hm => ?_)
  subst e1 e2
  obtain ⟨a', e3, h1, _⟩ := rr1
  cases e3
  obtain ⟨o, e4⟩ := h1.some
  obtain ⟨a', e5, _, _, _, h2⟩ := rrs.mem hm
  cases e5
  rw [e4] at h2; cases h2

def rFL (K : PySem.W.Frag) (mg : Str → Option Value) (F : List PyData → Option Rv) : List V → Hp → VK → Prop := fun xs H Q =>
  ∃ w ps z s, w.H = H ∧ RelS K mg w s ∧ RBs K w ps xs ∧ F ps = some z ∧ Giv K mg w Q z
def CalOk (X : Cx) (f : Value) (F : List PyData → Option Rv) : Prop := CallR X f (rFL X.K X.mg F)
theorem CallR.weak {f : Value} {r r' : List V → Hp → VK → Prop} (h : CallR X f r) (k : ∀ xs H Q, r' xs H Q → r xs H Q) : CallR X f r' := fun pins s σ H xs us Q I rx q => h pins s σ H xs us Q I rx (k xs H Q q)
theorem givL {F : List PyData → Option Rv} {rs : List Rv} {Q : VK} {xs : List V} (h : Post K mg W w O σ δ (finL F rs s) fun r _ w' => ∀ v, RR K mg w w' r v → Q v w'.H) (n : Nx w w') (r : Rel K mg w' O σ δ s) {wa : Wd} (hx : RRs K mg wa w' rs xs) :
    ∃ ps z, RBs K w' ps xs ∧ F ps = some z ∧ Giv K mg w' Q z := by
  unfold finL at h
  split at h
  · rename_i ps hp
    unfold oOf at h
    split at h
    · rename_i z hz
      exact ⟨ps, z, hx.rbs r.st hp, hz, giv_of h n r⟩
    · exact h.elim
  · exact h.elim
theorem qe_callB {x : Str} {id : String} {e : Expr} {es : List Expr} {p pos : Pos} {F : List PyData → Option Rv} {f : AL} (hc : CalOk X (.builtin id) F) (hg : Gl X x) (hm : X.mg x = none) (hv : bootBuiltins x = some (.builtin id)) (ha : QA X W (e :: es) f) (hn : x ≠ "__name__" := by decide) (hdb : (x == ("__debug__" : Str)) = false := by decide)
    (he : starEach (e :: es) X.env = (false, eval e X.env) :: starEach es X.env := by rfl) (hpl : (backTo pos (starEach es X.env)).any (·.1) = false := by rfl) : QE X W (.Call (.Name x p) (e :: es) [] pos) (eBi F f) := by
  refine PE.weak (pe_callB hc hg hm hv ha hn hdb he hpl) fun σ H Q h => ?_
  obtain ⟨δ, s, w, O, rfl, r, h⟩ := h
  refine wpA.intro r ((Post.bind0 h).mono fun rs s1 w1 n1 rel1 p1 vs rrs => ?_)
  obtain ⟨ps, z, h1, h2, h3⟩ := givL p1 n1 rel1 rrs
  exact ⟨w1, ps, z, s1, rfl, rel1.st, h1, h2, h3⟩
theorem qe_callTy {x : Str} {T : String} {e : Expr} {es : List Expr} {p pos : Pos} {F : List PyData → Option Rv} {f : AL} (hc : CalOk X (.type T) F) (hg : Gl X x) (hm : X.mg x = none) (hv : bootBuiltins x = some (.type T)) (ha : QA X W (e :: es) f) (hn : x ≠ "__name__" := by decide) (hdb : (x == ("__debug__" : Str)) = false := by decide)
    (he : starEach (e :: es) X.env = (false, eval e X.env) :: starEach es X.env := by rfl) (hpl : (backTo pos (starEach es X.env)).any (·.1) = false := by rfl) : QE X W (.Call (.Name x p) (e :: es) [] pos) (eBi F f) := by
  refine PE.weak (pe_callTy hc hg hm hv ha hn hdb he hpl) fun σ H Q h => ?_
  obtain ⟨δ, s, w, O, rfl, r, h⟩ := h
  refine wpA.intro r ((Post.bind0 h).mono fun rs s1 w1 n1 rel1 p1 vs rrs => ?_)
  obtain ⟨ps, z, h1, h2, h3⟩ := givL p1 n1 rel1 rrs
  exact ⟨w1, ps, z, s1, rfl, rel1.st, h1, h2, h3⟩
end
end Lay
namespace Lay
open PySem PySem.Spec PyProof.Rows L2
section
variable {X : Cx} {W : WX} {K : PySem.W.Frag} {mg : Str → Option Value} {w w' w'' w0 : Wd} {s s' : Sto} {O : Nat → Addr} {σ : L2.St} {δ : List Sl}
def Wd.drop (w0 w : Wd) : Wd := ⟨fun b => w.N b ∧ (w0.N b ∨ b ∈ w.μ), w.μ, w.H⟩
theorem drop_stay : Stay w (Wd.drop w0 w) := fun b o e hn => ⟨e, fun q => hn q.1⟩
theorem drop_nx (n : Nx w0 w) : Nx w0 (Wd.drop w0 w) := ⟨n.ext, fun b q => ⟨n.sub b q, .inl q⟩, fun b q => n.new b q.1, n.there, n.pre, n.mu⟩
theorem drop_st (st : RelS K mg w s) : RelS K mg (Wd.drop w0 w) s := by
  refine ⟨fun b q => ⟨st.mN b q, .inr q⟩, fun b q => st.tr b q.1, st.len, st.nd, fun l c b e1 e2 => ?_⟩
  have q := st.cell l c b e1 e2
  cases c with
  | lst ds => exact OwnOk.stay (show OwnOk K w b (.list ds) from q) drop_stay rfl
  | ins c fs =>
    obtain ⟨C, dx, gs, e1, e2, e3⟩ := q
    exact ⟨C, dx, gs, e1, e2, Paired.mapP e3 fun x y h => ⟨h.1, SlV.stay h.2 drop_stay fun _ _ h => h⟩⟩
theorem drop_rel (r : Rel K mg w0 O σ δ s') (n : Nx w0 w) (st : RelS K mg w s) : Rel K mg (Wd.drop w0 w) O σ δ s := r.next (drop_nx n) (drop_st st)
theorem RR.shd {r : Rv} {v : V} {p : PyData} (h : RR K mg w0 w r v) (st0 : RelS K mg w0 s') (e : r.sh = some p) : RD K (Wd.drop w0 w) p v := by
  cases r with
  | v q => cases e; exact RD.stay drop_stay h
  | fr q =>
    cases e
    obtain ⟨a, rfl, h1, h2, h3, h4⟩ := h
    have hn : ¬ (Wd.drop w0 w).N a := fun q => q.2.elim (fun z => by obtain ⟨o, e⟩ := st0.tr a z; rw [h4] at e; cases e) h3
    cases p with
    | list ds => obtain ⟨vs, e, l, r⟩ := h1; exact .lst e hn l (r.stay drop_stay)
    | dict ps => obtain ⟨vs, e, l, r⟩ := h1; exact .dct (.inl e) hn l (r.stay drop_stay)
    | _ => exact h1.elim
  | _ => cases e
theorem RRs.shd (st0 : RelS K mg w0 s') : ∀ {rs : List Rv} {vs : List V} {ps : List PyData}, RRs K mg w0 w rs vs → shs rs = some ps → RDs K (Wd.drop w0 w) ps vs
  | _, _, _, .nil, e => by simp [shs] at e; subst e; exact .nil
  | _, _, _, .cons r t _, e => by
    simp only [shs] at e
    split at e
    · rename_i p qs h1 h2
      cases e
      exact .cons (r.shd st0 h1) (RRs.shd st0 t h2)
    · cases e
def mkTup (rs : List Rv) (s : Sto) : Out Rv := match shs rs with
  | some ps => if ps.length ≤ lim then .ok (.v (.tuple ps)) s else .bad
  | none => .bad
def mkLst (rs : List Rv) (s : Sto) : Out Rv := match shs rs with
  | some ps => if ps.length ≤ lim then .ok (.fr (.list ps)) s else .bad
  | none => .bad
def eTup (a : AL) : E := fun δ s => (a δ s).bind mkTup
def eLst (a : AL) : E := fun δ s => (a δ s).bind mkLst
theorem qe_tup {es : List Expr} {x1} {pos : Pos} {f : AL} (h : QA X W es f) : QE X W (.Tuple es x1 pos) (eTup f) := by
  refine PE.weak (pe_tup h) fun σ H Q h => ?_
  obtain ⟨δ, s, w, O, rfl, r, h⟩ := h
  refine wpA.intro r ((Post.bind0 h).mono fun rs s1 w1 n1 rel1 p1 vs rrs => ?_)
  unfold mkTup at p1
  split at p1
  · rename_i ps hps
    split at p1
    · rename_i hl
      have rds := rrs.shd r.st hps
      have rl := drop_rel r n1 rel1.st
      have e := rds.length
      refine ⟨by rw [lim_eq]; omega, fun p hp => ?_⟩
      have g : Gr (Wd.drop w w1) ⟨(Wd.drop w w1).N, (Wd.drop w w1).μ, upd w1.H p (.tup vs)⟩ := Gr.add hp
      refine Post.at p1 ((drop_nx n1).trans g.nx) (g.rel rl) (.ref p) (RD.tup (.inl upd_same) (fun q => ?_) (by rw [lim_eq]; omega) (rds.stay (g.nx.stay rl.st.mN)))
      obtain ⟨o, e⟩ := rl.st.tr p q
      have hp : (Wd.drop w w1).H p = none := hp
      rw [hp] at e; cases e
    · exact p1.elim
  · exact p1.elim
theorem qe_lst {es : List Expr} {pos : Pos} {f : AL} (h : QA X W es f) : QE X W (.List es pos) (eLst f) := by
  refine PE.weak (pe_lst h) fun σ H Q h => ?_
  obtain ⟨δ, s, w, O, rfl, r, h⟩ := h
  refine wpA.intro r ((Post.bind0 h).mono fun rs s1 w1 n1 rel1 p1 vs rrs => ?_)
  unfold mkLst at p1
  split at p1
  · rename_i ps hps
    split at p1
    · rename_i hl
      have rds := rrs.shd r.st hps
      have rl := drop_rel r n1 rel1.st
      have e := rds.length
      refine ⟨by rw [lim_eq]; omega, fun p hp => ?_⟩
      have g : Gr (Wd.drop w w1) ⟨fun a => (Wd.drop w w1).N a ∨ a = p, (Wd.drop w w1).μ, upd w1.H p (.lst vs)⟩ := Gr.addN hp
      refine Post.at p1 ((drop_nx n1).trans g.nx) (g.rel rl) (.ref p) ⟨p, rfl, ⟨vs, upd_same, by rw [lim_eq]; omega, rds.stay (g.nx.stay rl.st.mN)⟩, .inr rfl, fun q => ?_, (drop_nx n1).none hp⟩
      obtain ⟨o, e⟩ := rl.st.tr p (rl.st.mN p q)
      have hp : (Wd.drop w w1).H p = none := hp
      rw [hp] at e; cases e
    · exact p1.elim
  · exact p1.elim

inductive Ty where
  | int | bool | str | tup | lst | dct
def Ty.nm : Ty → String
  | .int => "int" | .bool => "bool" | .str => "str" | .tup => "tuple" | .lst => "list" | .dct => "dict"
def isiD : Ty → PyData → Bool
  | .int, .int _ => true
  | .int, .bool _ => true
  | .bool, .bool _ => true
  | .str, .str _ => true
  | .tup, .tuple _ => true
  | .lst, .list _ => true
  | .dct, .dict _ => true
  | _, _ => false
def eIsi (T : Ty) (a : E) : E := eUn (fun p => some (vB (isiD T p))) a
def dTy : PyData → String
  | .none => "NoneType" | .bool _ => "bool" | .int _ => "int" | .str _ => "str" | .tuple _ => "tuple" | .list _ => "list" | .dict _ => "dict"
theorem kit_d {K : PySem.W.Frag} (T : Ty) (p : PyData) : PySem.W.kitOne K (.type (dTy p)) (.type T.nm) = some (isiD T p) := by
  cases T <;> cases p <;> (refine kit_ty ?_; simp only [dTy, Ty.nm, isiD]; decide +kernel)
theorem RB.ty {p : PyData} {v : V} (h : RB K w p v) : TyX K w.H v (.type (dTy p)) := by
  cases p with
  | none => cases h.none; exact .base .non
  | bool b => cases h.bool; exact .base (.bl b)
  | int i => cases h.int; exact .base (.int i)
  | str x => cases h.str.1; exact .base (.str x)
  | tuple ds =>
    obtain ⟨a, vs, rfl, h1, _⟩ := h.tup
    rcases h1 with (h1 | ⟨o, h1⟩) | ⟨o, its, n, h1, h2, _⟩
    · exact .base (.tup h1)
    · exact .fTuple h1
    · exact .kTuple h1 h2
  | list ds => obtain ⟨a, vs, rfl, h1, _⟩ := h.lst; exact .base (.lst h1)
  | dict ps =>
    obtain ⟨a, kvs, rfl, h1, _⟩ := h.dct
    rcases h1 with h1 | ⟨o, h1⟩
    · exact .base (.dK h1)
    · exact .fDict h1
theorem qe_isi {T : Ty} {e : Expr} {f : E} {nt : Str} {p pt pos : Pos} (hT : nt = PySem.Str.ofString T.nm) (hg : Gl X "isinstance") (hm : X.mg "isinstance" = none) (hgt : Gl X nt) (hmt : X.mg nt = none) (hvt : bootBuiltins nt = some (.type T.nm)) (he : QE X W e f)
    (hn : nt ≠ "__name__" := by decide) (hdb : (nt == ("__debug__" : Str)) = false := by decide)
    (hs1 : starEach (e :: [.Name nt pt]) X.env = (false, eval e X.env) :: starEach [.Name nt pt] X.env := by rfl) (hpl : (backTo pos (starEach [.Name nt pt] X.env)).any (·.1) = false := by rfl)
    (hs2 : starEach (.Name nt pt :: []) X.env = (false, eval (.Name nt pt) X.env) :: starEach [] X.env := by rfl) : QE X W (.Call (.Name "isinstance" p) [e, .Name nt pt] [] pos) (eIsi T f) := by
  refine PE.weak (pe_callB call_isi hg hm (by decide +kernel) (pa_cons he (pa_cons (pe_bltn (v := .ty T.nm) hgt hmt hvt rfl hn hdb) pa_nil hs2) hs1) (by decide) (by decide) hs1 hpl) fun σ H Q h => ?_
  obtain ⟨δ, s, w, O, rfl, r, h⟩ := h
  refine wpE.intro r ((Post.bind0 h).mono fun r1 s1 w1 n1 rel1 p1 x rr1 => ?_)
  obtain ⟨p, z, h1, h2, h3⟩ := giv1 p1 n1 rel1 rr1
  cases h2
  exact ⟨x, .ty T.nm, _, _, _, rfl, .ty _, h1.ty, kit_d T p, h3.v (.bool _)⟩

def opIx : PyData → PyData → Option Rv
  | .list ds, .int i => (atI ds i).map .v
  | .tuple ds, .int i => (atI ds i).map .v
  | .str z, .int i => (atI z.cps.toList i).map fun c => .v (.str ⟨#[c]⟩)
  | _, _ => none
theorem RDs.at {ds : List PyData} {vs : List V} {i : Int} {p : PyData} (r : RDs K w ds vs) (h : atI ds i = some p) : ∃ v, atI vs i = some v ∧ RD K w p v := by
  unfold atI at h ⊢
  rw [← r.length]
  cases e : ixN ds.length i with
  | none => rw [e] at h; cases h
  | some j =>
    rw [e] at h
    exact r.get h
theorem strOk_sub {x y : Str} (h : PySem.PyData.strOk x = true) (k : ∀ c ∈ y.cps.toList, c ∈ x.cps.toList) : PySem.PyData.strOk y = true := by
  unfold PySem.PyData.strOk at h ⊢
  rw [Array.all_eq_true'] at h ⊢
  exact fun c hc => h c (by simpa using k c (by simpa using hc))
theorem atI_mem {α : Type} {xs : List α} {i : Int} {c : α} (h : atI xs i = some c) : c ∈ xs := by
  unfold atI at h
  cases e : ixN xs.length i with
  | none => rw [e] at h; cases h
  | some j => rw [e] at h; exact List.mem_of_getElem? h
theorem IxR.weak {r r' : R2} (h : IxR X r) (k : ∀ x y H Q, r' x y H Q → r x y H Q) : IxR X r' := fun a b pins s σ H x y v u Q I rx ry q => h a b pins s σ H x y v u Q I rx ry (k x y H Q q)
theorem ok_ix : IxR X (rF X.K X.mg opIx) := by
  refine IxR.weak ix_seq fun x y H Q h => ?_
  obtain ⟨w, p, q, z, s, rfl, st, hx, hy, e, g⟩ := h
  unfold opIx at e
  split at e
  · obtain ⟨a, vs, rfl, h1, l1, r1⟩ := hx.lst
    cases hy.int
    obtain ⟨p, hp, rfl⟩ := Option.map_eq_some_iff.mp e
    obtain ⟨v, h3, h4⟩ := r1.at hp
    exact .inl ⟨a, vs, _, v, rfl, rfl, .of h1, h3, g.v h4⟩
  · obtain ⟨a, vs, rfl, h1, l1, r1⟩ := hx.tup
    cases hy.int
    obtain ⟨p, hp, rfl⟩ := Option.map_eq_some_iff.mp e
    obtain ⟨v, h3, h4⟩ := r1.at hp
    exact .inr (.inl ⟨a, vs, _, v, rfl, rfl, h1, h3, g.v h4⟩)
  · obtain ⟨rfl, l1, o1⟩ := hx.str
    cases hy.int
    obtain ⟨c, hc, rfl⟩ := Option.map_eq_some_iff.mp e
    refine .inr (.inr ⟨_, _, c, rfl, rfl, l1, hc, g.v (.str _ (by rw [lim_eq]; show 1 ≤ lim; decide) (strOk_sub o1 fun d hd => ?_))⟩)
    have hd : d ∈ [c] := hd
    rw [List.mem_singleton.mp hd]
    exact atI_mem hc
  · cases e
def eIx (a b : E) : E := eBin opIx a b
theorem qe_ix {a b : Expr} {fa fb : E} {pos : Pos} (ha : QE X W a fa) (hb : QE X W b fb) (hs : PlainIx b := by exact fun _ _ => rfl) : QE X W (.Subscript a b pos) (eIx fa fb) := by
  refine PE.weak (pe_ix ok_ix ha hb hs) fun σ H Q h => ?_
  obtain ⟨δ, s, w, O, rfl, r, h⟩ := h
  refine two r h fun r1 r2 s2 w2 x y n rel rr1 rr2 h2 => ?_
  obtain ⟨p, q, z, h3, h4, h5, h6⟩ := giv2 h2 n rel rr1 rr2
  exact ⟨w2, p, q, z, s2, rfl, rel.st, h3, h4, h5, h6⟩

def cutD {α : Type} (xs : List α) (lo hi : Option Int) : List α := (xs.drop (HT.sIx xs.length 0 lo)).take (HT.sIx xs.length xs.length hi - HT.sIx xs.length 0 lo)
abbrev PL := List Sl → Sto → Out (Option Int)
def oNone : PL := fun _ s => .ok none s
def oSome (a : E) : PL := fun δ s => (a δ s).bind fun r s1 => match r with
  | .v (.int i) => .ok (some i) s1
  | _ => .bad
def wpO (K : PySem.W.Frag) (mg : Str → Option Value) (W : WX) (f : PL) : TO := fun σ H Q => ∃ δ s w O, w.H = H ∧ Rel K mg w O σ δ s ∧ Post K mg W w O σ δ (f δ s) fun o _ w' => Q o w'.H
def QO (X : Cx) (W : WX) (e : Option Expr) (f : PL) : Prop := PO X e (wpO X.K X.mg W f)
theorem PO.weak {e : Option Expr} {t t' : TO} (h : PO X e t) (k : ∀ σ H Q, t' σ H Q → t σ H Q) : PO X e t' := ⟨fun pins s σ H Q I q => h.run pins s σ H Q I (k σ H Q q)⟩
theorem qo_none : QO X W none oNone := by
  refine PO.weak po_none fun σ H Q h => ?_
  obtain ⟨δ, s, w, O, rfl, r, h⟩ := h
  exact Post.at h Nx.refl r
theorem qo_some {e : Expr} {f : E} (he : QE X W e f) : QO X W (some e) (oSome f) := by
  refine PO.weak (po_some he) fun σ H Q h => ?_
  obtain ⟨δ, s, w, O, rfl, r, h⟩ := h
  refine wpE.intro r ((Post.bind0 h).mono fun r1 s1 w1 n1 rel1 p1 x rr1 => ?_)
  split at p1
  · rename_i i
    have rr1 : RD X.K w1 (.int i) x := rr1
    cases rr1
    exact ⟨i, rfl, Post.at p1 n1 rel1⟩
  · exact p1.elim
def opSl (p : PyData) (lo hi : Option Int) : Option Rv := match p with
  | .list ds => some (.fr (.list (cutD ds lo hi)))
  | .tuple ds => some (.v (.tuple (cutD ds lo hi)))
  | .str z => some (.v (.str (cutS z lo hi)))
  | _ => none
def rSl3 (K : PySem.W.Frag) (mg : Str → Option Value) : V → Option Int → Option Int → Hp → VK → Prop := fun x lo hi H Q => ∃ w p z s, w.H = H ∧ RelS K mg w s ∧ RB K w p x ∧ opSl p lo hi = some z ∧ Giv K mg w Q z
theorem SlR.weak {r r' : V → Option Int → Option Int → Hp → VK → Prop} (h : SlR X r) (k : ∀ x lo hi H Q, r' x lo hi H Q → r x lo hi H Q) : SlR X r' := fun pins s σ H x v vl vu lo hi sl Q I rx h1 h2 h3 q => h pins s σ H x v vl vu lo hi sl Q I rx h1 h2 h3 (k x lo hi H Q q)
theorem RDs.drop : ∀ {ps : List PyData} {vs : List V} (n : Nat), RDs K w ps vs → RDs K w (ps.drop n) (vs.drop n)
  | _, _, 0, r => r
  | _, _, _ + 1, .nil => .nil
  | _, _, n + 1, .cons _ t => RDs.drop n t
theorem RDs.take : ∀ {ps : List PyData} {vs : List V} (n : Nat), RDs K w ps vs → RDs K w (ps.take n) (vs.take n)
  | _, _, 0, _ => .nil
  | _, _, _ + 1, .nil => .nil
  | _, _, n + 1, .cons r t => .cons r (RDs.take n t)
theorem RDs.cut {ps : List PyData} {vs : List V} (lo hi : Option Int) (r : RDs K w ps vs) : RDs K w (cutD ps lo hi) (cutV vs lo hi) := by
  unfold cutD cutV
  rw [r.length]
  exact (r.drop _).take _
theorem cut_le (vs : List V) (lo hi : Option Int) : (cutV vs lo hi).length ≤ vs.length := by
  unfold cutV
  rw [List.length_take, List.length_drop]; omega
theorem ok_sl : SlR X (rSl3 X.K X.mg) := by
  refine SlR.weak ((sl_list.or sl_tupA).or sl_str) fun x lo hi H Q h => ?_
  obtain ⟨w, p, z, s, rfl, st, hx, e, g⟩ := h
  unfold opSl at e
  split at e
  · cases e
    obtain ⟨a, vs, rfl, h1, l1, r1⟩ := hx.lst
    exact .inl (.inl ⟨a, vs, rfl, .of h1, fun p hp => g.lst st (r1.cut lo hi) (Nat.le_trans (cut_le _ _ _) l1) hp⟩)
  · cases e
    obtain ⟨a, vs, rfl, h1, l1, r1⟩ := hx.tup
    refine .inl (.inr ⟨a, vs, rfl, h1, fun hw => ?_, fun _ p hp => g.tup st (r1.cut lo hi) (Nat.le_trans (cut_le _ _ _) l1) hp⟩)
    rename_i ds
    have e : cutD ds lo hi = ds := by
      unfold cutD
      rw [r1.length, hw.1, hw.2]
      simp [← r1.length]
    rw [e] at g
    rcases hx with hx | ⟨_, _, hx⟩
    · exact g.v hx
    · exact hx.elim
  · cases e
    obtain ⟨rfl, l1, o1⟩ := hx.str
    refine .inr ⟨_, rfl, l1, g.v (.str _ ?_ (strOk_sub o1 fun c hc => ?_))⟩
    · refine Nat.le_trans ?_ l1
      show (List.toArray _).size ≤ _
      rw [List.size_toArray, List.length_take, List.length_drop]
      show _ ≤ Array.size _
      rw [← Array.length_toList]; omega
    · unfold cutS at hc
      simp only [List.toList_toArray] at hc
      exact List.mem_of_mem_drop (List.mem_of_mem_take hc)
  · cases e
def eSl (a : E) (lo hi : PL) : E := fun δ s => (a δ s).bind fun r s1 => (lo δ s1).bind fun l s2 => (hi δ s2).bind fun h s3 => fin1 (fun p => opSl p l h) r s3
theorem wpO.intro {f : PL} {Q : Option Int → Hp → Prop} (r : Rel K mg w O σ δ s) (h : Post K mg W w O σ δ (f δ s) fun o _ w' => Q o w'.H) : wpO K mg W f σ w.H Q := ⟨δ, s, w, O, rfl, r, h⟩
theorem qe_slice {e : Expr} {lo hi : Option Expr} {f : E} {fl fh : PL} {p2 pos : Pos} (he : QE X W e f) (hl : QO X W lo fl) (hh : QO X W hi fh) : QE X W (.Subscript e (.Slice lo hi none p2) pos) (eSl f fl fh) := by
  refine PE.weak (pe_slice ok_sl he hl hh) fun σ H Q h => ?_
  obtain ⟨δ, s, w, O, rfl, r, h⟩ := h
  refine wpE.intro r ((Post.bind0 h).mono fun r1 s1 w1 n1 rel1 p1 x rr1 => ?_)
  refine wpO.intro rel1 ((Post.bind n1 p1).mono fun l s2 w2 n2 rel2 p2 => ?_)
  refine wpO.intro rel2 ((Post.bind (n1.trans n2) p2).mono fun u s3 w3 n3 rel3 p3 => ?_)
  obtain ⟨p, z, h1, h2, h3⟩ := giv1 p3 ((n1.trans n2).trans n3) rel3 (rr1.on (n2.trans n3) rel1.st.mN)
  exact ⟨w3, p, z, s3, rfl, rel3.st, h1, h2, h3⟩
end
end Lay
namespace Lay
open PySem PySem.Spec PyProof.Rows
section
variable {prog : Program} {w : World} {A : Around} {E : Value → Shared → Prop} {s : Shared}
/-- the items of a tuple, gathered -/
theorem collectT {t : Addr} {us : List Value} {Q : List Value → Shared → Prop} (ht : s.heap.IsTuple t us.toArray) (hz : us.length ≤ sizeLine)
    (q : Q us { s with heap := (s.heap.push (seqObj "list" #[] 0)).update s.heap.objs.size (Obj.mapSeq (· ++ us.toArray)) }) : wpAny (model prog w) A (collect (.ref t)) Q E s := by
  obtain ⟨ob, g1, g2, k, g3⟩ := id ht
  have g4 : (s.heap.push (seqObj "list" #[] 0)).get? t = some ob := Heap.get?_push_of_some _ g1
  have g5 : (s.heap.push (seqObj "list" #[] 0)).get? s.heap.objs.size = some (seqObj "list" #[] 0) := Heap.get?_push_size _ rfl
  unfold collect
  refine wpAny_bind (wpAny_runValue (codeAny_builtin entry_proto_collect' (wpAny_bind (wpAny_newList (wpAny_pure ⟨Code.quiet_builtin _ (by decide +kernel), codeAny_builtin entry_list_iadd' ?_⟩)))))
  show wpAny _ _ (Builtin.List.listExtendWith (.ref s.heap.objs.size) (.ref t) (.ref s.heap.objs.size)) _ _ _
  unfold Builtin.List.listExtendWith
  refine wpAny_bind (wpAny_typeOf (T := "tuple") ⟨ob, g4, g2⟩ ?_)
  rw [if_pos (by simp)]
  refine wpAny_bind (listItems_at g4 g3 (wpAny_bind (listItems_at (xs := #[]) (n := 0) g5 rfl ?_)))
  rw [if_neg (by simp)]
  refine wpAny_bind (listUpdate_at (xs := #[]) (n := 0) g5 rfl ?_ (Nat.zero_le _) (by rw [Array.size_append, List.size_toArray]; exact Nat.le_succ_of_le (by simpa using hz)))
  refine wpAny_pure (wpAny_bind (wpAny_load (get?_update_seq g5 _) ?_))
  have e : ((#[] : Array Value) ++ us.toArray).toList = us := by simp
  show wpAny _ _ (pure ((#[] : Array Value) ++ us.toArray).toList) Q E _
  rw [e]
  exact wpAny_pure q
end
def tupC : PyData → Bool
  | .tuple (_ :: _) => true
  | _ => false
def noTN : PyData → Bool
  | .tuple _ => false
  | .none => false
  | _ => true
def sortOk (ds : List PyData) : Bool := okDs 60 ds && (ds.all fun d => ds.all fun d' => PySem.W.alike d d') && (ds.all tupC || ds.all noTN)
def leD : PyData → PyData → Bool := PySem.W.dataLe false id
def putD (a : PyData) : List PyData → List PyData
  | [] => [a]
  | b :: l => if leD a b then a :: b :: l else b :: putD a l
def sortD : List PyData → List PyData
  | [] => []
  | a :: l => putD a (sortD l)
theorem putD_mid (a : PyData) : ∀ (l1 l2 : List PyData), (∀ b ∈ l1, leD a b = false) → (∀ b ∈ l2, leD a b = true) → putD a (l1 ++ l2) = l1 ++ a :: l2
  | [], [], _, _ => rfl
  | [], c :: l2, _, h => by
    show putD a (c :: l2) = _
    rw [putD, if_pos (h c (List.mem_cons_self ..))]
    rfl
  | c :: l1, l2, h, h' => by
    show putD a (c :: (l1 ++ l2)) = _
    rw [putD, h c (List.mem_cons_self ..), if_neg Bool.false_ne_true, putD_mid a l1 l2 (fun b hb => h b (List.mem_cons_of_mem _ hb)) h']
    rfl
theorem sortD_eq : ∀ ds : List PyData, sortD ds = ds.mergeSort leD
  | [] => by rw [List.mergeSort_nil]; rfl
  | a :: l => by
    have tt := PySem.W.sortLe_total (PyProof.Rows.listOrd PyProof.Rows.itemOrd) false (fun b : PyData => PySem.W.keyToks (id b))
    have htot : ∀ x y : PyData, (leD x y || leD y x) = true := fun x y => by have := tt.total x y; simpa [leD, PySem.W.dataLe] using this
    obtain ⟨l1, l2, h1, h2, h3⟩ := List.mergeSort_cons (le := leD) tt.trans htot a l
    have hp := List.pairwise_mergeSort (le := leD) tt.trans htot (a :: l)
    rw [h1] at hp
    show putD a (sortD l) = _
    rw [sortD_eq l, h2, h1]
    refine putD_mid a l1 l2 (fun b hb => by have := h3 b hb; simpa using this) fun b hb => ?_
    exact (List.pairwise_cons.1 (List.pairwise_append.1 hp).2.1).1 b hb
theorem sortOk_of {ds : List PyData} (h : sortOk ds = true) : okDs 60 ds = true ∧ PySem.W.AllAlike (ds.map id) ∧ PySem.W.Sortable (ds.map id) := by
  simp only [sortOk, Bool.and_eq_true, Bool.or_eq_true, List.all_eq_true] at h
  obtain ⟨⟨h1, h2⟩, h3⟩ := h
  rw [List.map_id]
  refine ⟨h1, fun d hd d' hd' => h2 d hd d' hd', h3.imp (fun k d hd => ?_) fun k d hd => ?_⟩
  · have q := k d hd
    unfold tupC at q
    split at q
    · exact ⟨_, _, rfl⟩
    · cases q
  · have q := k d hd
    exact ⟨fun e => (by subst e; cases q), fun xs e => (by subst e; cases q)⟩
section
variable {prog : Program} {w : World} {A : Around} {E : Value → Shared → Prop} {s : Shared}
open PySem.W in
/-- sorted(x): x a list or a tuple at l with the items us, which read as ds -/
theorem sorted_any {l : Addr} {us : List Value} {ds : List PyData} {R : Value → PyData → Prop} {Q : Value → Shared → Prop} (hl : s.heap.IsList l us.toArray ∨ s.heap.IsTuple l us.toArray) (e : EachIs R us ds) (er : EachIs (fun v b => ∃ as, Reads s.heap v (id b) as) us ds) (ok : sortOk ds = true) (hL : ds.length ≤ sizeLine)
    (hu : ∀ b, b ∈ ds → A.units + 2 + b.depth < cLine) (h : ∀ out, out.length = ds.length → EachIs R out (sortD ds) → Q (.ref (s.heap.objs.size + 1)) { s with heap := sortedAll s.heap us (List.toArray out) }) :
    wpAny (model prog w) A (call (.builtin "sorted") [.ref l]) Q E s := by
  rw [sortD_eq] at h
  obtain ⟨_, hal, hk⟩ := sortOk_of ok
  rcases hl with hl | hl
  · exact sorted_data hl e er hal hk hL hu h
  · have lv : us.length ≤ sizeLine := by rw [e.length]; exact hL
    have er' : EachIs (fun v b => ∃ as, Reads (sortingHeap (copyHeap s.heap us) (s.heap.objs.size + 1) us) v (id b) as) us ds := er.mono fun _ _ ⟨as, r⟩ => ⟨as, Reads.keeps (fun _ _ => sorting_copy_old) r⟩
    have srt : SortsAt prog w A.in1.in1 { s with heap := sortingHeap (copyHeap s.heap us) (s.heap.objs.size + 1) us } _ us :=
      SortsAt.data (s := { s with heap := sortingHeap (copyHeap s.heap us) (s.heap.objs.size + 1) us }) (each_map (R := fun v d => ∃ as, Reads (sortingHeap (copyHeap s.heap us) (s.heap.objs.size + 1) us) v d as) id er') hal hk (bound_map hu)
    have q := h _ (by rw [sortVals_length false rfl]; exact e.length) (sortVals_data false e er' hal)
    refine call_function_entry_kw kind_sorted plain_sorted entry_sorted (args_sorted1 _) ?_
    unfold Builtin.«sorted»
    refine wpAny_bind (m := checkCount "sorted" 1 1 _) (wpAny_pure (wpAny_bind (collectT hl lv (wpAny_bind (wpAny_newList ?_ lv)))))
    have sz : ((s.heap.push (seqObj "list" #[] 0)).update s.heap.objs.size (Obj.mapSeq (· ++ us.toArray))).objs.size = s.heap.objs.size + 1 := by
      rw [Heap.size_update, size_push']
    rw [sz]
    show wpAny _ _ _ _ _ { s with heap := copyHeap s.heap us }
    refine wpAny_bind (wpAny_holding (wpAny_call_entry_kw slot_list_sort ⟨_, copyHeap_at s.heap us, rfl⟩ entry_list_sort ?b (args_list_sort _)))
    case b =>
      refine wpAny_mono (list_sort_vals (P := fun f s' => f = .done (.ret .none) ∧ Q (.ref (s.heap.objs.size + 1)) s') (s := { s with heap := copyHeap s.heap us }) (copyHeap_at s.heap us) srt lv ⟨rfl, q⟩) (fun f s' hf => ?_) fun _ _ z => z
      obtain ⟨rfl, q'⟩ := hf
      exact ⟨_, rfl, wpAny_pure ⟨_, rfl, q'⟩⟩
end
end Lay
namespace Lay
open PySem PySem.Spec PyProof.Rows L2
section
variable {X : Cx} {W : WX} {K : PySem.W.Frag} {mg : Str → Option Value} {w w' w'' w0 : Wd} {s s' : Sto} {O : Nat → Addr} {σ : L2.St} {δ : List Sl}
def fSorted : List PyData → Option Rv
  | [.list ds] => if sortOk ds then some (.fr (.list (sortD ds))) else none
  | [.tuple ds] => if sortOk ds then some (.fr (.list (sortD ds))) else none
  | _ => none
/-- items and what they read as -/
theorem each_reads {pins : List (Addr × Obj)} {sh : Shared} (I : Inv X pins σ w.H sh) : ∀ {ds : List PyData} {vs : List V} {us : List Value}, okDs 60 ds = true → RDs X.K w ds vs → Vals vs us →
    PySem.W.EachIs (fun u d => ∃ v, RelV v u ∧ RD X.K w d v) us ds ∧ PySem.W.EachIs (fun u d => ∃ as, Reads sh.heap u (id d) as) us ds
  | _, _, _, _, .nil, .nil => ⟨.nil, .nil⟩
  | _, _, _, h, .cons r t, .cons q u => by
    simp only [okDs, Bool.and_eq_true] at h
    obtain ⟨h1, h2⟩ := each_reads I h.2 t u
    obtain ⟨as, h3⟩ := Dp.reads I _ _ _ (RD.toDp 60 _ _ h.1 r).1 q
    exact ⟨.cons ⟨_, q, r⟩ h1, .cons ⟨as, h3⟩ h2⟩
theorem each_back {ds : List PyData} {us : List Value} (h : PySem.W.EachIs (fun u d => ∃ v, RelV v u ∧ RD K w d v) us ds) : ∃ vs, Vals vs us ∧ RDs K w ds vs := by
  induction h with
  | nil => exact ⟨[], .nil, .nil⟩
  | cons a b ih =>
    obtain ⟨v, h1, h2⟩ := a
    obtain ⟨vs, h3, h4⟩ := ih
    exact ⟨v :: vs, .cons h1 h3, .cons h2 h4⟩
theorem depth_le {n : Nat} : ∀ {ds : List PyData}, PyData.depthAll ds ≤ n → ∀ d ∈ ds, d.depth ≤ n
  | [], _, d, h => by simp at h
  | x :: xs, h, d, hd => by
    simp only [PyData.depthAll] at h
    rcases List.mem_cons.mp hd with rfl | hd
    · omega
    · exact depth_le (ds := xs) (by omega) d hd
theorem ok_sorted (hu : X.A.units + 64 < cLine) : CalOk X (.builtin "sorted") fSorted := by
  intro pins s σ H xs us Q I r h
  obtain ⟨w, ps, z, st0, rfl, st, hx, e, g⟩ := h
  have core : ∀ (a : Addr) (ds : List PyData) (vs : List V) (its : List Value), xs = [.ref a] → (s.heap.IsList a its.toArray ∨ s.heap.IsTuple a its.toArray) → Vals vs its → RDs X.K w ds vs → vs.length ≤ sizeLine → sortOk ds = true → z = .fr (.list (sortD ds)) →
      wpAny (model X.prog X.w) X.A (call (.builtin "sorted") us) (EP X pins σ Q) X.xe s := by
    intro a ds vs its ex hl rv rd hz ok ez
    subst ex ez
    rw [Vals.ref1 r]
    have ok1 := (sortOk_of ok).1
    obtain ⟨e1, e2⟩ := each_reads I ok1 rd rv
    have dl := (RDs.toDp 60 ds vs ok1 rd).2.2
    have ln := rd.length
    refine sorted_any hl e1 e2 ok (by rw [ln]; exact hz) (fun b hb => by have := depth_le dl b hb; omega) fun out lo eo => ?_
    obtain ⟨vs', h1, h2⟩ := each_back eo
    obtain ⟨ep, he⟩ := sortedAll_at s.heap its out.toArray
    have lv : vs'.length ≤ sizeLine := by rw [h1.length, lo, ln]; exact hz
    refine ⟨.ref _, upd w.H (s.heap.objs.size + 1) (.lst vs'), I.laid (t' := s.toks) (fun _ _ => sortedAll_old) (Nat.le_succ _) ⟨lv, out, ep, h1, he⟩, rfl, ?_⟩
    exact g.lst st h2 lv (I.hok.fresh (Nat.le_succ _))
  unfold fSorted at e
  split at e
  · split at e
    · rename_i ds ok
      cases e
      cases hx with
      | cons h1 h2 =>
        cases h2
        obtain ⟨a, vs, rfl, h3, h4, h5⟩ := h1.lst
        obtain ⟨its, rv, pl, hz⟩ := I.list (.of h3)
        exact core a ds vs its rfl (.inl pl.isList) rv h5 h4 ok rfl
    · cases e
  · split at e
    · rename_i ds ok
      cases e
      cases hx with
      | cons h1 h2 =>
        cases h2
        obtain ⟨a, vs, rfl, h3, h4, h5⟩ := h1.tup
        obtain ⟨its, rv, pl, hz⟩ := I.tuple h3
        obtain ⟨ot, ho, hc, n, hd⟩ := pl
        exact core a ds vs its rfl (.inr ⟨ot, ho, hc, n, hd⟩) rv h5 h4 ok rfl
    · cases e
  · cases e

def fLen : List PyData → Option Rv
  | [.list ds] => some (.v (.int ds.length))
  | [.tuple ds] => some (.v (.int ds.length))
  | [.str x] => some (.v (.int x.length))
  | [.dict ps] => some (.v (.int ps.length))
  | _ => none
def fAbs : List PyData → Option Rv
  | [.int i] => some (.v (.int (if i < 0 then -i else i)))
  | _ => none
def fInt : List PyData → Option Rv
  | [.int i] => some (.v (.int i))
  | [.bool b] => some (.v (.int (if b then 1 else 0)))
  | _ => none
def fStr : List PyData → Option Rv
  | [.int i] => if i.natAbs.log2 < 1920 ∧ strFit (toString i) = true then some (.v (.str (toString i))) else none
  | [.str x] => some (.v (.str x))
  | _ => none
def fTuple : List PyData → Option Rv
  | [.list ds] => some (.v (.tuple ds))
  | [.tuple ds] => some (.v (.tuple ds))
  | _ => none
/-- the signs of a text -/
def signs (x : Str) : List PyData := x.cps.toList.map fun c => .str ⟨#[c]⟩
def fList : List PyData → Option Rv
  | [.list ds] => some (.fr (.list ds))
  | [.tuple ds] => some (.fr (.list ds))
  | [.str x] => some (.fr (.list (signs x)))
  | _ => none
def allB : List PyData → Option (List Bool)
  | [] => some []
  | .bool b :: ds => (allB ds).map (b :: ·)
  | _ => none
def fAll : List PyData → Option Rv
  | [.list ds] => (allB ds).map fun bs => vB (bs.all id)
  | _ => none
def fAny : List PyData → Option Rv
  | [.list ds] => (allB ds).map fun bs => vB (bs.any id)
  | _ => none
def allI : List PyData → Option (List Int)
  | [] => some []
  | .int i :: ds => (allI ds).map (i :: ·)
  | _ => none
def fSum : List PyData → Option Rv
  | [.list ds] => (allI ds).map fun ns => .v (.int ns.sum)
  | _ => none
def fMax : List PyData → Option Rv
  | [.int i, .int j] => some (.v (.int (if j > i then j else i)))
  | [.list ds] => (allI ds).bind fun ns => match ns with
    | [] => none
    | n :: ns => some (.v (.int (ns.foldl max n)))
  | _ => none
def fMin : List PyData → Option Rv
  | [.int i, .int j] => some (.v (.int (if j < i then j else i)))
  | [.list ds] => (allI ds).bind fun ns => match ns with
    | [] => none
    | n :: ns => some (.v (.int (ns.foldl min n)))
  | _ => none
theorem RBs.one {p : PyData} {xs : List V} (h : RBs K w [p] xs) : ∃ x, xs = [x] ∧ RB K w p x := by
  cases h with
  | cons h1 h2 => cases h2; exact ⟨_, rfl, h1⟩
theorem RBs.two {p q : PyData} {xs : List V} (h : RBs K w [p, q] xs) : ∃ x y, xs = [x, y] ∧ RB K w p x ∧ RB K w q y := by
  cases h with
  | cons h1 h2 =>
    obtain ⟨y, rfl, h3⟩ := h2.one
    exact ⟨_, y, rfl, h1, h3⟩
theorem call_lenRd : CallR X (.builtin "len") (fun xs H Q => ∃ a kvs, xs = [V.ref a] ∧ Rd H a (.dK kvs) ∧ Q (.int kvs.length) H) := by
  intro pins s σ H xs us Q I r h
  obtain ⟨a, kvs, rfl, ha, q⟩ := h
  rw [Vals.ref1 r]
  exact d_len I ha fun t s' I' => ⟨.int kvs.length, H, I', ⟨t, rfl⟩, q⟩
theorem RDk.length : ∀ {ps : List (PyData × PyData)} {kvs : List (Key × V)}, RDk K w ps kvs → ps.length = kvs.length
  | _, _, .nil => rfl
  | _, _, .cons _ _ t => by simp [RDk.length t]
theorem ok_len : CalOk X (.builtin "len") fLen := by
  refine CallR.weak (CallR.or (CallR.or call_len_seq call_len_str) call_lenRd) fun xs H Q h => ?_
  obtain ⟨w, ps, z, st0, rfl, st, hx, e, g⟩ := h
  unfold fLen at e
  split at e
  · cases e
    obtain ⟨x, rfl, h1⟩ := hx.one
    obtain ⟨a, vs, rfl, h3, h4, h5⟩ := h1.lst
    refine .inl (.inl ⟨a, vs, rfl, .inl (.of h3), ?_⟩)
    rw [← h5.length]; exact g.v (.int _)
  · cases e
    obtain ⟨x, rfl, h1⟩ := hx.one
    obtain ⟨a, vs, rfl, h3, h4, h5⟩ := h1.tup
    refine .inl (.inl ⟨a, vs, rfl, .inr h3, ?_⟩)
    rw [← h5.length]; exact g.v (.int _)
  · cases e
    obtain ⟨x, rfl, h1⟩ := hx.one
    obtain ⟨rfl, h3, h4⟩ := h1.str
    exact .inl (.inr ⟨_, rfl, h3, g.v (.int _)⟩)
  · cases e
    obtain ⟨x, rfl, h1⟩ := hx.one
    obtain ⟨a, kvs, rfl, h3, h4, h5⟩ := h1.dct
    refine .inr ⟨a, kvs, rfl, h3, ?_⟩
    rw [← h5.length]; exact g.v (.int _)
  · cases e
theorem ok_abs : CalOk X (.builtin "abs") fAbs := by
  refine CallR.weak call_abs fun xs H Q h => ?_
  obtain ⟨w, ps, z, st0, rfl, st, hx, e, g⟩ := h
  unfold fAbs at e
  split at e
  · cases e
    obtain ⟨x, rfl, h1⟩ := hx.one
    cases h1.int
    exact ⟨_, rfl, g.v (.int _)⟩
  · cases e
theorem ok_int : CalOk X (.type "int") fInt := by
  refine CallR.weak call_int1 fun xs H Q h => ?_
  obtain ⟨w, ps, z, st0, rfl, st, hx, e, g⟩ := h
  unfold fInt at e
  split at e
  · cases e
    obtain ⟨x, rfl, h1⟩ := hx.one
    cases h1.int
    exact .inl ⟨_, rfl, g.v (.int _)⟩
  · cases e
    obtain ⟨x, rfl, h1⟩ := hx.one
    cases h1.bool
    exact .inr ⟨_, rfl, g.v (.int _)⟩
  · cases e
theorem ok_str : CalOk X (.type "str") fStr := by
  refine CallR.weak (CallR.or call_str_int SkE.call_str_str) fun xs H Q h => ?_
  obtain ⟨w, ps, z, st0, rfl, st, hx, e, g⟩ := h
  unfold fStr at e
  split at e
  · split at e
    · rename_i hl
      cases e
      obtain ⟨x, rfl, h1⟩ := hx.one
      cases h1.int
      have hf := hl.2
      simp only [strFit, Bool.and_eq_true, decide_eq_true_eq] at hf
      exact .inl ⟨_, rfl, hl.1, g.v (.str _ (by rw [lim_eq]; exact hf.1) hf.2)⟩
    · cases e
  · cases e
    obtain ⟨x, rfl, h1⟩ := hx.one
    obtain ⟨rfl, h3, h4⟩ := h1.str
    exact .inr ⟨_, rfl, g.v (.str _ h3 h4)⟩
  · cases e
theorem ok_tuple : CalOk X (.type "tuple") fTuple := by
  refine CallR.weak call_tuple_of fun xs H Q h => ?_
  obtain ⟨w, ps, z, st0, rfl, st, hx, e, g⟩ := h
  unfold fTuple at e
  split at e
  · cases e
    obtain ⟨x, rfl, h1⟩ := hx.one
    obtain ⟨a, vs, rfl, h3, h4, h5⟩ := h1.lst
    exact ⟨a, vs, rfl, .inl ⟨.of h3, fun l hl => g.tup st h5 h4 hl⟩⟩
  · cases e
    obtain ⟨x, rfl, h1⟩ := hx.one
    obtain ⟨a, vs, rfl, h3, h4, h5⟩ := h1.tup
    refine ⟨a, vs, rfl, .inr ⟨h3, ?_⟩⟩
    rcases h1 with h1 | ⟨_, _, h1⟩
    · exact g.v h1
    · exact h1.elim
  · cases e
theorem signs_rd {x : Str} (h : PySem.PyData.strOk x = true) : ∀ l : List Nat, (∀ c ∈ l, c ∈ x.cps.toList) → RDs K w (l.map fun c => .str ⟨#[c]⟩) (l.map fun c => V.str ⟨#[c]⟩)
  | [], _ => .nil
  | c :: l, k => by
    refine .cons (.str _ (by rw [lim_eq]; show 1 ≤ lim; decide) (strOk_sub h fun d hd => ?_)) (signs_rd h l fun d hd => k d (List.mem_cons_of_mem _ hd))
    have hd : d ∈ [c] := hd
    rw [List.mem_singleton.mp hd]
    exact k c List.mem_cons_self
theorem call_list_signs (hc : X.calm = true) : CallR X (.type "list") (fun xs H Q => ∃ x : Str, xs = [.str x] ∧ x.length ≤ sizeLine ∧ ∀ l, H l = none → Q (.ref l) (upd H l (.lst (x.cps.toList.map fun c => V.str ⟨#[c]⟩)))) := by
  intro pins s σ H xs us Q I r h
  obtain ⟨x, rfl, hz, q⟩ := h
  obtain ⟨u, rfl, t, rfl⟩ := vals1 r
  refine PySem.call_list_str (I.ok.hd hc) x t (fun h' tk acc c kp e items => ?_) hz
  refine ⟨.ref s.heap.objs.size, upd H s.heap.objs.size (.lst (x.cps.toList.map fun c => V.str ⟨#[c]⟩)), I.laid kp (Nat.le_refl _) ⟨by rw [List.length_map]; exact hz, acc.toList, c, ?_, by simpa using e⟩, rfl, q _ (I.hok.fresh (Nat.le_refl _))⟩
  have ez := items.1
  refine vals_of_at (by rw [List.length_map, Array.length_toList, Array.length_toList, ez]) fun j v u h1 h2 => ?_
  obtain ⟨d, t', h3, rfl⟩ := items.2 j u (by rw [← Array.getElem?_toList]; exact h2)
  rw [List.getElem?_map, Array.getElem?_toList, h3] at h1
  cases h1
  exact ⟨t', rfl⟩
theorem ok_list (hc : X.calm = true) : CalOk X (.type "list") fList := by
  refine CallR.weak (CallR.or call_list_of (call_list_signs hc)) fun xs H Q h => ?_
  obtain ⟨w, ps, z, st0, rfl, st, hx, e, g⟩ := h
  unfold fList at e
  split at e
  · cases e
    obtain ⟨x, rfl, h1⟩ := hx.one
    obtain ⟨a, vs, rfl, h3, h4, h5⟩ := h1.lst
    exact .inl ⟨a, vs, rfl, .inl (.of h3), fun l hl => g.lst st h5 h4 hl⟩
  · cases e
    obtain ⟨x, rfl, h1⟩ := hx.one
    obtain ⟨a, vs, rfl, h3, h4, h5⟩ := h1.tup
    exact .inl ⟨a, vs, rfl, .inr h3, fun l hl => g.lst st h5 h4 hl⟩
  · cases e
    obtain ⟨x, rfl, h1⟩ := hx.one
    obtain ⟨rfl, h3, h4⟩ := h1.str
    exact .inr ⟨_, rfl, h3, fun l hl => g.lst st (signs_rd h4 _ fun _ h => h) (by rw [List.length_map]; exact h3) hl⟩
  · cases e
theorem allB_rd : ∀ {ds : List PyData} {vs : List V} {bs : List Bool}, RDs K w ds vs → allB ds = some bs → vs = bs.map V.bl
  | _, _, _, .nil, e => by cases e; rfl
  | _, _, _, .cons r t, e => by
    cases r with
    | bool b =>
      simp only [allB, Option.map_eq_some_iff] at e
      obtain ⟨bs, h, rfl⟩ := e
      rw [allB_rd t h]; rfl
    | _ => simp [allB] at e
theorem allI_rd : ∀ {ds : List PyData} {vs : List V} {bs : List Int}, RDs K w ds vs → allI ds = some bs → vs = bs.map V.int
  | _, _, _, .nil, e => by cases e; rfl
  | _, _, _, .cons r t, e => by
    cases r with
    | int b =>
      simp only [allI, Option.map_eq_some_iff] at e
      obtain ⟨bs, h, rfl⟩ := e
      rw [allI_rd t h]; rfl
    | _ => simp [allI] at e
theorem ok_all (hc : X.calm = true) : CalOk X (.builtin "all") fAll := by
  refine CallR.weak (cr_all hc) fun xs H Q h => ?_
  obtain ⟨w, ps, z, st0, rfl, st, hx, e, g⟩ := h
  unfold fAll at e
  split at e
  · obtain ⟨bs, hb, rfl⟩ := Option.map_eq_some_iff.mp e
    obtain ⟨x, rfl, h1⟩ := hx.one
    obtain ⟨a, vs, rfl, h3, h4, h5⟩ := h1.lst
    exact ⟨a, bs, rfl, .of (by rw [h3, allB_rd h5 hb]), g.v (.bool _)⟩
  · cases e
theorem ok_any (hc : X.calm = true) : CalOk X (.builtin "any") fAny := by
  refine CallR.weak (cr_any hc) fun xs H Q h => ?_
  obtain ⟨w, ps, z, st0, rfl, st, hx, e, g⟩ := h
  unfold fAny at e
  split at e
  · obtain ⟨bs, hb, rfl⟩ := Option.map_eq_some_iff.mp e
    obtain ⟨x, rfl, h1⟩ := hx.one
    obtain ⟨a, vs, rfl, h3, h4, h5⟩ := h1.lst
    exact ⟨a, bs, rfl, .of (by rw [h3, allB_rd h5 hb]), g.v (.bool _)⟩
  · cases e
theorem ok_sum (hc : X.calm = true) : CalOk X (.builtin "sum") fSum := by
  refine CallR.weak (cr_sum hc) fun xs H Q h => ?_
  obtain ⟨w, ps, z, st0, rfl, st, hx, e, g⟩ := h
  unfold fSum at e
  split at e
  · obtain ⟨bs, hb, rfl⟩ := Option.map_eq_some_iff.mp e
    obtain ⟨x, rfl, h1⟩ := hx.one
    obtain ⟨a, vs, rfl, h3, h4, h5⟩ := h1.lst
    exact ⟨a, bs, rfl, .of (by rw [h3, allI_rd h5 hb]), g.v (.int _)⟩
  · cases e
end
end Lay
namespace Lay
open PySem PySem.Spec PyProof.Rows L2
structure RelB (K : PySem.W.Frag) (mg : Str → Option Value) (B w : Wd) (O : Nat → Addr) (σ : L2.St) (δ : List Sl) (s : Sto) : Prop where
  rel : Rel K mg w O σ δ s
  nx : Nx B w
  own : ∀ (i : Nat) p, δ[i]? = some (.own p) → B.H (O i) = none
/-- what a def hands back -/
def RV (K : PySem.W.Frag) (mg : Str → Option Value) (w : Wd) : Rv → V → Prop
  | .v p, v => RD K w p v
  | .ref l, v => ∃ a, w.μ[l]? = some a ∧ v = .ref a
  | .fn x, v => ∃ f, mg x = some (.ref f) ∧ v = .ref f
  | .scr ns, v => ∃ a o, ScrOk K w a o ns ∧ True ∧ v = .ref a
  | _, _ => False
def PostS (K : PySem.W.Frag) (mg : Str → Option Value) (W : WX) (B w : Wd) (o : Out Fl) (D : Ends) : Prop :=
  match o with
  | .ok (.nx δ) s => ∀ w' σ O, Stay w w' → RelB K mg B w' O σ δ s → D.nx σ w'.H
  | .ok (.brk δ) s => ∀ w' σ O, Stay w w' → RelB K mg B w' O σ δ s → D.bk σ w'.H
  | .ok (.ct δ) s => ∀ w' σ O, Stay w w' → RelB K mg B w' O σ δ s → D.ct σ w'.H
  | .ok (.ret r) s => ∀ w' v, Nx B w' → RelS K mg w' s → RR K mg B w' r v → D.rt v w'.H
  | .ex c fs s => ∀ C d w' σ, Nx B w' → RelS K mg w' s → mg c = some (.ref C) → XdOk K w' d fs → W (.ref C) d σ w'.H
  | .bad => False
def wpS (K : PySem.W.Frag) (mg : Str → Option Value) (W : WX) (B : Wd) (f : S) : TS := fun D σ H =>
  ∃ δ s w O, w.H = H ∧ RelB K mg B w O σ δ s ∧ PostS K mg W B w (f δ s) D
def QS (X : Cx) (W : WX) (B : Wd) (st : Stmt) (f : S) : Prop := PS X st (wpS X.K X.mg W B f)
def QSs (X : Cx) (W : WX) (B : Wd) (st : List Stmt) (f : S) : Prop := PSs X st (wpS X.K X.mg W B f)
section
variable {X : Cx} {W : WX} {K : PySem.W.Frag} {mg : Str → Option Value} {B w w' w'' w0 : Wd} {s s' : Sto} {O : Nat → Addr} {σ : L2.St} {δ : List Sl} {D : Ends}
theorem PS.weak {st : Stmt} {t t' : TS} (h : PS X st t) (k : ∀ D σ H, t' D σ H → t D σ H) : PS X st t' := ⟨fun pins s σ H D I q => h.run pins s σ H D I (k D σ H q)⟩
theorem PSs.weak {st : List Stmt} {t t' : TS} (h : PSs X st t) (k : ∀ D σ H, t' D σ H → t D σ H) : PSs X st t' := ⟨fun pins s σ H D I q => h.run pins s σ H D I (k D σ H q)⟩
theorem Stay.refl : Stay w w := fun _ _ h hn => ⟨h, hn⟩
theorem Stay.trans (a : Stay w w') (b : Stay w' w'') : Stay w w'' := fun x o h hn => let ⟨h1, h2⟩ := a x o h hn; b x o h1 h2
theorem wpS.intro {f : S} (r : RelB K mg B w O σ δ s) (h : PostS K mg W B w (f δ s) D) : wpS K mg W B f D σ w.H := ⟨δ, s, w, O, rfl, r, h⟩
theorem PostS.rebase {o : Out Fl} (h : PostS K mg W B w o D) (k : Stay w w') : PostS K mg W B w' o D := by
  cases o with
  | bad => exact h
  | ex c fs s => exact h
  | ok fl s =>
    cases fl with
    | nx δ => exact fun w1 σ O q r => h w1 σ O (k.trans q) r
    | brk δ => exact fun w1 σ O q r => h w1 σ O (k.trans q) r
    | ct δ => exact fun w1 σ O q r => h w1 σ O (k.trans q) r
    | ret r => exact h
theorem RelB.next (r : RelB K mg B w O σ δ s) (n : Nx w w') (r' : Rel K mg w' O σ δ s') : RelB K mg B w' O σ δ s' := ⟨r', r.nx.trans n, r.own⟩
/-- an expression within a statement -/
theorem exprS {f : E} {Q : VK} {k : Rv → Sto → Out Fl} (r : RelB K mg B w O σ δ s) (h : PostS K mg W B w ((f δ s).bind k) D)
    (hq : ∀ z s' w' v, Nx w w' → Stay w w' → RelB K mg B w' O σ δ s' → RR K mg w w' z v → PostS K mg W B w (k z s') D → Q v w'.H) : wpE K mg W f σ w.H Q := by
  refine wpE.intro r.rel ?_
  cases e : f δ s with
  | bad => rw [e] at h; exact h
  | ex c fs s1 => rw [e] at h; exact fun C d w1 n r1 e1 x => h C d w1 σ (r.nx.trans n) r1.st e1 x
  | ok z s1 => rw [e] at h; exact fun w1 n r1 v rr => hq z s1 w1 v n (n.stay r.rel.st.mN) (r.next n r1) rr h
theorem testS {f : T} {Q : Bool → Hp → Prop} {k : Bool → Sto → Out Fl} (r : RelB K mg B w O σ δ s) (h : PostS K mg W B w ((f δ s).bind k) D)
    (hq : ∀ z s' w', Nx w w' → Stay w w' → RelB K mg B w' O σ δ s' → PostS K mg W B w (k z s') D → Q z w'.H) : wpT K mg W f σ w.H Q := by
  refine wpT.intro r.rel ?_
  cases e : f δ s with
  | bad => rw [e] at h; exact h
  | ex c fs s1 => rw [e] at h; exact fun C d w1 n r1 e1 x => h C d w1 σ (r.nx.trans n) r1.st e1 x
  | ok z s1 => rw [e] at h; exact fun w1 n r1 => hq z s1 w1 n (n.stay r.rel.st.mN) (r.next n r1) h
def sNext : S := fun δ s => .ok (.nx δ) s
def sSeq (f g : S) : S := fun δ s => (f δ s).bind fun fl s1 => match fl with
  | .nx δ1 => g δ1 s1
  | fl => .ok fl s1
theorem qss_nil : QSs X W B [] sNext := by
  refine PSs.weak pss_nil fun D σ H h => ?_
  obtain ⟨δ, s, w, O, rfl, r, h⟩ := h
  exact h w σ O .refl r
theorem qss_cons {st : Stmt} {rest : List Stmt} {f g : S} (h1 : QS X W B st f) (h2 : QSs X W B rest g) : QSs X W B (st :: rest) (sSeq f g) := by
  refine PSs.weak (pss_cons h1 h2) fun D σ H h => ?_
  obtain ⟨δ, s, w, O, rfl, r, h⟩ := h
  refine wpS.intro r ?_
  unfold sSeq at h
  cases e : f δ s with
  | bad => rw [e] at h; exact h
  | ex c fs s1 => rw [e] at h; exact h
  | ok fl s1 =>
    rw [e] at h
    cases fl with
    | nx δ1 => exact fun w1 σ1 O1 k r1 => wpS.intro r1 (PostS.rebase h k)
    | brk δ1 => exact h
    | ct δ1 => exact h
    | ret r1 => exact h
theorem qss_one {st : Stmt} {f : S} (h : QS X W B st f) : QSs X W B [st] f := pss_one h
theorem qs_pass {pos : Pos} : QS X W B (.Pass pos) sNext := by
  refine PS.weak ps_pass fun D σ H h => ?_
  obtain ⟨δ, s, w, O, rfl, r, h⟩ := h
  exact h w σ O .refl r
def sBreak : S := fun δ s => .ok (.brk δ) s
def sCont : S := fun δ s => .ok (.ct δ) s
theorem qs_break {pos : Pos} : QS X W B (.Break pos) sBreak := by
  refine PS.weak ps_break fun D σ H h => ?_
  obtain ⟨δ, s, w, O, rfl, r, h⟩ := h
  exact h w σ O .refl r
theorem qs_cont {pos : Pos} : QS X W B (.Continue pos) sCont := by
  refine PS.weak ps_continue fun D σ H h => ?_
  obtain ⟨δ, s, w, O, rfl, r, h⟩ := h
  exact h w σ O .refl r
def sExpr (f : E) : S := fun δ s => (f δ s).bind fun _ s1 => .ok (.nx δ) s1
theorem qs_expr {e : Expr} {f : E} {pos : Pos} (he : QE X W e f) (hs : swapsWith e none pos.line X.env = pure false := by rfl) : QS X W B (.Expr e pos) (sExpr f) := by
  refine PS.weak (ps_expr he hs) fun D σ H h => ?_
  obtain ⟨δ, s, w, O, rfl, r, h⟩ := h
  exact exprS (D := D) r h fun z s1 w1 v n k r1 rr h1 => h1 w1 σ O k r1
def sIf (c : T) (f g : S) : S := fun δ s => (c δ s).bind fun b s1 => if b then f δ s1 else g δ s1
theorem qs_if {c : Expr} {a b : List Stmt} {fc : T} {f g : S} {pos : Pos} (hc : QT X W c fc) (ha : QSs X W B a f) (hb : QSs X W B b g) : QS X W B (.If c a b pos) (sIf fc f g) := by
  refine PS.weak (ps_if hc ha hb) fun D σ H h => ?_
  obtain ⟨δ, s, w, O, rfl, r, h⟩ := h
  refine testS (D := D) r h fun z s1 w1 n k r1 h1 => ?_
  cases z with
  | true => exact iteT (wpS.intro r1 (PostS.rebase h1 k))
  | false => exact iteF (wpS.intro r1 (PostS.rebase h1 k))
/-- a new list is shared from here on -/
def shr : Rv → Option Rv
  | .v p => some (.v p)
  | .fr p => some (.v p)
  | .ref l => some (.ref l)
  | .fn x => some (.fn x)
  | .scr ns => some (.scr ns)
  | .bo _ => none
theorem RV.stay {r : Rv} {v : V} (h : RV K mg w r v) (k : Stay w w') (hm : w'.μ = w.μ) : RV K mg w' r v := by
  cases r with
  | v p => exact RD.stay k h
  | ref l => obtain ⟨a, e, rfl⟩ := h; exact ⟨a, by rw [hm]; exact e, rfl⟩
  | fn x => exact h
  | scr ns => obtain ⟨a, o, e, n, rfl⟩ := h; exact ⟨a, o, e.stay k, trivial, rfl⟩
  | fr p => exact h
  | bo p => exact h
/-- a value shared: the world where nobody owns it -/
theorem share {z z' : Rv} {v : V} (r : Rel K mg w O σ δ s) (n : Nx w w') (r' : Rel K mg w' O σ δ s') (rr : RR K mg w w' z v) (e : shr z = some z') :
    Nx w (Wd.drop w w') ∧ Rel K mg (Wd.drop w w') O σ δ s' ∧ RV K mg (Wd.drop w w') z' v := by
  refine ⟨drop_nx n, drop_rel r n r'.st, ?_⟩
  cases z with
  | v p => cases e; exact RD.stay drop_stay rr
  | fr p => cases e; exact RR.shd rr r.st rfl
  | ref l => cases e; exact rr
  | fn x => cases e; exact rr
  | scr ns => cases e; obtain ⟨a, o, e, n, rfl⟩ := rr; exact ⟨a, o, e.stay drop_stay, trivial, rfl⟩
  | bo p => cases e
def sRet (f : E) : S := fun δ s => (f δ s).bind fun z s1 => match z with
  | .bo _ => .bad
  | z => .ok (.ret z) s1
def sRetN : S := fun _ s => .ok (.ret (.v .none)) s
theorem qs_ret {e : Expr} {f : E} {pos : Pos} (he : QE X W e f) : QS X W B (.Return (some e) pos) (sRet f) := by
  refine PS.weak (ps_ret he) fun D σ H h => ?_
  obtain ⟨δ, s, w, O, rfl, r, h⟩ := h
  refine exprS (D := D) r h fun z s1 w1 v n k r1 rr h1 => ?_
  cases z with
  | bo p => exact h1.elim
  | _ => exact h1 w1 v (r.nx.trans n) r1.rel.st (rr.back r.nx)
theorem qs_retN {pos : Pos} : QS X W B (.Return none pos) sRetN := by
  refine PS.weak ps_retN fun D σ H h => ?_
  obtain ⟨δ, s, w, O, rfl, r, h⟩ := h
  exact h w .non r.nx r.rel.st .none
/-- return of a list that a slot owns -/
def sRetO (i : Nat) : S := fun δ s => match δ[i]? with
  | some (.own p) => .ok (.ret (.fr p)) s
  | _ => .bad
theorem qs_retO {i : Nat} {x : Str} {p pos : Pos} (hN : X.N[i]? = some x := by rfl) (hv : Vis X.env.scope x := by first | exact Or.inl rfl | exact Or.inr (Or.inl rfl) | exact Or.inr (Or.inr rfl)) (hd : (x == ("__debug__" : Str)) = false := by decide)
    (hcd : (x == ("__classdict__" : Str)) = false := by decide) : QS X W B (.Return (some (.Name x p)) pos) (sRetO i) := by
  refine PS.weak (ps_ret (pe_var hN hv hd hcd)) fun D σ H h => ?_
  obtain ⟨δ, s, w, O, rfl, r, h⟩ := h
  unfold sRetO at h
  cases hq : δ[i]? with
  | none => rw [hq] at h; exact h.elim
  | some q =>
    rw [hq] at h
    cases q with
    | own p =>
      obtain ⟨e, k1, k2, k3⟩ := r.rel.sl i _ hq
      exact ⟨_, e, h w (.ref (O i)) r.nx r.rel.st ⟨_, rfl, k3, k1, k2, r.own i _ hq⟩⟩
    | _ => exact h.elim
def slOf : Rv → Sl
  | .v p => .v p
  | .ref l => .ref l
  | .fn x => .fn x
  | .scr ns => .scr ns
  | .fr p => .un
  | .bo p => .un
theorem RV.sl {z : Rv} {v : V} (h : RV K mg w z v) : SlV K mg w (slOf z) v := by
  cases z <;> exact h
/-- a slot is set to what is not one's own -/
theorem Rel.set {z : Rv} {v : V} {i : Nat} (r : Rel K mg w O σ δ s) (h : RV K mg w z v) : Rel K mg w O (σ.set i (some v)) (δ.set i (slOf z)) s := by
  have no : ∀ p, slOf z ≠ .own p := fun p => by cases z <;> simp [slOf]
  refine ⟨r.st, by rw [List.length_set, List.length_set]; exact r.len, fun j q e => ?_, fun j k p q e1 e2 => ?_⟩
  · rw [List.getElem?_set] at e
    by_cases hj : i = j
    · subst hj
      rw [if_pos rfl] at e
      split at e
      · rename_i hl
        cases e
        have e2 : (σ.set i (some v))[i]? = some (some v) := by rw [List.getElem?_set_self (by rw [← r.len]; exact hl)]
        have q := h.sl
        rw [e2]
        cases hz : slOf z with
        | own p => exact absurd hz (no p)
        | un => trivial
        | v p => rw [hz] at q; exact ⟨v, rfl, q⟩
        | ref l => rw [hz] at q; exact ⟨v, rfl, q⟩
        | fn x => rw [hz] at q; exact ⟨v, rfl, q⟩
        | scr ns => rw [hz] at q; exact ⟨v, rfl, q⟩
      · cases e
    · rw [if_neg hj] at e
      rw [List.getElem?_set_ne hj]
      exact r.sl j q e
  · rw [List.getElem?_set] at e1 e2
    by_cases h1 : i = j
    · rw [if_pos h1] at e1
      split at e1
      · exact absurd (Option.some.inj e1) (no p)
      · cases e1
    · rw [if_neg h1] at e1
      by_cases h2 : i = k
      · rw [if_pos h2] at e2
        split at e2
        · exact absurd (Option.some.inj e2) (no q)
        · cases e2
      · rw [if_neg h2] at e2
        exact r.inj j k p q e1 e2
theorem RelB.set {z : Rv} {v : V} {i : Nat} (r : RelB K mg B w O σ δ s) (h : RV K mg w z v) : RelB K mg B w O (σ.set i (some v)) (δ.set i (slOf z)) s := by
  refine ⟨r.rel.set h, r.nx, fun j p e => ?_⟩
  rw [List.getElem?_set] at e
  by_cases hj : i = j
  · rw [if_pos hj] at e
    split at e
    · cases z <;> simp [slOf] at e
    · cases e
  · rw [if_neg hj] at e
    exact r.own j p e
end
end Lay
namespace Lay
open PySem PySem.Spec PyProof.Rows L2
section
variable {X : Cx} {W : WX} {K : PySem.W.Frag} {mg : Str → Option Value} {B w w' w'' w0 : Wd} {s s' : Sto} {O : Nat → Addr} {σ : L2.St} {δ δ' : List Sl} {D : Ends}
def Sl.isOwn : Sl → Bool
  | .own _ => true
  | _ => false
/-- a slot is set to what is not one's own -/
theorem Rel.setQ {q : Sl} {v : V} {i : Nat} (r : Rel K mg w O σ δ s) (no : q.isOwn = false) (h : q = .un ∨ SlV K mg w q v) : Rel K mg w O (σ.set i (some v)) (δ.set i q) s := by
  have no' : ∀ p, q ≠ .own p := fun p e => by rw [e] at no; cases no
  refine ⟨r.st, by rw [List.length_set, List.length_set]; exact r.len, fun j q' e => ?_, fun j k p q' e1 e2 => ?_⟩
  · rw [List.getElem?_set] at e
    by_cases hj : i = j
    · subst hj
      rw [if_pos rfl] at e
      split at e
      · rename_i hl
        have e' := Option.some.inj e
        subst e'
        have e2 : (σ.set i (some v))[i]? = some (some v) := by rw [List.getElem?_set_self (by rw [← r.len]; exact hl)]
        rw [e2]
        cases q with
        | own p => cases no
        | un => trivial
        | v p => exact ⟨v, rfl, h.elim (fun e => nomatch e) id⟩
        | ref l => exact ⟨v, rfl, h.elim (fun e => nomatch e) id⟩
        | fn x => exact ⟨v, rfl, h.elim (fun e => nomatch e) id⟩
        | scr ns => exact ⟨v, rfl, h.elim (fun e => nomatch e) id⟩
      · cases e
    · rw [if_neg hj] at e
      rw [List.getElem?_set_ne hj]
      exact r.sl j q' e
  · rw [List.getElem?_set] at e1 e2
    by_cases h1 : i = j
    · rw [if_pos h1] at e1
      split at e1
      · exact absurd (Option.some.inj e1) (no' p)
      · cases e1
    · rw [if_neg h1] at e1
      by_cases h2 : i = k
      · rw [if_pos h2] at e2
        split at e2
        · exact absurd (Option.some.inj e2) (no' q')
        · cases e2
      · rw [if_neg h2] at e2
        exact r.inj j k p q' e1 e2
theorem set_own {q : Sl} {i j : Nat} {p : PyData} (no : q.isOwn = false) (e : (δ.set i q)[j]? = some (.own p)) : i ≠ j ∧ δ[j]? = some (.own p) := by
  rw [List.getElem?_set] at e
  by_cases hj : i = j
  · rw [if_pos hj] at e
    split at e
    · rw [Option.some.inj e] at no; cases no
    · cases e
  · rw [if_neg hj] at e
    exact ⟨hj, e⟩
theorem RelB.setQ {q : Sl} {v : V} {i : Nat} (r : RelB K mg B w O σ δ s) (no : q.isOwn = false) (h : q = .un ∨ SlV K mg w q v) : RelB K mg B w O (σ.set i (some v)) (δ.set i q) s :=
  ⟨r.rel.setQ no h, r.nx, fun j p e => r.own j p (set_own no e).2⟩
/-- one owner less -/
def Wd.less (w : Wd) (a : Addr) : Wd := ⟨fun b => w.N b ∧ b ≠ a, w.μ, w.H⟩
theorem less_stay {a : Addr} : Stay w (w.less a) := fun b o e hn => ⟨e, fun q => hn q.1⟩
theorem less_st {a : Addr} (st : RelS K mg w s) (ha : a ∉ w.μ) : RelS K mg (w.less a) s := by
  refine ⟨fun b q => ⟨st.mN b q, fun e => ha (by rw [← e]; exact q)⟩, fun b q => st.tr b q.1, st.len, st.nd, fun l c b e1 e2 => ?_⟩
  have q := st.cell l c b e1 e2
  cases c with
  | lst ds => exact OwnOk.stay (show OwnOk K w b (.list ds) from q) less_stay rfl
  | ins c fs =>
    obtain ⟨C, dx, gs, e1, e2, e3⟩ := q
    exact ⟨C, dx, gs, e1, e2, Paired.mapP e3 fun x y h => ⟨h.1, SlV.stay h.2 less_stay fun _ _ h => h⟩⟩
theorem Rel.less {a : Addr} (r : Rel K mg w O σ δ s) (ha : a ∉ w.μ) (hs : ∀ j p, δ[j]? = some (.own p) → O j ≠ a) : Rel K mg (w.less a) O σ δ s := by
  refine ⟨less_st r.st ha, r.len, fun i q e => ?_, r.inj⟩
  have h := r.sl i q e
  cases q with
  | un => trivial
  | own p =>
    obtain ⟨h1, h2, h3, h4⟩ := h
    exact ⟨h1, ⟨h2, hs i p e⟩, h3, h4.stay less_stay rfl⟩
  | v p => obtain ⟨v, h1, h2⟩ := h; exact ⟨v, h1, SlV.stay h2 less_stay fun _ _ h => h⟩
  | ref l => obtain ⟨v, h1, h2⟩ := h; exact ⟨v, h1, SlV.stay h2 less_stay fun _ _ h => h⟩
  | fn x => obtain ⟨v, h1, h2⟩ := h; exact ⟨v, h1, SlV.stay h2 less_stay fun _ _ h => h⟩
  | scr ns => obtain ⟨v, h1, h2⟩ := h; exact ⟨v, h1, SlV.stay h2 less_stay fun _ _ h => h⟩
theorem less_nx {a : Addr} (n : Nx B w) (hr : ∀ b, B.N b → ∃ o, B.H b = some o) (ha : B.H a = none) : Nx B (w.less a) :=
  ⟨n.ext, fun b q => ⟨n.sub b q, fun e => by obtain ⟨o, h⟩ := hr b q; rw [e, ha] at h; cases h⟩, fun b q => n.new b q.1, n.there, n.pre, n.mu⟩
theorem RD.less {a : Addr} {p : PyData} {v : V} (h : RD K w p v) : RD K (w.less a) p v := RD.stay less_stay h
theorem OwnOk.rd {a : Addr} {p : PyData} (h : OwnOk K w a p) (hn : ¬ w.N a) : RD K w p (.ref a) := by
  cases p with
  | list ds => obtain ⟨vs, e, l, r⟩ := h; exact .lst e hn l r
  | dict ps => obtain ⟨vs, e, l, r⟩ := h; exact .dct (.inl e) hn l r
  | _ => exact h.elim
theorem RRs.less {a : Addr} : ∀ {rs : List Rv} {vs : List V}, RRs K mg w0 w rs vs → (∀ q, (Rv.fr q, V.ref a) ∉ rs.zip vs) → RRs K mg w0 (w.less a) rs vs
  | _, _, .nil, _ => .nil
  | _, _, .cons (r := r) (v := v) h t ap, ha => by
    refine .cons ?_ (RRs.less t fun q hm => ha q (by rw [List.zip_cons_cons]; exact List.mem_cons_of_mem _ hm)) ap
    cases r with
    | v p => exact RD.stay less_stay h
    | fr p =>
      obtain ⟨b, rfl, h1, h2, h3, h4⟩ := h
      exact ⟨b, rfl, h1.stay less_stay rfl, ⟨h2, fun e => ha p (by rw [List.zip_cons_cons, e]; exact List.mem_cons_self)⟩, h3, h4⟩
    | bo p => obtain ⟨b, rfl, h1, h3⟩ := h; exact ⟨b, rfl, h1.stay less_stay rfl, h3⟩
    | ref l => exact h
    | fn x => exact h
    | scr ns => obtain ⟨b, o, e, n, rfl⟩ := h; exact ⟨b, o, e.stay less_stay, trivial, rfl⟩
def slM (own : Bool) : Rv → Option Sl
  | .v p => some (.v p)
  | .fr p => some (if own then .own p else .v p)
  | .ref l => some (.ref l)
  | .fn x => some (.fn x)
  | .scr ns => some (.scr ns)
  | .bo _ => none
def setAll : List (Nat × Bool) → List Rv → List Sl → Option (List Sl)
  | [], [], δ => some δ
  | (i, m) :: is, z :: zs, δ => (slM m z).bind fun q => setAll is zs (δ.set i q)
  | _, _, _ => none
def setV : List (Nat × Bool) → List V → L2.St → L2.St
  | (i, _) :: is, v :: vs, σ => setV is vs (σ.set i (some v))
  | _, _, σ => σ
def setO (O : Nat → Addr) (i : Nat) (a : Addr) : Nat → Addr := fun j => if j = i then a else O j
theorem setO_same {i : Nat} {a : Addr} : setO O i a i = a := if_pos rfl
theorem setO_ne {i j : Nat} {a : Addr} (h : ¬ i = j) : setO O i a j = O j := if_neg fun e => h e.symm
theorem setAll_ok (hB : ∀ b, B.N b → ∃ o, B.H b = some o) (n0 : Nx B w0) : ∀ (is : List (Nat × Bool)) (zs : List Rv) (vs : List V) (w : Wd) (O : Nat → Addr) (σ : L2.St) (δ : List Sl), RelB K mg B w O σ δ s → RRs K mg w0 w zs vs →
    (∀ q a, (Rv.fr q, V.ref a) ∈ zs.zip vs → ∀ j p, δ[j]? = some (.own p) → O j ≠ a) → setAll is zs δ = some δ' →
    ∃ w' O', w'.H = w.H ∧ Stay w w' ∧ RelB K mg B w' O' (setV is vs σ) δ' s
  | [], [], _, w, O, σ, δ, r, .nil, _, e => by
    simp only [setAll, Option.some.injEq] at e
    subst e
    exact ⟨w, O, rfl, .refl, r⟩
  | (i, m) :: is, z :: zs, _, w, O, σ, δ, r, .cons (v := v) (vs := vs) h t ap, ha, e => by
    simp only [setAll, Option.bind_eq_some_iff] at e
    obtain ⟨q, e1, e2⟩ := e
    have tl : ∀ q a, (Rv.fr q, V.ref a) ∈ zs.zip vs → ∀ j p, δ[j]? = some (.own p) → O j ≠ a := fun q a hm => ha q a (by rw [List.zip_cons_cons]; exact List.mem_cons_of_mem _ hm)
    have plain : ∀ q, q.isOwn = false → SlV K mg w q v → setAll is zs (δ.set i q) = some δ' → ∃ w' O', w'.H = w.H ∧ Stay w w' ∧ RelB K mg B w' O' (setV ((i, m) :: is) (v :: vs) σ) δ' s := fun q no sv e2 =>
      setAll_ok hB n0 is zs vs w O _ _ (r.setQ no (.inr sv)) t (fun q' a hm j p e => tl q' a hm j p (set_own no e).2) e2
    cases z with
    | v p => cases e1; exact plain (.v p) rfl h e2
    | ref l => cases e1; exact plain (.ref l) rfl h e2
    | fn x => cases e1; exact plain (.fn x) rfl h e2
    | scr ns => cases e1; exact plain (.scr ns) rfl h e2
    | bo p => cases e1
    | fr p =>
      obtain ⟨a, rfl, h1, h2, h3, h4⟩ := h
      have sep : ∀ j p, δ[j]? = some (.own p) → O j ≠ a := ha p a (by rw [List.zip_cons_cons]; exact List.mem_cons_self)
      have hBa := n0.none h4
      cases m with
      | false =>
        cases e1
        have r1 : RelB K mg B (w.less a) O σ δ s := ⟨r.rel.less h3 sep, less_nx r.nx hB hBa, r.own⟩
        have sv : RD K (w.less a) p (.ref a) := (h1.stay less_stay rfl).rd fun q => q.2 rfl
        obtain ⟨w', O', b1, b2, b3⟩ := setAll_ok hB n0 is zs vs (w.less a) O _ _ (r1.setQ (q := .v p) (i := i) rfl (.inr sv)) (t.less (ap p a rfl rfl)) (fun q' a hm j p e => tl q' a hm j p (set_own rfl e).2) e2
        exact ⟨w', O', b1, less_stay.trans b2, b3⟩
      | true =>
        cases e1
        have r1 : RelB K mg B w (setO O i a) (σ.set i (some (.ref a))) (δ.set i (.own p)) s := by
          refine ⟨⟨r.rel.st, by rw [List.length_set, List.length_set]; exact r.rel.len, fun j q e => ?_, fun j k p' q' e3 e4 hjk => ?_⟩, r.nx, fun j p' e => ?_⟩
          · rw [List.getElem?_set] at e
            by_cases hj : i = j
            · subst hj
              rw [if_pos rfl] at e
              split at e
              · rename_i hl
                cases e
                have e2 : (σ.set i (some (V.ref a)))[i]? = some (some (V.ref a)) := by rw [List.getElem?_set_self (by rw [← r.rel.len]; exact hl)]
                refine ⟨by rw [e2, setO_same], by rw [setO_same]; exact h2, by rw [setO_same]; exact h3, by rw [setO_same]; exact h1⟩
              · cases e
            · rw [if_neg hj] at e
              have h := r.rel.sl j q e
              rw [List.getElem?_set_ne hj]
              cases q with
              | own p' =>
                refine ⟨by rw [setO_ne hj]; exact h.1, by rw [setO_ne hj]; exact h.2.1, by rw [setO_ne hj]; exact h.2.2.1, by rw [setO_ne hj]; exact h.2.2.2⟩
              | un => trivial
              | v p => exact h
              | ref l => exact h
              | fn x => exact h
              | scr ns => exact h
          · rw [List.getElem?_set] at e3 e4
            by_cases hj : i = j
            · by_cases hk : i = k
              · rw [← hj, ← hk]
              · rw [if_neg hk] at e4
                rw [← hj, setO_same, setO_ne hk] at hjk
                exact absurd hjk.symm (sep k _ e4)
            · rw [if_neg hj] at e3
              by_cases hk : i = k
              · rw [← hk, setO_same, setO_ne hj] at hjk
                exact absurd hjk (sep j _ e3)
              · rw [if_neg hk] at e4
                rw [setO_ne hj, setO_ne hk] at hjk
                exact r.rel.inj j k _ _ e3 e4 hjk
          · rw [List.getElem?_set] at e
            by_cases hj : i = j
            · rw [← hj, setO_same]; exact hBa
            · rw [if_neg hj] at e
              rw [setO_ne hj]
              exact r.own j p' e
        have tl2 : ∀ q a', (Rv.fr q, V.ref a') ∈ zs.zip vs → ∀ j p', (δ.set i (.own p))[j]? = some (.own p') → setO O i a j ≠ a' := fun q' a' hm j p' e => by
          rw [List.getElem?_set] at e
          by_cases hj : i = j
          · rw [← hj, setO_same]
            intro e'
            subst e'
            exact ap p a rfl rfl q' hm
          · rw [if_neg hj] at e
            rw [setO_ne hj]
            exact tl q' a' hm j p' e
        obtain ⟨w', O', b1, b2, b3⟩ := setAll_ok hB n0 is zs vs w _ _ _ r1 t tl2 e2
        exact ⟨w', O', b1, b2, b3⟩
  | [], _ :: _, _, _, _, _, _, _, _, _, e => by simp [setAll] at e
  | _ :: _, [], _, _, _, _, _, _, _, _, e => by simp [setAll] at e
def stO (o : Option (List Sl)) (s : Sto) : Out Fl := match o with
  | some δ => .ok (.nx δ) s
  | none => .bad
def GoodB (B : Wd) : Prop := ∀ b, B.N b → ∃ o, B.H b = some o
/-- the end of an assignment -/
theorem set_end {is : List (Nat × Bool)} {zs : List Rv} {vs : List V} (hB : GoodB B) (r0 : RelB K mg B w O σ δ s') (n : Nx w w') (r : RelB K mg B w' O σ δ s) (h : RRs K mg w w' zs vs) (k : Stay w w')
    (hp : PostS K mg W B w (stO (setAll is zs δ) s) D) : D.nx (setV is vs σ) w'.H := by
  cases e : setAll is zs δ with
  | none => rw [e] at hp; exact hp.elim
  | some δ1 =>
    rw [e] at hp
    obtain ⟨w1, O1, b1, b2, b3⟩ := setAll_ok hB r0.nx is zs vs w' O σ δ r h (fun q a hm j p e ej => by
      obtain ⟨a', e5, _, _, _, h2⟩ := h.mem hm
      cases e5
      obtain ⟨o, e6⟩ := r0.rel.st.tr _ (r0.rel.sl j _ e).2.1
      rw [ej, h2] at e6; cases e6) e
    rw [← b1]
    exact hp w1 _ O1 (k.trans b2) b3
def sAsg (i : Nat) (m : Bool) (f : E) : S := fun δ s => (f δ s).bind fun z s1 => stO (setAll [(i, m)] [z] δ) s1
theorem RRs.one {z : Rv} {v : V} (h : RR K mg w0 w z v) : RRs K mg w0 w [z] [v] := .cons h .nil fun _ _ _ _ _ hm => by simp at hm
theorem asg_core {i : Nat} {m : Bool} {f : E} (hB : GoodB B) (r : RelB K mg B w O σ δ s) (h : PostS K mg W B w (sAsg i m f δ s) D) : tAsg (wpE K mg W f) (gName i) D σ w.H :=
  exprS (D := D) r h fun z s1 w1 v n k r1 rr h1 => set_end hB r n r1 (.one rr) k h1
theorem qs_asg {i : Nat} {m : Bool} {x : Str} {e : Expr} {f : E} {pos pos' : Pos} (hB : GoodB B) (he : QE X W e f) (hN : X.N.Nodup := by assumption) (hi : X.N[i]? = some x := by rfl) (hx : Loc X.env.scope x := by first | exact Or.inl rfl | exact Or.inr rfl)
    (hs : swapsWith e (some (.Name x pos')) pos.line X.env = pure false := by rfl) (hf : X.fn x = true ∨ X.env.scope.names.lookup x = some .local := by first | exact .inl rfl | exact .inr rfl | assumption) : QS X W B (.Assign [.Name x pos'] e pos) (sAsg i m f) := by
  refine PS.weak (ps_set hN hi hx he hs hf) fun D σ H h => ?_
  obtain ⟨δ, s, w, O, rfl, r, h⟩ := h
  exact asg_core hB r h
/-- a, b = x, y -/
def sPar (is : List (Nat × Bool)) (a : AL) : S := fun δ s => (a δ s).bind fun zs s1 => stO (setAll is zs δ) s1
theorem exprA {f : AL} {Q : List V → Hp → Prop} {k : List Rv → Sto → Out Fl} (r : RelB K mg B w O σ δ s) (h : PostS K mg W B w ((f δ s).bind k) D)
    (hq : ∀ z s' w' v, Nx w w' → Stay w w' → RelB K mg B w' O σ δ s' → RRs K mg w w' z v → PostS K mg W B w (k z s') D → Q v w'.H) : wpA K mg W f σ w.H Q := by
  refine wpA.intro r.rel ?_
  cases e : f δ s with
  | bad => rw [e] at h; exact h
  | ex c fs s1 => rw [e] at h; exact fun C d w1 n r1 e1 x => h C d w1 σ (r.nx.trans n) r1.st e1 x
  | ok z s1 => rw [e] at h; exact fun w1 n r1 v rr => hq z s1 w1 v n (n.stay r.rel.st.mN) (r.next n r1) rr h
theorem stO_len {is : List (Nat × Bool)} {zs : List Rv} (hp : PostS K mg W B w (stO (setAll is zs δ) s) D) : zs.length = is.length := by
  cases e : setAll is zs δ with
  | none => rw [e] at hp; exact hp.elim
  | some δ1 =>
    clear hp
    induction is generalizing zs δ with
    | nil => cases zs with
      | nil => rfl
      | cons z zs => simp [setAll] at e
    | cons i is ih => cases zs with
      | nil => simp [setAll] at e
      | cons z zs =>
        simp only [setAll, Option.bind_eq_some_iff] at e
        obtain ⟨q, _, e2⟩ := e
        rw [List.length_cons, List.length_cons, ih e2]
theorem qs_par {i j : Nat} {m m' : Bool} {x y : Str} {a b : Expr} {f : AL} {px py pt pos : Pos} {kt k2 pt2} (hB : GoodB B) (ha : QA X W [a, b] f) (hc : X.calm = true := by rfl) (hN : X.N.Nodup := by assumption) (hi : X.N[i]? = some x := by rfl) (hj : X.N[j]? = some y := by rfl) (hij : i ≠ j := by decide)
    (hx : X.env.scope.names.lookup x = some .local := by rfl) (hy : X.env.scope.names.lookup y = some .local := by rfl)
    (hw : swappedStores [.Tuple [.Name x px, .Name y py] kt pt] (.Tuple [a, b] k2 pt2) X.env = pure (some [x, y]) := by rfl)
    (hs : swapsWithSole [.Tuple [.Name x px, .Name y py] kt pt] (.Tuple [a, b] k2 pt2) pos.line X.env = pure false := by rfl) :
    QS X W B (.Assign [.Tuple [.Name x px, .Name y py] kt pt] (.Tuple [a, b] k2 pt2) pos) (sPar [(i, m), (j, m')] f) := by
  refine PS.weak (ps_par hc hN hi hj hij hx hy ha hw hs) fun D σ H h => ?_
  obtain ⟨δ, s, w, O, rfl, r, h⟩ := h
  refine exprA (D := D) r h fun zs s1 w1 vs n k r1 rr h1 => ?_
  have hl := stO_len h1
  have hl2 := rr.length
  match zs, vs, rr, hl, hl2 with
  | [z1, z2], [v1, v2], rr, _, _ => exact ⟨v1, v2, rfl, set_end hB r n r1 rr k h1⟩
theorem qs_par3 {i j l : Nat} {m m' m'' : Bool} {x y z : Str} {a b c : Expr} {f : AL} {px py pz pt pos : Pos} {kt k2 pt2} (hB : GoodB B) (ha : QA X W [a, b, c] f) (hc : X.calm = true := by rfl) (hN : X.N.Nodup := by assumption) (hi : X.N[i]? = some x := by rfl) (hj : X.N[j]? = some y := by rfl) (hl : X.N[l]? = some z := by rfl)
    (hij : i ≠ j := by decide) (hil : i ≠ l := by decide) (hjl : j ≠ l := by decide)
    (hx : X.env.scope.names.lookup x = some .local := by rfl) (hy : X.env.scope.names.lookup y = some .local := by rfl) (hz : X.env.scope.names.lookup z = some .local := by rfl)
    (hw : swappedStores [.Tuple [.Name x px, .Name y py, .Name z pz] kt pt] (.Tuple [a, b, c] k2 pt2) X.env = pure (some [x, y, z]) := by rfl)
    (hs : swapsWithSole [.Tuple [.Name x px, .Name y py, .Name z pz] kt pt] (.Tuple [a, b, c] k2 pt2) pos.line X.env = pure false := by rfl) :
    QS X W B (.Assign [.Tuple [.Name x px, .Name y py, .Name z pz] kt pt] (.Tuple [a, b, c] k2 pt2) pos) (sPar [(i, m), (j, m'), (l, m'')] f) := by
  refine PS.weak (ps_par3 hc hN hi hj hl hij hil hjl hx hy hz ha hw hs) fun D σ H h => ?_
  obtain ⟨δ, s, w, O, rfl, r, h⟩ := h
  refine exprA (D := D) r h fun zs s1 w1 vs n k r1 rr h1 => ?_
  have hl := stO_len h1
  have hl2 := rr.length
  match zs, vs, rr, hl, hl2 with
  | [z1, z2, z3], [v1, v2, v3], rr, _, _ => exact ⟨v1, v2, v3, rfl, set_end hB r n r1 rr k h1⟩
end
end Lay
namespace Lay
open PySem PySem.Spec PyProof.Rows L2
section
variable {X : Cx} {W : WX} {K : PySem.W.Frag} {mg : Str → Option Value} {B w w' w'' w0 : Wd} {s s' : Sto} {O : Nat → Addr} {σ : L2.St} {δ δ' : List Sl} {D : Ends}
abbrev GD := PyData → List Sl → Option (List Sl)
def gNm (i : Nat) : GD := fun d δ => some (δ.set i (.v d))
def gsL : List GD → List PyData → List Sl → Option (List Sl)
  | [], [], δ => some δ
  | g :: gs, d :: ds, δ => (g d δ).bind fun δ1 => gsL gs ds δ1
  | _, _, _ => none
def gTp (gs : List GD) : GD := fun d δ => match d with
  | .tuple ds => gsL gs ds δ
  | _ => none
/-- what a target may do with the slots -/
def GEnd (is : List Nat) (σ σ' : L2.St) (δ δ' : List Sl) : Prop := (∀ (i : Nat) p, δ'[i]? = some (.own p) → δ[i]? = some (.own p)) ∧ σ'.length = σ.length ∧ ∀ (j : Nat), j ∉ is → σ'[j]? = σ[j]?
theorem GEnd.refl {is : List Nat} : GEnd is σ σ δ δ := ⟨fun _ _ h => h, rfl, fun _ _ => rfl⟩
def wpG (K : PySem.W.Frag) (mg : Str → Option Value) (g : GD) (is : List Nat) : TG := fun v σ H Q =>
  ∃ d δ δ' s w O, w.H = H ∧ Rel K mg w O σ δ s ∧ RD K w d v ∧ g d δ = some δ' ∧ ∀ σ', Rel K mg w O σ' δ' s → GEnd is σ σ' δ δ' → Q σ' w.H
def wpGs (K : PySem.W.Frag) (mg : Str → Option Value) (gs : List GD) (is : List Nat) : TGs := fun vs σ H Q =>
  ∃ ds δ δ' s w O, w.H = H ∧ Rel K mg w O σ δ s ∧ RDs K w ds vs ∧ gsL gs ds δ = some δ' ∧ ∀ σ', Rel K mg w O σ' δ' s → GEnd is σ σ' δ δ' → Q σ' w.H
def QG (X : Cx) (t : Expr) (g : GD) (is : List Nat) : Prop := PG X t (wpG X.K X.mg g is)
def QGs (X : Cx) (ts : List Expr) (gs : List GD) (is : List Nat) : Prop := PGs X ts (wpGs X.K X.mg gs is)
theorem PG.weak {tg : Expr} {t t' : TG} (h : PG X tg t) (k : ∀ v σ H Q, t' v σ H Q → t v σ H Q) : PG X tg t' := ⟨fun pins s σ H v u Q I r q => h.run pins s σ H v u Q I r (k v σ H Q q)⟩
theorem PGs.weak {tg : List Expr} {t t' : TGs} (h : PGs X tg t) (k : ∀ v σ H Q, t' v σ H Q → t v σ H Q) : PGs X tg t' := ⟨fun pins s σ H v u Q I r q => h.run pins s σ H v u Q I r (k v σ H Q q)⟩
theorem qg_name {i : Nat} {x : Str} {pos : Pos} (hN : X.N.Nodup := by assumption) (hi : X.N[i]? = some x := by rfl) (hx : Loc X.env.scope x := by first | exact Or.inl rfl | exact Or.inr rfl) (hf : X.fn x = true ∨ X.env.scope.names.lookup x = some .local := by first | exact .inl rfl | exact .inr rfl | assumption) : QG X (.Name x pos) (gNm i) [i] := by
  refine PG.weak (pg_name hN hi hx hf) fun v σ H Q h => ?_
  obtain ⟨d, δ, δ', s, w, O, rfl, r, rd, e, h⟩ := h
  cases e
  refine h _ (r.setQ (q := .v d) rfl (.inr rd)) ⟨fun j p e => (set_own rfl e).2, List.length_set, fun j hj => ?_⟩
  rw [List.getElem?_set_ne fun e => hj (by simp [e])]
theorem qgs_nil : QGs X [] [] [] := by
  refine PGs.weak pgs_nil fun vs σ H Q h => ?_
  obtain ⟨ds, δ, δ', s, w, O, rfl, r, rd, e, h⟩ := h
  cases ds with
  | cons d ds => simp [gsL] at e
  | nil =>
    cases rd
    simp only [gsL, Option.some.injEq] at e
    subst e
    exact ⟨rfl, h σ r .refl⟩
theorem qgs_cons {e : Expr} {es : List Expr} {g : GD} {gs : List GD} {is js : List Nat} (h1 : QG X e g is) (h2 : QGs X es gs js) (hs : (assignEach (e :: es) X.env).map (·.2) = assign e X.env :: (assignEach es X.env).map (·.2) := by rfl) : QGs X (e :: es) (g :: gs) (is ++ js) := by
  refine PGs.weak (pgs_cons h1 h2 hs) fun vs σ H Q h => ?_
  obtain ⟨ds, δ, δ', s, w, O, rfl, r, rd, e, h⟩ := h
  cases ds with
  | nil => simp [gsL] at e
  | cons d ds =>
    cases rd with
    | cons rd rds =>
      simp only [gsL, Option.bind_eq_some_iff] at e
      obtain ⟨δ1, e1, e2⟩ := e
      refine ⟨_, _, rfl, d, δ, δ1, s, w, O, rfl, r, rd, e1, fun σ1 r1 k1 => ?_⟩
      refine ⟨ds, δ1, δ', s, w, O, rfl, r1, rds, e2, fun σ2 r2 k2 => ?_⟩
      refine h σ2 r2 ⟨fun j p q => k1.1 j p (k2.1 j p q), k2.2.1.trans k1.2.1, fun j hj => ?_⟩
      rw [k2.2.2 j fun q => hj (List.mem_append_right _ q), k1.2.2 j fun q => hj (List.mem_append_left _ q)]
theorem gsL_len : ∀ {gs : List GD} {ds : List PyData} {δ δ' : List Sl}, gsL gs ds δ = some δ' → ds.length = gs.length
  | [], [], _, _, _ => rfl
  | g :: gs, d :: ds, δ, _, e => by
    simp only [gsL, Option.bind_eq_some_iff] at e
    obtain ⟨δ1, _, e2⟩ := e
    rw [List.length_cons, List.length_cons, gsL_len e2]
  | [], _ :: _, _, _, e => by simp [gsL] at e
  | _ :: _, [], _, _, e => by simp [gsL] at e
theorem qg_tup {es : List Expr} {k : Nat} {gs : List GD} {is : List Nat} {pos : Pos} (h : QGs X es gs is) (hc : X.calm = true := by rfl) (hn : (assignEach es X.env).length = gs.length := by rfl) (hst : (assignEach es X.env).findIdx? (·.1) = none := by rfl) : QG X (.Tuple es k pos) (gTp gs) is := by
  refine PG.weak (pg_tup hc h hn hst) fun v σ H Q h => ?_
  obtain ⟨d, δ, δ', s, w, O, rfl, r, rd, e, h⟩ := h
  unfold gTp at e
  split at e
  · rename_i ds
    obtain ⟨a, vs, rfl, h1, h2, h3⟩ := RB.tup (.inl rd)
    exact ⟨a, vs, rfl, h1, by rw [← h3.length, gsL_len e], ds, δ, δ', s, w, O, rfl, r, h3, e, h⟩
  · cases e
def sUnp (g : GD) (f : E) : S := fun δ s => (f δ s).bind fun z s1 => match z with
  | .v d => stO (g d δ) s1
  | _ => .bad
theorem RelB.gend {is : List Nat} {σ' : L2.St} (r : RelB K mg B w O σ δ s) (r' : Rel K mg w O σ' δ' s) (k : GEnd is σ σ' δ δ') : RelB K mg B w O σ' δ' s := ⟨r', r.nx, fun i p e => r.own i p (k.1 i p e)⟩
theorem qs_unp {t e : Expr} {g : GD} {is : List Nat} {f : E} {pos : Pos} (he : QE X W e f) (hg : QG X t g is) (hs : swapsWithSole [t] e pos.line X.env = pure false := by rfl) (hw : swappedStores [t] e X.env = pure none := by rfl)
    (h1 : (assignEach [t] X.env).map (·.2) = [assign t X.env] := by rfl) : QS X W B (.Assign [t] e pos) (sUnp g f) := by
  refine PS.weak (ps_asg he hg hs hw h1) fun D σ H h => ?_
  obtain ⟨δ, s, w, O, rfl, r, h⟩ := h
  refine exprS (D := D) r h fun z s1 w1 v n k r1 rr h1 => ?_
  cases z with
  | v d =>
    have h1 : PostS X.K X.mg W B w (stO (g d δ) s1) D := h1
    cases e : g d δ with
    | none => rw [e] at h1; exact h1.elim
    | some δ' =>
      rw [e] at h1
      exact ⟨d, δ, δ', s1, w1, O, rfl, r1.rel, rr, e, fun σ' r2 k2 => h1 w1 σ' O k (r1.gend r2 k2)⟩
  | _ => exact h1.elim
def gNames (is : List (Nat × Bool)) : TGs := fun vs σ H Q => vs.length = is.length ∧ Q (setV is vs σ) H
theorem gn_nil : PGs X [] (gNames []) := PGs.weak pgs_nil fun vs σ H Q h => by
  cases vs with
  | nil => exact ⟨rfl, h.2⟩
  | cons v vs => exact absurd h.1 (by simp)
theorem gn_cons {i : Nat} {m : Bool} {x : Str} {pos : Pos} {es : List Expr} {is : List (Nat × Bool)} (h2 : PGs X es (gNames is)) (hN : X.N.Nodup := by assumption) (hi : X.N[i]? = some x := by rfl) (hx : Loc X.env.scope x := by first | exact Or.inl rfl | exact Or.inr rfl)
    (hf : X.fn x = true ∨ X.env.scope.names.lookup x = some .local := by first | exact .inl rfl | exact .inr rfl | assumption) (hs : (assignEach (.Name x pos :: es) X.env).map (·.2) = assign (.Name x pos) X.env :: (assignEach es X.env).map (·.2) := by rfl) : PGs X (.Name x pos :: es) (gNames ((i, m) :: is)) :=
  PGs.weak (pgs_cons (pg_name hN hi hx hf) h2 hs) fun vs σ H Q h => by
    cases vs with
    | nil => exact absurd h.1 (by simp)
    | cons v vs => exact ⟨v, vs, rfl, by simpa using h.1, h.2⟩
theorem qs_parT {ts es : List Expr} {is : List (Nat × Bool)} {f : AL} {kt k2 : Nat} {pt pt2 pos : Pos} (hB : GoodB B) (hg : PGs X ts (gNames is)) (ha : QA X W es f) (hc : X.calm = true := by rfl) (hz : is.length ≤ 100 := by decide) (hn : (assignEach ts X.env).length = is.length := by rfl) (hst : (assignEach ts X.env).findIdx? (·.1) = none := by rfl)
    (hs : swapsWithSole [.Tuple ts kt pt] (.Tuple es k2 pt2) pos.line X.env = pure false := by rfl) (hw : swappedStores [.Tuple ts kt pt] (.Tuple es k2 pt2) X.env = pure none := by rfl)
    (h1 : (assignEach [.Tuple ts kt pt] X.env).map (·.2) = [assign (.Tuple ts kt pt) X.env] := by rfl) : QS X W B (.Assign [.Tuple ts kt pt] (.Tuple es k2 pt2) pos) (sPar is f) := by
  refine PS.weak (ps_asg (pe_tup ha) (pg_tup hc hg hn hst) hs hw h1) fun D σ H h => ?_
  obtain ⟨δ, s, w, O, rfl, r, h⟩ := h
  show wpA X.K X.mg W f σ w.H fun xs H1 => xs.length ≤ sizeLine ∧ ∀ p, H1 p = none → gTup X.K is.length (gNames is) (.ref p) σ (upd H1 p (.tup xs)) D.nx
  refine exprA (D := D) r h fun zs s1 w1 vs n k r1 rr h1 => ?_
  have hl := stO_len h1
  have hl2 := rr.length
  have lm : lim = 16777216 := rfl
  refine ⟨by rw [← hl2, hl, lim_eq]; omega, fun p hp => ?_⟩
  have g : Gr w1 ⟨w1.N, w1.μ, upd w1.H p (.tup vs)⟩ := Gr.add hp
  refine ⟨p, vs, rfl, .inl (.inl upd_same), by omega, by omega, ?_⟩
  exact set_end hB r (n.trans g.nx) (r1.next g.nx (g.rel r1.rel)) (rr.on g.nx r1.rel.st.mN) (k.trans (g.nx.stay r1.rel.st.mN)) h1
def sBad : S := fun _ _ => .bad
theorem qs_bad {st : Stmt} : QS X W B st sBad := ⟨fun _ _ _ _ _ _ h => by obtain ⟨_, _, _, _, _, _, h⟩ := h; exact h.elim⟩
def eBad : E := fun _ _ => .bad
theorem qe_bad {e : Expr} : QE X W e eBad := ⟨fun _ _ _ _ _ _ h => by obtain ⟨_, _, _, _, _, _, h⟩ := h; exact h.elim⟩
def sFrz (i : Nat) (f : S) : S := fun δ s => match δ[i]? with
  | some (.own p) => f (δ.set i (.v p)) s
  | _ => f δ s
theorem RelB.frz {i : Nat} {p : PyData} (hB : GoodB B) (r : RelB K mg B w O σ δ s) (e : δ[i]? = some (.own p)) : RelB K mg B (w.less (O i)) O σ (δ.set i (.v p)) s := by
  obtain ⟨h1, h2, h3, h4⟩ := r.rel.sl i _ e
  have hi : i < δ.length := by
    rw [List.getElem?_eq_some_iff] at e
    exact e.1
  refine ⟨⟨less_st r.rel.st h3, by rw [List.length_set]; exact r.rel.len, fun j q e' => ?_, fun j k p' q' e1 e2 => ?_⟩, less_nx r.nx hB (r.own i _ e), fun j p' e' => r.own j p' (set_own rfl e').2⟩
  · by_cases hj : i = j
    · subst hj
      rw [List.getElem?_set_self hi] at e'
      cases e'
      exact ⟨_, h1, (h4.stay less_stay rfl).rd fun q => q.2 rfl⟩
    · rw [List.getElem?_set_ne hj] at e'
      have h := r.rel.sl j q e'
      cases q with
      | un => trivial
      | own p' =>
        obtain ⟨g1, g2, g3, g4⟩ := h
        exact ⟨g1, ⟨g2, fun z => hj (r.rel.inj j i _ _ e' e z).symm⟩, g3, g4.stay less_stay rfl⟩
      | v p => obtain ⟨v, h1, h2⟩ := h; exact ⟨v, h1, SlV.stay h2 less_stay fun _ _ h => h⟩
      | ref l => obtain ⟨v, h1, h2⟩ := h; exact ⟨v, h1, SlV.stay h2 less_stay fun _ _ h => h⟩
      | fn x => obtain ⟨v, h1, h2⟩ := h; exact ⟨v, h1, SlV.stay h2 less_stay fun _ _ h => h⟩
      | scr ns => obtain ⟨v, h1, h2⟩ := h; exact ⟨v, h1, SlV.stay h2 less_stay fun _ _ h => h⟩
  · exact r.rel.inj j k _ _ (set_own rfl e1).2 (set_own rfl e2).2
theorem frz_core {i : Nat} {f : S} (hB : GoodB B) (h : wpS K mg W B (sFrz i f) D σ w.H) : wpS K mg W B f D σ w.H := by
  obtain ⟨δ, s, w', O, e0, r, h⟩ := h
  unfold sFrz at h
  split at h
  · rename_i p e
    exact ⟨δ.set i (.v p), s, w'.less (O i), O, e0, r.frz hB e, PostS.rebase h less_stay⟩
  · exact ⟨δ, s, w', O, e0, r, h⟩
theorem qs_frz {i : Nat} {f : S} {st : Stmt} (hB : GoodB B) (h : QS X W B st f) : QS X W B st (sFrz i f) := PS.weak h fun D σ H q => frz_core (w := ⟨fun _ => True, [], H⟩) hB q
theorem qss_frz {i : Nat} {f : S} {st : List Stmt} (hB : GoodB B) (h : QSs X W B st f) : QSs X W B st (sFrz i f) := PSs.weak h fun D σ H q => frz_core (w := ⟨fun _ => True, [], H⟩) hB q
theorem RelB.updO {i : Nat} {p p' : PyData} {o : HO} (r : RelB K mg B w O σ δ s) (e : δ[i]? = some (.own p)) (h : OwnOk K ⟨w.N, w.μ, upd w.H (O i) o⟩ (O i) p') :
    RelB K mg B ⟨w.N, w.μ, upd w.H (O i) o⟩ O σ (δ.set i (.own p')) s ∧ Stay w ⟨w.N, w.μ, upd w.H (O i) o⟩ := by
  obtain ⟨h1, h2, h3, h4⟩ := r.rel.sl i _ e
  have hi : i < δ.length := by
    rw [List.getElem?_eq_some_iff] at e
    exact e.1
  have stay : Stay w ⟨w.N, w.μ, upd w.H (O i) o⟩ := fun a u e hn => ⟨by show upd w.H (O i) o a = _; rw [upd_ne fun z => hn (by rw [z]; exact h2)]; exact e, hn⟩
  have ne : ∀ {a}, a ≠ O i → upd w.H (O i) o a = w.H a := fun h => upd_ne h
  have slv : ∀ {q : Sl} {v : V}, SlV K mg w q v → SlV K mg ⟨w.N, w.μ, upd w.H (O i) o⟩ q v := fun h => h.stay stay fun _ _ h => h
  refine ⟨⟨⟨⟨r.rel.st.mN, fun a ha => ?_, r.rel.st.len, r.rel.st.nd, fun l c a e1 e2 => ?_⟩, by rw [List.length_set]; exact r.rel.len, fun j q e' => ?_, fun j k p1 q1 e1 e2 hjk => ?_⟩, ⟨fun a u e' hm => ?_, r.nx.sub, r.nx.new, fun a u e' => ?_, r.nx.pre, r.nx.mu⟩, fun j p1 e' => ?_⟩, stay⟩
  · by_cases hj : a = O i
    · exact ⟨o, by rw [hj]; exact upd_same⟩
    · obtain ⟨u, e⟩ := r.rel.st.tr a ha; exact ⟨u, (ne hj).trans e⟩
  · have q := r.rel.st.cell l c a e1 e2
    have hne : a ≠ O i := fun z => h3 (by rw [← z]; exact List.mem_of_getElem? e2)
    cases c with
    | lst ds => exact OwnOk.stay (show OwnOk K w a (.list ds) from q) stay (ne hne)
    | ins c fs =>
      obtain ⟨C, dx, gs, e1, e2, e3⟩ := q
      exact ⟨C, dx, gs, e1, (ne hne).trans e2, Paired.mapP e3 fun x y h => ⟨h.1, slv h.2⟩⟩
  · by_cases hj : i = j
    · subst hj
      rw [List.getElem?_set_self hi] at e'
      cases e'
      exact ⟨h1, h2, h3, h⟩
    · rw [List.getElem?_set_ne hj] at e'
      have h := r.rel.sl j q e'
      cases q with
      | un => trivial
      | own p1 =>
        obtain ⟨g1, g2, g3, g4⟩ := h
        exact ⟨g1, g2, g3, g4.stay stay (ne fun z => hj (r.rel.inj j i _ _ e' e z).symm)⟩
      | v p => obtain ⟨v, h1, h2⟩ := h; exact ⟨v, h1, slv h2⟩
      | ref l => obtain ⟨v, h1, h2⟩ := h; exact ⟨v, h1, slv h2⟩
      | fn x => obtain ⟨v, h1, h2⟩ := h; exact ⟨v, h1, slv h2⟩
      | scr ns => obtain ⟨v, h1, h2⟩ := h; exact ⟨v, h1, slv h2⟩
  · have was : ∀ (m : Nat) q, (δ.set i (.own p'))[m]? = some (.own q) → ∃ q', δ[m]? = some (.own q') := fun m q e' => by
      by_cases hm : i = m
      · exact ⟨p, by rw [← hm]; exact e⟩
      · rw [List.getElem?_set_ne hm] at e'; exact ⟨q, e'⟩
    obtain ⟨_, f1⟩ := was j _ e1
    obtain ⟨_, f2⟩ := was k _ e2
    exact r.rel.inj j k _ _ f1 f2 hjk
  · have z := r.own i _ e
    exact (ne fun y => by rw [y, z] at e'; cases e').trans (r.nx.ext a u e' hm)
  · have z := r.own i _ e
    obtain ⟨u', e2⟩ := r.nx.there a u e'
    exact ⟨u', (ne fun y => by rw [y, z] at e'; cases e').trans e2⟩
  · by_cases hm : i = j
    · rw [← hm]; exact r.own i _ e
    · rw [List.getElem?_set_ne hm] at e'; exact r.own j _ e'
end
end Lay
namespace Lay
open PySem PySem.Spec PyProof.Rows L2
section
variable {X : Cx} {W : WX} {K : PySem.W.Frag} {mg : Str → Option Value} {B w w' w'' w0 : Wd} {s s' : Sto} {O : Nat → Addr} {σ : L2.St} {δ δ' : List Sl} {D : Ends}
/-- what is kept: shared from here on -/
theorem keep1 {z : Rv} {v : V} {p : PyData} (r : RelB K mg B w O σ δ s') (n : Nx w w') (r1 : RelB K mg B w' O σ δ s) (rr : RR K mg w w' z v) (e : z.sh = some p) :
    RelB K mg B (Wd.drop w w') O σ δ s ∧ RD K (Wd.drop w w') p v ∧ Stay w' (Wd.drop w w') :=
  ⟨⟨drop_rel r.rel n r1.rel.st, r.nx.trans (drop_nx n), r1.own⟩, rr.shd r.rel.st e, drop_stay⟩
/-- the slot's own list -/
def ownL (δ : List Sl) (i : Nat) : Option (List PyData) := match δ[i]? with
  | some (.own (.list ds)) => some ds
  | _ => none
theorem ownL_of {i : Nat} {ds : List PyData} (h : ownL δ i = some ds) : δ[i]? = some (.own (.list ds)) := by
  unfold ownL at h
  split at h
  · rename_i e; cases h; exact e
  · cases h
theorem RelB.ownL {i : Nat} {ds : List PyData} (r : RelB K mg B w O σ δ s) (h : ownL δ i = some ds) : σ[i]? = some (some (.ref (O i))) ∧ ∃ vs, w.H (O i) = some (.lst vs) ∧ vs.length ≤ sizeLine ∧ RDs K w ds vs := by
  obtain ⟨h1, h2, h3, h4⟩ := r.rel.sl i _ (ownL_of h)
  exact ⟨h1, h4⟩
theorem RDs.snoc {ds : List PyData} {vs : List V} {p : PyData} {v : V} (h : RDs K w ds vs) (h1 : RD K w p v) : RDs K w (ds ++ [p]) (vs ++ [v]) := h.append (.cons h1 .nil)
/-- the own list at slot i is vs' from now on -/
theorem RelB.putL {i : Nat} {ds ds' : List PyData} {vs' : List V} (r : RelB K mg B w O σ δ s) (h : Lay.ownL δ i = some ds) (hl : vs'.length ≤ sizeLine) (rd : RDs K w ds' vs') :
    RelB K mg B ⟨w.N, w.μ, upd w.H (O i) (.lst vs')⟩ O σ (δ.set i (.own (.list ds'))) s ∧ Stay w ⟨w.N, w.μ, upd w.H (O i) (.lst vs')⟩ := by
  obtain ⟨h1, h2, h3, h4⟩ := r.rel.sl i _ (ownL_of h)
  have stay : Stay w ⟨w.N, w.μ, upd w.H (O i) (.lst vs')⟩ := fun a u e hn => ⟨by show upd w.H (O i) _ a = _; rw [upd_ne fun z => hn (by rw [z]; exact h2)]; exact e, hn⟩
  exact r.updO (ownL_of h) ⟨vs', upd_same, hl, rd.stay stay⟩
def sAppO (i : Nat) (f : E) : S := fun δ s => match ownL δ i with
  | some ds => (f δ s).bind fun z s1 => match z.sh with
    | some p => if ds.length < lim then .ok (.nx (δ.set i (.own (.list (ds ++ [p]))))) s1 else .bad
    | none => .bad
  | none => .bad
theorem qs_appO {i : Nat} {x : Str} {e : Expr} {f : E} {p apos cpos pos : Pos} (he : QE X W e f) (hN : X.N[i]? = some x := by rfl) (hv : Vis X.env.scope x := by first | exact Or.inl rfl | exact Or.inr (Or.inl rfl) | exact Or.inr (Or.inr rfl)) (hd : (x == ("__debug__" : Str)) = false := by decide)
    (hcd : (x == ("__classdict__" : Str)) = false := by decide)
    (hbase : attributeBase (.Name x p) "append" X.env (eval (.Name x p) X.env) = eval (.Name x p) X.env := by rfl)
    (hfew : ((backTo cpos (starEach (e :: []) X.env)).all (fun x => !x.1) && (backToKw cpos (keywordEach [] X.env)).all (fun x => x.1.isSome)
      && decide ((e :: []).length + ([] : List Keyword).length + (if ([] : List Keyword).isEmpty then 0 else 1) < 30)) = true := by rfl)
    (hline : (apos.endLine == cpos.line) = true := by rfl) (hs : starEach (e :: []) X.env = (false, eval e X.env) :: starEach [] X.env := by rfl) (hplain : (backTo cpos (starEach [] X.env)).any (·.1) = false := by rfl)
    (hsw : swapsWith (.Call (.Attribute (.Name x p) "append" apos) [e] [] cpos) none pos.line X.env = pure false := by rfl) : QS X W B (.Expr (.Call (.Attribute (.Name x p) "append" apos) [e] [] cpos) pos) (sAppO i f) := by
  refine PS.weak (ps_expr (pe_bm PySem.F.plainAttrs_list PySem.F.slot_list_append PySem.F.type_list_append mt_append (pe_var hN hv hd hcd) (pa_cons he pa_nil hs) hbase hfew hline hs hplain) hsw) fun D σ H h => ?_
  obtain ⟨δ, s, w, O, rfl, r, h⟩ := h
  unfold sAppO at h
  cases hi : ownL δ i with
  | none => rw [hi] at h; exact h.elim
  | some ds =>
    rw [hi] at h
    obtain ⟨h1, vs0, h2, _, _⟩ := r.ownL hi
    refine ⟨_, h1, .inl ⟨rfl, vs0, SqL.of h2⟩, ?_⟩
    show wpE X.K X.mg W f σ w.H _
    refine exprS (D := D) r h fun z s1 w1 v n k r1 rr p1 => ?_
    split at p1
    · rename_i p2 e2
      split at p1
      · rename_i hl
        obtain ⟨r2, rd, k2⟩ := keep1 r n r1 rr e2
        obtain ⟨h3, vs, h4, h5, h6⟩ := r2.ownL hi
        have hlen := h6.length
        refine ⟨O i, vs, v, rfl, rfl, h4, by rw [← hlen, lim_eq]; exact hl, ?_⟩
        obtain ⟨r3, k3⟩ := r2.putL hi (vs' := vs ++ [v]) (by rw [List.length_append, List.length_singleton, ← hlen, lim_eq]; omega) (h6.snoc rd)
        exact p1 _ σ O ((k.trans k2).trans k3) r3
      · exact p1.elim
    · exact p1.elim
def sPopO (j i : Nat) : S := fun δ s => match ownL δ i with
  | some ds => match ds[ds.length - 1]? with
    | some d => .ok (.nx ((δ.set i (.own (.list ds.dropLast))).set j (.v d))) s
    | none => .bad
  | none => .bad
theorem RDs.dropLast : ∀ {ds : List PyData} {vs : List V}, RDs K w ds vs → RDs K w ds.dropLast vs.dropLast
  | _, _, .nil => .nil
  | _, _, .cons _ .nil => .nil
  | _, _, .cons r (.cons r' t) => .cons r (RDs.dropLast (.cons r' t))
theorem qs_popO {j i : Nat} {y x : Str} {p py apos cpos pos : Pos} (hNd : X.N.Nodup := by assumption) (hN : X.N[i]? = some x := by rfl) (hv : Vis X.env.scope x := by first | exact Or.inl rfl | exact Or.inr (Or.inl rfl) | exact Or.inr (Or.inr rfl)) (hd : (x == ("__debug__" : Str)) = false := by decide)
    (hcd : (x == ("__classdict__" : Str)) = false := by decide) (hj : X.N[j]? = some y := by rfl) (hy : Loc X.env.scope y := by first | exact Or.inl rfl | exact Or.inr rfl) (hf : X.fn y = true ∨ X.env.scope.names.lookup y = some .local := by first | exact .inl rfl | exact .inr rfl | assumption)
    (hbase : attributeBase (.Name x p) "pop" X.env (eval (.Name x p) X.env) = eval (.Name x p) X.env := by rfl) (hline : (apos.endLine == cpos.line) = true := by rfl)
    (hs : swapsWith (.Call (.Attribute (.Name x p) "pop" apos) [] [] cpos) (some (.Name y py)) pos.line X.env = pure false := by rfl) : QS X W B (.Assign [.Name y py] (.Call (.Attribute (.Name x p) "pop" apos) [] [] cpos) pos) (sPopO j i) := by
  refine PS.weak (ps_set hNd hj hy (pe_bm0 PySem.F.plainAttrs_list PySem.F.slot_list_pop PySem.F.type_list_pop mt_pop (pe_var hN hv hd hcd) hbase hline) hs hf) fun D σ H h => ?_
  obtain ⟨δ, s, w, O, rfl, r, h⟩ := h
  unfold sPopO at h
  cases hi : ownL δ i with
  | none => rw [hi] at h; exact h.elim
  | some ds =>
    rw [hi] at h
    simp only at h
    split at h
    · rename_i d e
      obtain ⟨h3, vs, h4, h5, h6⟩ := r.ownL hi
      have e' := e
      rw [h6.length] at e'
      obtain ⟨v, ev, rd⟩ := h6.get e'
      refine ⟨_, h3, .inl ⟨rfl, vs, SqL.of h4⟩, O i, vs, v, rfl, rfl, h4, ev, ?_⟩
      obtain ⟨r3, k3⟩ := r.putL hi (vs' := vs.dropLast) (by rw [List.length_dropLast]; omega) h6.dropLast
      exact h _ _ O k3 (r3.setQ (q := .v d) rfl (.inr (rd.stay k3)))
    · exact h.elim
def sExtO (i : Nat) (f : E) : S := fun δ s => match ownL δ i with
  | some ds => (f δ s).bind fun z s1 => match z.pd s1 with
    | some (.list qs) => if ds.length + qs.length ≤ lim then .ok (.nx (δ.set i (.own (.list (ds ++ qs))))) s1 else .bad
    | _ => .bad
  | none => .bad
theorem qs_extO {i : Nat} {x : Str} {e : Expr} {f : E} {pos pos' : Pos} (he : QE X W e f) (hN : X.N.Nodup := by assumption) (hi : X.N[i]? = some x := by rfl) (hx : Loc X.env.scope x := by first | exact Or.inl rfl | exact Or.inr rfl) (hf : X.fn x = true ∨ X.env.scope.names.lookup x = some .local := by first | exact .inl rfl | exact .inr rfl | assumption) :
    QS X W B (.AugAssign (.Name x pos') .Add e pos) (sExtO i f) := by
  refine PS.weak (ps_aug hN hi hx he (show PIp X .Add rExt2 from iop_ext) hf) fun D σ H h => ?_
  obtain ⟨δ, s, w, O, rfl, r, h⟩ := h
  unfold sExtO at h
  cases hi : ownL δ i with
  | none => rw [hi] at h; exact h.elim
  | some ds =>
    rw [hi] at h
    obtain ⟨h1, vs0, h2, _, _⟩ := r.ownL hi
    refine ⟨_, h1, ?_⟩
    refine exprS (D := D) r h fun z s1 w1 v n k r1 rr p1 => ?_
    split at p1
    · rename_i qs e2
      split at p1
      · rename_i hl
        obtain ⟨h3, vs, h4, h5, h6⟩ := r1.ownL hi
        obtain ⟨b, us, rfl, g1, g2, g3⟩ := (rr.rb r1.rel.st e2).lst
        have hlen := h6.length
        have hlen2 := g3.length
        refine ⟨O i, b, vs, us, rfl, rfl, h4, g1, by rw [← hlen, ← hlen2, lim_eq]; exact hl, ?_⟩
        obtain ⟨r3, k3⟩ := r1.putL hi (vs' := vs ++ us) (by rw [List.length_append, ← hlen, ← hlen2, lim_eq]; omega) (h6.append g3)
        have e5 : σ.set i (some (.ref (O i))) = σ := by
          obtain ⟨hlt, e6⟩ := List.getElem?_eq_some_iff.mp h1
          rw [← e6]; exact List.set_getElem_self hlt
        rw [e5]
        exact p1 _ σ O (k.trans k3) r3
      · exact p1.elim
    · exact p1.elim
def opIAdd : PyData → PyData → Option PyData
  | .int i, .int j => some (.int (i + j))
  | .str x, .str y => if x.length + y.length ≤ lim then some (.str (x ++ y)) else none
  | _, _ => none
def sAugV (i : Nat) (f : E) : S := fun δ s => match δ[i]? with
  | some (.v p) => (f δ s).bind fun z s1 => match z with
    | .v q => match opIAdd p q with
      | some d => .ok (.nx (δ.set i (.v d))) s1
      | none => .bad
    | _ => .bad
  | _ => .bad
theorem qs_augV {i : Nat} {x : Str} {e : Expr} {f : E} {pos pos' : Pos} (he : QE X W e f) (hN : X.N.Nodup := by assumption) (hi : X.N[i]? = some x := by rfl) (hx : Loc X.env.scope x := by first | exact Or.inl rfl | exact Or.inr rfl) (hf : X.fn x = true ∨ X.env.scope.names.lookup x = some .local := by first | exact .inl rfl | exact .inr rfl | assumption) :
    QS X W B (.AugAssign (.Name x pos') .Add e pos) (sAugV i f) := by
  refine PS.weak (ps_aug hN hi hx he (show PIp X .Add _ from iop_add.or iop_add_str) hf) fun D σ H h => ?_
  obtain ⟨δ, s, w, O, rfl, r, h⟩ := h
  unfold sAugV at h
  split at h
  · rename_i p hp
    obtain ⟨x0, h1, rd0⟩ := r.rel.sl i _ hp
    have rd0 : RD X.K w p x0 := rd0
    refine ⟨x0, h1, ?_⟩
    refine exprS (D := D) r h fun z s1 w1 v n k r1 rr p1 => ?_
    split at p1
    · rename_i q
      have rr : RD X.K w1 q v := rr
      split at p1
      · rename_i d ed
        unfold opIAdd at ed
        split at ed
        · cases ed
          cases rd0
          cases rr
          exact .inl ⟨_, _, rfl, rfl, p1 w1 _ O k (r1.setQ (q := .v _) rfl (.inr (RD.int _)))⟩
        · split at ed
          · rename_i hl
            cases ed
            cases rd0 with
            | str _ a1 a2 =>
              cases rr with
              | str _ b1 b2 => exact .inr ⟨_, _, rfl, rfl, by rw [lim_eq]; exact hl, p1 w1 _ O k (r1.setQ (q := .v _) rfl (.inr (RD.str _ (by rw [len_app, lim_eq]; exact hl) (strOk_app a2 b2))))⟩
          · cases ed
        · cases ed
      · exact p1.elim
    · exact p1.elim
  · exact h.elim
def sSetO (i : Nat) (fi fv : E) : S := fun δ s => (fv δ s).bind fun z s1 => match ownL δ i with
  | some ds => (fi δ s1).bind fun k s2 => match k, z.sh with
    | .v (.int j), some p => match ixN ds.length j with
      | some n => .ok (.nx (δ.set i (.own (.list (ds.set n p))))) s2
      | none => .bad
    | _, _ => .bad
  | none => .bad
theorem RDs.set : ∀ {ds : List PyData} {vs : List V} {p : PyData} {v : V} (n : Nat), RDs K w ds vs → RD K w p v → RDs K w (ds.set n p) (vs.set n v)
  | _, _, _, _, _, .nil, _ => .nil
  | _, _, _, _, 0, .cons _ t, h => .cons h t
  | _, _, _, _, n + 1, .cons r t, h => .cons r (RDs.set n t h)
theorem qs_setO {i : Nat} {x : Str} {ei ev : Expr} {fi fv : E} {p sp pos : Pos} (hv0 : QE X W ev fv) (hi0 : QE X W ei fi) (hN : X.N[i]? = some x := by rfl) (hv : Vis X.env.scope x := by first | exact Or.inl rfl | exact Or.inr (Or.inl rfl) | exact Or.inr (Or.inr rfl)) (hd : (x == ("__debug__" : Str)) = false := by decide)
    (hcd : (x == ("__classdict__" : Str)) = false := by decide)
    (ha : ∀ v, assign (.Subscript (.Name x p) ei sp) X.env v = (do
      let ov ← holding [v] (eval (.Name x p) X.env)
      let iv ← holding [v, ov] (eval ei X.env)
      standAt sp
      holding [v, ov, iv] (setItem ov iv v)
      release [v, ov, iv] []) := by intro _; rfl)
    (hs : swapsWithSole [.Subscript (.Name x p) ei sp] ev pos.line X.env = pure false := by rfl) (hw : swappedStores [.Subscript (.Name x p) ei sp] ev X.env = pure none := by rfl)
    (h1 : (assignEach [.Subscript (.Name x p) ei sp] X.env).map (·.2) = [assign (.Subscript (.Name x p) ei sp) X.env] := by rfl) : QS X W B (.Assign [.Subscript (.Name x p) ei sp] ev pos) (sSetO i fi fv) := by
  refine PS.weak (ps_asg hv0 (pg_sub (pe_var hN hv hd hcd) hi0 set_list ha) hs hw h1) fun D σ H h => ?_
  obtain ⟨δ, s, w, O, rfl, r, h⟩ := h
  refine exprS (D := D) r h fun z s1 w1 v n k r1 rr p1 => ?_
  cases hi : ownL δ i with
  | none => rw [hi] at p1; exact p1.elim
  | some ds =>
    rw [hi] at p1
    obtain ⟨h3, _⟩ := r1.ownL hi
    refine ⟨_, h3, ?_⟩
    refine exprS (D := D) r1 (PostS.rebase p1 k) fun z2 s2 w2 v2 n2 k2 r2 rr2 p2 => ?_
    split at p2
    · rename_i j p' e2
      have rr2 : RD X.K w2 (.int j) v2 := rr2
      cases rr2
      split at p2
      · rename_i m hm
        obtain ⟨r3, rd, k3⟩ := keep1 r (n.trans n2) r2 (rr.on n2 r1.rel.st.mN) e2
        obtain ⟨h5, vs, h6, h7, h8⟩ := r3.ownL hi
        refine ⟨O i, vs, j, m, rfl, rfl, h6, by rw [← h8.length]; exact hm, ?_⟩
        obtain ⟨r4, k4⟩ := r3.putL hi (vs' := vs.set m v) (by rw [List.length_set]; exact h7) (h8.set m rd)
        exact p2 _ σ O ((k2.trans k3).trans k4) r4
      · exact p2.elim
    · exact p2.elim
theorem RelB.updC {l : Nat} {a : Addr} {o : HO} {c : Cell} (r : RelB K mg B w O σ δ s) (e : w.μ[l]? = some a) (h : CellOk K mg ⟨w.N, w.μ, upd w.H a o⟩ a c) :
    RelB K mg B ⟨w.N, w.μ, upd w.H a o⟩ O σ δ (s.set l c) ∧ Stay w ⟨w.N, w.μ, upd w.H a o⟩ ∧ Nx w ⟨w.N, w.μ, upd w.H a o⟩ := by
  have hm : a ∈ w.μ := List.mem_of_getElem? e
  have hn := r.rel.st.mN a hm
  have ne : ∀ {b}, b ≠ a → upd w.H a o b = w.H b := fun h => upd_ne h
  have n : Nx w ⟨w.N, w.μ, upd w.H a o⟩ := ⟨fun b u e hb => (ne fun z => hb (by rw [z]; exact hm)).trans e, fun _ h => h, fun _ h => .inl h, fun b u e => by
    by_cases hb : b = a
    · exact ⟨o, by rw [hb]; exact upd_same⟩
    · exact ⟨u, (ne hb).trans e⟩, fun _ _ h => h, fun _ h => .inl h⟩
  have stay := n.stay r.rel.st.mN
  refine ⟨⟨r.rel.next n ⟨r.rel.st.mN, fun b hb => ?_, by rw [List.length_set]; exact r.rel.st.len, r.rel.st.nd, fun l' c' b e1 e2 => ?_⟩, r.nx.trans n, r.own⟩, stay, n⟩
  · obtain ⟨u, e⟩ := r.rel.st.tr b hb
    exact n.there b u e
  · by_cases hl : l = l'
    · subst hl
      have e2 : w.μ[l]? = some b := e2
      rw [e] at e2
      cases e2
      rw [List.getElem?_set] at e1
      rw [if_pos rfl] at e1
      split at e1
      · cases e1; exact h
      · cases e1
    · rw [List.getElem?_set_ne hl] at e1
      have q := r.rel.st.cell l' c' b e1 e2
      have hne : b ≠ a := fun z => hl (by
        have e2 : w.μ[l']? = some b := e2
        rw [z] at e2
        obtain ⟨q1, q2⟩ := List.getElem?_eq_some_iff.mp e
        obtain ⟨q3, q4⟩ := List.getElem?_eq_some_iff.mp e2
        exact (List.getElem_inj r.rel.st.nd).mp (q2.trans q4.symm))
      cases c' with
      | lst ds => exact OwnOk.stay (show OwnOk K w b (.list ds) from q) stay (ne hne)
      | ins cc fs =>
        obtain ⟨C, dx, gs, e1, e2, e3⟩ := q
        exact ⟨C, dx, gs, e1, (ne hne).trans e2, Paired.mapP e3 fun x y h => ⟨h.1, SlV.stay h.2 stay fun _ _ h => h⟩⟩
def sSetC (fo fi fv : E) : S := fun δ s => (fv δ s).bind fun z s1 => (fo δ s1).bind fun o s2 => (fi δ s2).bind fun k s3 => match o, k, z.sh with
  | .ref l, .v (.int j), some p => match s3[l]? with
    | some (.lst ds) => match ixN ds.length j with
      | some n => .ok (.nx δ) (s3.set l (.lst (ds.set n p)))
      | none => .bad
    | _ => .bad
  | _, _, _ => .bad
theorem qs_setC {eo ei ev : Expr} {fo fi fv : E} {sp pos : Pos} (hv0 : QE X W ev fv) (ho0 : QE X W eo fo) (hi0 : QE X W ei fi)
    (ha : ∀ v, assign (.Subscript eo ei sp) X.env v = (do
      let ov ← holding [v] (eval eo X.env)
      let iv ← holding [v, ov] (eval ei X.env)
      standAt sp
      holding [v, ov, iv] (setItem ov iv v)
      release [v, ov, iv] []) := by intro _; rfl)
    (hs : swapsWithSole [.Subscript eo ei sp] ev pos.line X.env = pure false := by rfl) (hw : swappedStores [.Subscript eo ei sp] ev X.env = pure none := by rfl)
    (h1 : (assignEach [.Subscript eo ei sp] X.env).map (·.2) = [assign (.Subscript eo ei sp) X.env] := by rfl) : QS X W B (.Assign [.Subscript eo ei sp] ev pos) (sSetC fo fi fv) := by
  refine PS.weak (ps_asg hv0 (pg_sub ho0 hi0 set_list ha) hs hw h1) fun D σ H h => ?_
  obtain ⟨δ, s, w, O, rfl, r, h⟩ := h
  refine exprS (D := D) r h fun z s1 w1 v n k r1 rr p1 => ?_
  refine exprS (D := D) r1 (PostS.rebase p1 k) fun o s2 w2 v2 n2 k2 r2 rr2 p2 => ?_
  refine exprS (D := D) r2 (PostS.rebase p2 k2) fun z3 s3 w3 v3 n3 k3 r3 rr3 p3 => ?_
  split at p3
  · rename_i l j p' e2
    have rr3 : RD X.K w3 (.int j) v3 := rr3
    cases rr3
    obtain ⟨a, e3, rfl⟩ := rr2
    split at p3
    · rename_i ds e4
      split at p3
      · rename_i m hm
        obtain ⟨r4, rd, k4⟩ := keep1 r ((n.trans n2).trans n3) r3 (rr.on (n2.trans n3) r1.rel.st.mN) e2
        have e5 : (Wd.drop w w3).μ[l]? = some a := n3.pre _ _ e3
        obtain ⟨vs, h6, h7, h8⟩ := r4.rel.st.cell l _ a e4 e5
        refine ⟨a, vs, j, m, rfl, rfl, h6, by rw [← h8.length]; exact hm, ?_⟩
        have hN := r4.rel.st.mN a (List.mem_of_getElem? e5)
        have stay : Stay (Wd.drop w w3) ⟨(Wd.drop w w3).N, (Wd.drop w w3).μ, upd (Wd.drop w w3).H a (.lst (vs.set m v))⟩ := fun b u e hn => ⟨by show upd (Wd.drop w w3).H a _ b = _; rw [upd_ne fun z => hn (by rw [z]; exact hN)]; exact e, hn⟩
        obtain ⟨r5, k5, _⟩ := r4.updC (c := .lst (ds.set m p')) (o := .lst (vs.set m v)) e5 ⟨vs.set m v, upd_same, by rw [List.length_set]; exact h7, (h8.set m rd).stay stay⟩
        exact p3 _ σ O ((k3.trans k4).trans k5) r5
      · exact p3.elim
    · exact p3.elim
  · exact p3.elim
end
end Lay
namespace PySem
open Sem (wp)
theorem meets_enumerate_new1 {v : Value} {o : Obj} {H : Heap → Prop} (B : Begins v o H) :
    Meets (Builtin.«enumerate.__new__» ⟨[.type "enumerate", v], []⟩) (fun _ R s => H s.heap ∧
      R (.ok (.ret (.ref (s.heap.push o).objs.size))) { s with heap := (s.heap.push o).push { cls := .type "enumerate", data := .fields #[.none, .bool false, .ref s.heap.objs.size, rawInt 0, .none, .none] } }) :=
  .of_wp fun prog w A R s h => by
    obtain ⟨hp, g, d, tk, os⟩ := s; obtain ⟨h1, h⟩ := h
    have hsub := sub_enumerate
    have q1 : ∀ {A' : Around} {E : Value → Shared → Prop} {Q : Value → Shared → Prop}, Q (.ref hp.objs.size) ⟨hp.push o, g, d, tk, os⟩ → wpAny (model prog w) A' (pyIter v) Q E ⟨hp, g, d, tk, os⟩ :=
      fun q => B.iter prog w _ _ ⟨hp, g, d, tk, os⟩ _ h1 q
    wp_walk using q1
    refine wpAny_stack_any fun st => wpAny_pure ?_
    split
    · rename_i c _ _ _ _ _
      cases (c == Value.type "enumerate")
      · wp_walk using q1
        exact ⟨_, rfl, h⟩
      · wp_walk using q1
        exact ⟨_, rfl, h⟩
    · wp_walk using q1
      exact ⟨_, rfl, h⟩
section
variable {prog : Program} {w : World} {A : Around} {E : Value → Shared → Prop} {s : Shared}
theorem enum_begins1 {v : Value} {o : Obj} {H : Heap → Prop} {Q : Value → Shared → Prop} (B : Begins v o H) (h1 : H s.heap)
    (h : ∀ h', IsEnum h' (s.heap.objs.size + 1) s.heap.objs.size 0 .none → h'.get? s.heap.objs.size = some o → h'.objs.size = s.heap.objs.size + 2 →
      (∀ b o, s.heap.get? b = some o → h'.get? b = some o) → Q (.ref (s.heap.objs.size + 1)) { s with heap := h' }) :
    wpAny (model prog w) A (call (.type "enumerate") [v]) Q E s := by
  refine callType_new F.called_enumerate (by decide) (F.typeCall_enumerate_1 _) (F.newCall_enumerate_1 _) (fun obj => F.args_object_init_2 obj _) F.entry_enumerate_new
    (meets_enumerate_new1 B) ⟨h1, ?_⟩
  have hz : (s.heap.push o).objs.size = s.heap.objs.size + 1 := Heap.size_push ..
  show _ ∧ _
  rw [hz]
  have he : IsEnum ((s.heap.push o).push { cls := .type "enumerate", data := .fields #[.none, .bool false, .ref s.heap.objs.size, rawInt 0, .none, .none] }) (s.heap.objs.size + 1) s.heap.objs.size 0 .none := by
    have := Heap.get?_push_size (s.heap.push o) (o := { cls := .type "enumerate", data := .fields #[.none, .bool false, .ref s.heap.objs.size, rawInt 0, .none, .none] }) rfl
    rw [hz] at this; exact this
  refine ⟨⟨_, he, rfl⟩, h _ he (Heap.get?_push_of_some _ (Heap.get?_push_size _ B.free)) (by rw [Heap.size_push, hz]) fun b o x => Heap.get?_push_of_some _ (Heap.get?_push_of_some _ x)⟩
end
end PySem
namespace Lay
open PySem PySem.Spec PyProof.Rows L2
/-- what an iterator draws from -/
inductive Src where
  | lst (a : Addr) | tup (a : Addr) | txt (x : Str)
def Src.v : Src → V
  | .lst a => .ref a
  | .tup a => .ref a
  | .txt x => .str x
def sigV (x : Str) : List V := x.cps.toList.map fun c => V.str ⟨#[c]⟩
def Src.has (K : PySem.W.Frag) (H : Hp) : Src → List V → Prop
  | .lst a, xs => SqL K H a xs
  | .tup a, xs => SqT K H a xs
  | .txt x, xs => xs = sigV x
def Src.it : Src → Tok → Addr → Nat → Heap → Prop
  | .lst a, _, it, i, h => h.IsListIter it a i
  | .tup a, _, it, i, h => h.IsTupleIter it a i
  | .txt x, t, it, i, h => h.IsStrIter it (strIterType x) x t i
def Src.at : Src → Array Value → Heap → Prop
  | .lst a, us, h => h.IsList a us
  | .tup a, us, h => h.IsTuple a us
  | .txt _, _, _ => True
def Src.fp : Src → List Addr
  | .lst a => [a]
  | .tup a => [a]
  | .txt _ => []
def Src.P : Src → Array Value → Nat → Value → Prop
  | .lst _, us, i, v => us[i]? = some v
  | .tup _, us, i, v => us[i]? = some v
  | .txt x, _, i, v => ∃ c u, x.cps[i]? = some c ∧ v = .str ⟨#[c]⟩ u
def Src.n : Src → Array Value → Nat
  | .lst _, us => us.size
  | .tup _, us => us.size
  | .txt x, _ => x.cps.size
def Src.obj : Src → Tok → Obj
  | .lst a, _ => { cls := .type "list_iterator", data := .fields #[.ref a, .int 0 0] }
  | .tup a, _ => { cls := .type "tuple_iterator", data := .fields #[.ref a, .int 0 0] }
  | .txt x, t => { cls := .type (strIterType x), data := .fields #[.str x t, .int 0 0] }
def Src.val : Src → Tok → Value
  | .lst a, _ => .ref a
  | .tup a, _ => .ref a
  | .txt x, t => .str x t
theorem Src.begins (S : Src) (t : Tok) (us : Array Value) : Begins (S.val t) (S.obj t) (S.at us) := by
  cases S with
  | lst a => exact begins_list a us
  | tup a => exact begins_tuple a us
  | txt x => exact begins_text x t
theorem Src.it0 {S : Src} {t : Tok} {it : Addr} {h : Heap} (e : h.get? it = some (S.obj t)) : S.it t it 0 h := by
  cases S with
  | lst a => exact ⟨_, e, rfl, rfl⟩
  | tup a => exact ⟨_, e, rfl, rfl⟩
  | txt x => exact ⟨_, e, rfl, rfl⟩
theorem Src.draws {P : Program} {w : World} {A : Around} (hh : A.handled = none) (S : Src) (t : Tok) (it : Addr) (us : Array Value) (hne : ∀ a ∈ S.fp, a ≠ it) : Draws P w A it (it :: S.fp) (S.n us) (S.P us) (fun i h => S.it t it i h ∧ S.at us h) := by
  cases S with
  | lst a => exact Draws.list hh it a (hne a (by simp [Src.fp])) us
  | tup a => exact Draws.tuple hh it a (hne a (by simp [Src.fp])) us
  | txt x =>
    have D := Draws.text (prog := P) (w := w) hh it x t
    exact ⟨fun i h st => D.live i h st.1, fun i h h' st k => ⟨D.frame i h h' st.1 k, trivial⟩, fun i s Q E hi st hQ => D.item i s Q E hi st.1 fun x h' tk a b c => hQ x h' tk a ⟨b, trivial⟩ c, fun s Q E st hE => D.done s Q E st.1 hE⟩
theorem Src.it_obj {S : Src} {t : Tok} {it : Addr} {i : Nat} {h : Heap} (st : S.it t it i h) : ∃ o, h.get? it = some o ∧ ∀ v, o.data ≠ .cell v := by
  cases S with
  | lst a => obtain ⟨o, e, c, d⟩ := st; exact ⟨o, e, fun v z => by rw [d] at z; cases z⟩
  | tup a => obtain ⟨o, e, c, d⟩ := st; exact ⟨o, e, fun v z => by rw [d] at z; cases z⟩
  | txt x => obtain ⟨o, e, c, d⟩ := st; exact ⟨o, e, fun v z => by rw [d] at z; cases z⟩
theorem Src.it_keep {S : Src} {t : Tok} {it : Addr} {i : Nat} {h h' : Heap} (st : S.it t it i h) (k : ∀ o, h.get? it = some o → h'.get? it = some o) : S.it t it i h' := by
  cases S with
  | lst a => exact Heap.IsListIter.at st fun o e => k o e
  | tup a => exact Heap.IsTupleIter.at st fun o e => k o e
  | txt x => obtain ⟨o, e, r⟩ := st; exact ⟨o, k o e, r⟩
section
variable {X : Cx} {pins : List (Addr × Obj)} {σ : L2.St} {H : Hp} {s : Shared}
/-- the source as it stands -/
theorem src_of {S : Src} {xs : List V} (I : Inv X pins σ H s) (h : S.has X.K H xs) : ∃ us : Array Value, S.at us s.heap ∧ S.n us = xs.length ∧ (∀ (i : Nat) x v, xs[i]? = some x → S.P us i v → RelV x v) ∧ ∀ a ∈ S.fp, a < s.heap.objs.size := by
  cases S with
  | lst a =>
    obtain ⟨its, rv, p, hz⟩ := I.list h
    refine ⟨its.toArray, p.isList, by simp [Src.n, rv.length], fun i x v hx hv => ?_, fun b hb => ?_⟩
    · obtain ⟨u, hu, ru⟩ := rv.get hx
      have hv : its.toArray[i]? = some v := hv
      rw [List.getElem?_toArray, hu] at hv
      cases hv; exact ru
    · rw [List.mem_singleton.mp hb]; exact p.lt
  | tup a =>
    obtain ⟨its, rv, p, hz⟩ := I.tuple h
    refine ⟨its.toArray, p, by simp [Src.n, rv.length], fun i x v hx hv => ?_, fun b hb => ?_⟩
    · obtain ⟨u, hu, ru⟩ := rv.get hx
      have hv : its.toArray[i]? = some v := hv
      rw [List.getElem?_toArray, hu] at hv
      cases hv; exact ru
    · rw [List.mem_singleton.mp hb]
      obtain ⟨o, e, _⟩ := p
      exact Heap.lt_size e
  | txt x =>
    have h : xs = sigV x := h
    refine ⟨#[], trivial, by simp [Src.n, h, sigV], fun i y v hx hv => ?_, fun b hb => absurd hb (by simp [Src.fp])⟩
    obtain ⟨c, u, e, rfl⟩ := hv
    rw [h, sigV, List.getElem?_map, Array.getElem?_toList, e] at hx
    cases hx
    exact ⟨u, rfl⟩
theorem src_inj {S : Src} {xs ys : List V} (I : Inv X pins σ H s) (h : S.has X.K H xs) (h' : S.has X.K H ys) : xs = ys := by
  cases S with
  | lst a => exact I.list_inj h h'
  | tup a => exact I.tuple_inj h h'
  | txt x => exact Eq.trans h (Eq.symm h')
end
/-- each item in a new pair with its number -/
def ItE (K : PySem.W.Frag) (S : Src) : It :=
  ⟨fun i H => ∃ (xs : List V) (x : V), S.has K H xs ∧ xs[i]? = some x, fun i H v H' => ∃ T x, v = .ref T ∧ H T = none ∧ H' = upd H T (.tup [.int (i : Nat), x]) ∧ ∀ xs, S.has K H xs → xs[i]? = some x, fun i H => ∃ xs : List V, S.has K H xs ∧ i = xs.length⟩
theorem turn_enumS {P : Program} {w : World} {K : PySem.W.Frag} {elts : List Expr} {kk : Nat} {tpos : Pos} {e it : Addr} {S : Src} {t : Tok} (h1 : e ≠ it) (h2 : ∀ a ∈ S.fp, a ≠ e ∧ a ≠ it) :
    Turn P w K (.Tuple elts kk tpos) (ItE K S) [e, it] e (fun i h => (∃ old, IsEnum h e it ((i : Nat) : Int) old) ∧ S.it t it i h) where
  mem := by simp
  obj := fun i h st b hb => by
    obtain ⟨⟨old, he⟩, hi⟩ := st
    have e' : b = e ∨ b = it := by simpa using hb
    rcases e' with z | z
    · rw [z]; exact ⟨_, he, fun v q => nomatch q⟩
    · rw [z]; exact Src.it_obj hi
  keep := fun i h h' st k => let ⟨⟨old, he⟩, hi⟩ := st; ⟨⟨old, k e (by simp) _ he⟩, Src.it_keep hi fun o q => k it (by simp) o q⟩
  item := by
    intro X hP hw hK hc i pins s σ H E I hf st hg
    subst hP hw hK
    obtain ⟨xs, x, hq, hx⟩ := hg
    obtain ⟨us, hat, hn, hrel, hlt⟩ := src_of I hq
    have hef : e ∉ it :: S.fp := fun hm => by
      rcases List.mem_cons.mp hm with z | z
      · exact h1 z
      · exact (h2 e z).1 rfl
    have D : Draws X.prog X.w X.A.in1 it (it :: S.fp) (S.n us) (S.P us) (fun i h => S.it t it i h ∧ S.at us h) := Src.draws (show X.A.in1.handled = none from I.ok.hd hc) S t it us fun a ha => (h2 a ha).2
    have W := WalksT.enumerateD D e h1 hef List.mem_cons_self
    have hin : i < S.n us := by
      rw [hn]
      exact (List.getElem?_eq_some_iff.mp hx).1
    refine W.item i s _ _ hin ⟨st.1, st.2, hat⟩ fun T vals h' tk hp hT hTup hmid hk => ?_
    obtain ⟨tt, u, hu, rfl⟩ := hp
    refine ⟨_, rfl, W.go elts kk tpos i T _ _ _ hmid fun h'' hst'' hk2 => ?_⟩
    have hTw := W.apart i T h' hmid
    have ru := hrel i x u hx hu
    obtain ⟨o, ho, hco, n, hd⟩ := hTup
    have hT2 := hk2 T o hTw ho
    have new : ObjOk X.prog X.w (upd H T (.tup [.int (i : Nat), x])) h'' T (.tup [.int (i : Nat), x]) :=
      ⟨by show 2 ≤ sizeLine; decide, [.int i tt, u], .cons ⟨_, rfl⟩ (.cons ru .nil), ⟨o, hT2, hco, n, hd⟩⟩
    have I1 : Inv X pins σ (upd H T (.tup [.int (i : Nat), x])) { s with heap := h'', toks := tk } :=
      I.turnedNew (ch := [e, it]) (fun b ob hb q => hk2 b ob hb (hk b ob hb q)) hf hT new
    refine ⟨.ref T, _, I1, rfl, ⟨T, x, rfl, I.hok.fresh hT, rfl, fun ys hy => by rw [src_inj I hy hq]; exact hx⟩, ⟨?_, hst''.2.1⟩, fun b hb => ?_⟩
    · obtain ⟨old, ho⟩ := hst''.1
      exact ⟨old, ho⟩
    · have e' : b = e ∨ b = it := by simpa using hb
      have hb' : b < s.heap.objs.size := by
        rcases e' with z | z
        · rw [z]; obtain ⟨old, he⟩ := st.1; exact Heap.lt_size he
        · rw [z]; obtain ⟨o, he, _⟩ := Src.it_obj st.2; exact Heap.lt_size he
      rw [upd_ne (Nat.ne_of_lt (Nat.lt_of_lt_of_le hb' hT))]
      exact (hf b hb).1
  done := by
    intro X hP hw hK hc i pins s σ H E I hf st hg
    subst hP hw hK
    obtain ⟨xs, hq, rfl⟩ := hg
    obtain ⟨us, hat, hn, hrel, hlt⟩ := src_of I hq
    have hef : e ∉ it :: S.fp := fun hm => by
      rcases List.mem_cons.mp hm with z | z
      · exact h1 z
      · exact (h2 e z).1 rfl
    have D : Draws X.prog X.w X.A.in1 it (it :: S.fp) (S.n us) (S.P us) (fun i h => S.it t it i h ∧ S.at us h) := Src.draws (show X.A.in1.handled = none from I.ok.hd hc) S t it us fun a ha => (h2 a ha).2
    have W := WalksT.enumerateD D e h1 hef List.mem_cons_self
    refine W.done s _ _ (by rw [hn]; exact ⟨st.1, st.2, hat⟩) fun h' tk hk => ⟨rfl, ?_⟩
    exact I.turnedL (ch := [e, it]) (fun b ob hb q => hk b ob hb q) hf
  self := fun A i s Q E st h => let ⟨⟨_, he⟩, _⟩ := st; wpAny_pyIter_enum he h
def iEnumS (K : PySem.W.Frag) (ta : TA) : TI := fun σ H R => ta σ H fun vs H1 => ∃ (S : Src) (xs : List V), vs = [S.v] ∧ S.has K H1 xs ∧ R (ItE K S) H1
theorem src_val {S : Src} {u : Value} (r : RelV S.v u) : ∃ t, u = S.val t := by
  cases S with
  | lst a => cases r; exact ⟨0, rfl⟩
  | tup a => cases r; exact ⟨0, rfl⟩
  | txt x => obtain ⟨t, rfl⟩ := r; exact ⟨t, rfl⟩
theorem pi_enumS {X : Cx} {e : Expr} {ta : TA} {p pos tpos : Pos} {elts : List Expr} {kk : Nat} (hg : Gl X "enumerate") (hm : X.mg "enumerate" = none) (ha : PA X [e] ta) (hs : starEach [e] X.env = [(false, eval e X.env)] := by rfl) :
    PI X (.Tuple elts kk tpos) (.Call (.Name "enumerate" p) [e] [] pos) (iEnumS X.K ta) := by
  refine ⟨fun pins s σ H R I h => ?_⟩
  refine Call_ (ld_blt I hg hm boot_enumerate (PyProof.Rows.callWith_type1 (thn (ha.run pos pins s σ H _ I h) fun us s1 ⟨vs, H1, I1, r1, q1⟩ => ?_) hs rfl))
  obtain ⟨S, xs, ex, hq, q⟩ := q1
  subst ex
  cases r1 with
  | cons r rr =>
    cases rr
    obtain ⟨t, rfl⟩ := src_val r
    obtain ⟨its, hat, hn, hrel, hlt⟩ := src_of I1 hq
    refine enum_begins1 (S.begins t its) hat fun h' he hit hsz hk => wpAny_pyIter_enum he ?_
    have I2 : Inv X pins σ H1 { s1 with heap := h' } := I1.kept (t' := s1.toks) hk
    refine ⟨s1.heap.objs.size + 1, [s1.heap.objs.size + 1, s1.heap.objs.size], _, _, H1, rfl, I2, turn_enumS (S := S) (t := t) (e := s1.heap.objs.size + 1) (it := s1.heap.objs.size) (Nat.succ_ne_self _) (fun a ha => ?_), ⟨⟨.none, he⟩, Src.it0 hit⟩, fun b hb => ?_, q⟩
    · have := hlt a ha
      exact ⟨Nat.ne_of_lt (Nat.lt_succ_of_lt this), Nat.ne_of_lt this⟩
    · have e' : b = s1.heap.objs.size + 1 ∨ b = s1.heap.objs.size := by simpa using hb
      have hle : s1.heap.objs.size ≤ b := by
        rcases e' with z | z
        · rw [z]; exact Nat.le_add_right _ _
        · rw [z]; exact Nat.le_refl _
      exact I1.fpOk hle (I1.hok.fresh hle)
theorem walk_enumS {K : PySem.W.Frag} {S : Src} {xs : List V} : Walk (ItE K S) xs.length (fun H => S.has K H xs) (YPair (fun i => some (.int (i : Nat))) (fun i => xs[i]?)) := by
  refine ⟨fun i _ hi q => ⟨xs, xs[i], q, by simp [hi]⟩, fun _ q => ⟨xs, q, rfl⟩, fun i H v H' _ q y => ?_⟩
  obtain ⟨T, x, h1, h2, h3, h4⟩ := y
  exact ⟨T, .int (i : Nat), x, h1, h2, h3, rfl, h4 xs q⟩
def ItZ (K : PySem.W.Frag) (S S' : Src) : It :=
  ⟨fun i H => ∃ (xs ys : List V) (x y : V), S.has K H xs ∧ S'.has K H ys ∧ xs[i]? = some x ∧ ys[i]? = some y,
    fun i H v H' => ∃ T x y, v = .ref T ∧ H T = none ∧ H' = upd H T (.tup [x, y]) ∧ (∀ xs, S.has K H xs → xs[i]? = some x) ∧ ∀ ys, S'.has K H ys → ys[i]? = some y,
    fun i H => ∃ xs ys : List V, S.has K H xs ∧ S'.has K H ys ∧ i = min xs.length ys.length⟩
theorem turn_zipS {P : Program} {w : World} {K : PySem.W.Frag} {elts : List Expr} {kk : Nat} {tpos : Pos} {z TI TO i1 i2 : Addr} {S S' : Src} {t t' : Tok} (Z : ZipSep2 z TI TO i1 i2 (i1 :: S.fp) (i2 :: S'.fp)) (a1 : ∀ a ∈ S.fp, a ≠ i1) (a2 : ∀ a ∈ S'.fp, a ≠ i2) :
    Turn P w K (.Tuple elts kk tpos) (ItZ K S S') [z, TI, TO, i1, i2] z (fun i h => IsZip h z TI TO .none ∧ IsTupOf2 h TI (.ref i1) (.ref i2) ∧ (∃ a1 a2, IsTupOf2 h TO a1 a2) ∧ S.it t i1 i h ∧ S'.it t' i2 i h) where
  mem := by simp
  obj := fun i h st c hc => by
    obtain ⟨hz, hTI, ⟨x, y, hTO⟩, h1, h2⟩ := st
    have e' : c = z ∨ c = TI ∨ c = TO ∨ c = i1 ∨ c = i2 := by simpa using hc
    rcases e' with q | q | q | q | q
    · rw [q]; exact ⟨_, hz, fun v q => nomatch q⟩
    · rw [q]; exact ⟨_, hTI, fun v q => nomatch q⟩
    · rw [q]; exact ⟨_, hTO, fun v q => nomatch q⟩
    · rw [q]; exact Src.it_obj h1
    · rw [q]; exact Src.it_obj h2
  keep := fun i h h' st k => by
    obtain ⟨hz, hTI, ⟨x, y, hTO⟩, h1, h2⟩ := st
    exact ⟨k z (by simp) _ hz, k TI (by simp) _ hTI, ⟨x, y, k TO (by simp) _ hTO⟩, Src.it_keep h1 fun o q => k i1 (by simp) o q, Src.it_keep h2 fun o q => k i2 (by simp) o q⟩
  item := by
    intro X hP hw hK hc i pins s σ H E I hf st hg
    subst hP hw hK
    obtain ⟨xs, ys, x, y, hq1, hq2, hx, hy⟩ := hg
    obtain ⟨us, hat1, hn1, hrel1, hlt1⟩ := src_of I hq1
    obtain ⟨us', hat2, hn2, hrel2, hlt2⟩ := src_of I hq2
    have hh : X.A.in1.handled = none := I.ok.hd hc
    have D1 : Draws X.prog X.w X.A.in1 i1 (i1 :: S.fp) (S.n us) (S.P us) (fun i h => S.it t i1 i h ∧ S.at us h) := Src.draws hh S t i1 us a1
    have D2 : Draws X.prog X.w X.A.in1 i2 (i2 :: S'.fp) (S'.n us') (S'.P us') (fun i h => S'.it t' i2 i h ∧ S'.at us' h) := Src.draws hh S' t' i2 us' a2
    have W := WalksT.zipD2 Z D1 D2
    have g1 := (List.getElem?_eq_some_iff.mp hx).1
    have g2 := (List.getElem?_eq_some_iff.mp hy).1
    obtain ⟨hz, hTI, hTO, h1, h2⟩ := st
    refine W.item i s _ _ (by omega) ⟨hz, hTI, hTO, ⟨h1, hat1⟩, ⟨h2, hat2⟩⟩ fun T vals h' tk hp hT hTup hmid hk => ?_
    obtain ⟨u1, u2, hu1, hu2, rfl⟩ := hp
    refine ⟨_, rfl, W.go elts kk tpos i T _ _ _ hmid fun h'' hst'' hk2 => ?_⟩
    have hTw := W.apart i T h' hmid
    have ru1 := hrel1 i x u1 hx hu1
    have ru2 := hrel2 i y u2 hy hu2
    obtain ⟨o, ho, hco, n, hd⟩ := hTup
    have hT2 := hk2 T o hTw ho
    have new : ObjOk X.prog X.w (upd H T (.tup [x, y])) h'' T (.tup [x, y]) :=
      ⟨by show 2 ≤ sizeLine; decide, [u1, u2], .cons ru1 (.cons ru2 .nil), ⟨o, hT2, hco, n, hd⟩⟩
    have sub : ∀ b, b ∉ [z, TI, TO, i1, i2] → b ∉ [z, TO, i1, i2] := fun b hb hm => hb (by
      simp only [List.mem_cons, List.not_mem_nil, or_false] at hm ⊢
      rcases hm with q | q | q | q <;> simp [q])
    have I1 : Inv X pins σ (upd H T (.tup [x, y])) { s with heap := h'', toks := tk } :=
      I.turnedNew (ch := [z, TI, TO, i1, i2]) (fun b ob hb q => hk2 b ob (sub b hb) (hk b ob (sub b hb) q)) hf hT new
    obtain ⟨z1, z2, z3, z4, z5⟩ := hst''
    refine ⟨.ref T, _, I1, rfl, ⟨T, x, y, rfl, I.hok.fresh hT, rfl, fun l hl => by rw [src_inj I hl hq1]; exact hx, fun l hl => by rw [src_inj I hl hq2]; exact hy⟩, ⟨z1, z2, z3, z4.1, z5.1⟩, fun c hcm => ?_⟩
    have hlt : c < s.heap.objs.size := by
      have e' : c = z ∨ c = TI ∨ c = TO ∨ c = i1 ∨ c = i2 := by simpa using hcm
      rcases e' with q | q | q | q | q
      · rw [q]; exact Heap.lt_size hz
      · rw [q]; exact Heap.lt_size hTI
      · rw [q]; obtain ⟨_, _, hTO⟩ := hTO; exact Heap.lt_size hTO
      · rw [q]; obtain ⟨o, he, _⟩ := Src.it_obj h1; exact Heap.lt_size he
      · rw [q]; obtain ⟨o, he, _⟩ := Src.it_obj h2; exact Heap.lt_size he
    rw [upd_ne (Nat.ne_of_lt (Nat.lt_of_lt_of_le hlt hT))]
    exact (hf c hcm).1
  done := by
    intro X hP hw hK hc i pins s σ H E I hf st hg
    subst hP hw hK
    obtain ⟨xs, ys, hq1, hq2, rfl⟩ := hg
    obtain ⟨us, hat1, hn1, hrel1, hlt1⟩ := src_of I hq1
    obtain ⟨us', hat2, hn2, hrel2, hlt2⟩ := src_of I hq2
    have hh : X.A.in1.handled = none := I.ok.hd hc
    have D1 : Draws X.prog X.w X.A.in1 i1 (i1 :: S.fp) (S.n us) (S.P us) (fun i h => S.it t i1 i h ∧ S.at us h) := Src.draws hh S t i1 us a1
    have D2 : Draws X.prog X.w X.A.in1 i2 (i2 :: S'.fp) (S'.n us') (S'.P us') (fun i h => S'.it t' i2 i h ∧ S'.at us' h) := Src.draws hh S' t' i2 us' a2
    have W := WalksT.zipD2 Z D1 D2
    obtain ⟨hz, hTI, hTO, h1, h2⟩ := st
    refine W.done s _ _ (by rw [hn1, hn2]; exact ⟨hz, hTI, hTO, ⟨h1, hat1⟩, ⟨h2, hat2⟩⟩) fun h' tk hk => ⟨rfl, ?_⟩
    refine I.turnedL (ch := [z, TI, TO, i1, i2]) (fun b ob hb q => hk b ob (fun hm => hb ?_) q) hf
    simp only [List.mem_cons, List.not_mem_nil, or_false] at hm ⊢
    rcases hm with q | q | q | q <;> simp [q]
  self := fun A i s Q E st h => wpAny_pyIter_zip st.1 h
def iZipS (K : PySem.W.Frag) (ta : TA) : TI := fun σ H R => ta σ H fun vs H1 => ∃ (S S' : Src) (xs ys : List V), vs = [S.v, S'.v] ∧ S.has K H1 xs ∧ S'.has K H1 ys ∧ R (ItZ K S S') H1
theorem pi_zipS {X : Cx} {e e2 : Expr} {ta : TA} {p pos tpos : Pos} {elts : List Expr} {kk : Nat} (hg : Gl X "zip") (hm : X.mg "zip" = none) (ha : PA X [e, e2] ta)
    (hs : starEach [e, e2] X.env = (false, eval e X.env) :: starEach [e2] X.env := by rfl) (hpl : (backTo pos (starEach [e2] X.env)).any (·.1) = false := by rfl) :
    PI X (.Tuple elts kk tpos) (.Call (.Name "zip" p) [e, e2] [] pos) (iZipS X.K ta) := by
  refine ⟨fun pins s σ H R I h => ?_⟩
  refine Call_ (ld_blt I hg hm PyProof.Rows.boot_zip (PyProof.Rows.callWith_type1 (thn (ha.run pos pins s σ H _ I h) fun us s1 ⟨vs, H1, I1, r1, q1⟩ => ?_) hs hpl))
  obtain ⟨S, S', xs, ys, ex, hq1, hq2, q⟩ := q1
  subst ex
  cases r1 with
  | cons r rr =>
    cases rr with
    | cons r' rr =>
      cases rr
      obtain ⟨t, rfl⟩ := src_val r
      obtain ⟨t', rfl⟩ := src_val r'
      obtain ⟨its, hat, hn, hrel, hlt⟩ := src_of I1 hq1
      obtain ⟨its', hat', hn', hrel', hlt'⟩ := src_of I1 hq2
      refine zip_begins2 (S.begins t its) (S'.begins t' its') hat hat' fun h' hz hTI hTO h1 h2 hsz hk => wpAny_pyIter_zip hz ?_
      have I2 : Inv X pins σ H1 { s1 with heap := h' } := I1.kept (t' := s1.toks) hk
      refine ⟨s1.heap.objs.size + 4, [s1.heap.objs.size + 4, s1.heap.objs.size + 2, s1.heap.objs.size + 3, s1.heap.objs.size, s1.heap.objs.size + 1], _, _, H1, rfl, I2, turn_zipS (S := S) (S' := S') (t := t) (t' := t') (zip_sep2 hlt hlt') (fun a ha => Nat.ne_of_lt (hlt a ha)) (fun a ha => Nat.ne_of_lt (Nat.lt_succ_of_lt (hlt' a ha))), ⟨hz, hTI, ⟨_, _, hTO⟩, Src.it0 h1, Src.it0 h2⟩, fun c hcm => ?_, q⟩
      have e' : c = s1.heap.objs.size + 4 ∨ c = s1.heap.objs.size + 2 ∨ c = s1.heap.objs.size + 3 ∨ c = s1.heap.objs.size ∨ c = s1.heap.objs.size + 1 := by simpa using hcm
      have hle : s1.heap.objs.size ≤ c := by
        rcases e' with z | z | z | z | z
        · rw [z]; exact Nat.le_add_right _ _
        · rw [z]; exact Nat.le_add_right _ _
        · rw [z]; exact Nat.le_add_right _ _
        · rw [z]; exact Nat.le_refl _
        · rw [z]; exact Nat.le_add_right _ _
      exact I1.fpOk hle (I1.hok.fresh hle)
theorem walk_zipS {K : PySem.W.Frag} {S S' : Src} {xs ys : List V} {n : Nat} (hn : n = min xs.length ys.length) : Walk (ItZ K S S') n (fun H => S.has K H xs ∧ S'.has K H ys) (YPair (fun i => xs[i]?) (fun i => ys[i]?)) := by
  subst hn
  refine ⟨fun i _ hi q => ?_, fun _ q => ⟨xs, ys, q.1, q.2, rfl⟩, fun i H v H' _ q y => ?_⟩
  · have h1 : i < xs.length := by omega
    have h2 : i < ys.length := by omega
    exact ⟨xs, ys, xs[i], ys[i], q.1, q.2, by simp [h1], by simp [h2]⟩
  · obtain ⟨T, x, z, h1, h2, h3, h4, h5⟩ := y
    exact ⟨T, x, z, h1, h2, h3, h4 xs q.1, h5 ys q.2⟩
end Lay
namespace Lay
open PySem PySem.Spec PyProof.Rows L2
section
variable {X : Cx} {W : WX} {K : PySem.W.Frag} {mg : Str → Option Value} {B w w' w'' w0 : Wd} {s s' : Sto} {O : Nat → Addr} {σ : L2.St} {δ δ' : List Sl} {D : Ends}
/-- the items, and whether they stay whatever the frame does with its own -/
abbrev IL := List Sl → Sto → Out (Bool × List PyData)
def ItOf (K : PySem.W.Frag) (L : Wd → Prop) (J : It) (ds : List PyData) : Prop := ∃ (G : Hp → Prop) (Y : Nat → Hp → V → Hp → Prop), Walk J ds.length G Y ∧ (∀ w', L w' → G w'.H) ∧
  ∀ i w' x H', i < ds.length → L w' → Y i w'.H x H' → ∃ d w'', ds[i]? = some d ∧ w''.H = H' ∧ Gr w' w'' ∧ ((∀ a, w'.N a → ∃ o, w'.H a = some o) → RD K w'' d x)
def wpI (K : PySem.W.Frag) (mg : Str → Option Value) (W : WX) (f : IL) : TI := fun σ H R => ∃ δ s w O, w.H = H ∧ Rel K mg w O σ δ s ∧
  Post K mg W w O σ δ (f δ s) fun z _ w' => ∀ J, ItOf K (if z.1 then Stay (Wd.drop w w') else Nx (Wd.drop w w')) J z.2 → R J w'.H
def QI (X : Cx) (W : WX) (tg e : Expr) (f : IL) : Prop := PI X tg e (wpI X.K X.mg W f)
theorem PI.weak {tg e : Expr} {t t' : TI} (h : PI X tg e t) (k : ∀ σ H R, t' σ H R → t σ H R) : PI X tg e t' := ⟨fun pins s σ H R I q => h.run pins s σ H R I (k σ H R q)⟩
theorem PI.or {tg e : Expr} {t t' : TI} (h : PI X tg e t) (h' : PI X tg e t') : PI X tg e (fun σ H R => t σ H R ∨ t' σ H R) := ⟨fun pins s σ H R I q => q.elim (h.run pins s σ H R I) (h'.run pins s σ H R I)⟩
theorem wpI.intro {f : IL} {R : It → Hp → Prop} (r : Rel K mg w O σ δ s) (h : Post K mg W w O σ δ (f δ s) fun z _ w' => ∀ J, ItOf K (if z.1 then Stay (Wd.drop w w') else Nx (Wd.drop w w')) J z.2 → R J w'.H) : wpI K mg W f σ w.H R := ⟨δ, s, w, O, rfl, r, h⟩
def srcD : Rv → Option (Bool × List PyData)
  | .v (.list ds) => some (true, ds)
  | .v (.tuple ds) => some (true, ds)
  | .v (.str x) => some (true, signs x)
  | .fr (.list ds) => some (true, ds)
  | .bo (.list ds) => some (false, ds)
  | _ => none
theorem signs_eq (x : Str) : sigV x = x.cps.toList.map fun c => V.str ⟨#[c]⟩ := rfl
def srcK : Rv → Nat
  | .v (.tuple _) => 1
  | .v (.str _) => 2
  | _ => 0
def Src.k : Src → Nat
  | .lst _ => 0
  | .tup _ => 1
  | .txt _ => 2
/-- what an iterator may be made of -/
theorem src_rr {r : Rv} {v : V} {b : Bool} {ds : List PyData} (r0 : Rel K mg w O σ δ s') (n : Nx w w') (st : RelS K mg w' s) (rr : RR K mg w w' r v) (e : srcD r = some (b, ds)) :
    ∃ S xs, v = Src.v S ∧ S.k = srcK r ∧ ∀ w1, (if b then Stay (Wd.drop w w') else Nx (Wd.drop w w')) w1 → S.has K w1.H xs ∧ RDs K w1 ds xs := by
  have std := drop_st (w0 := w) st
  unfold srcD at e
  split at e
  · rename_i ds'
    cases e
    have rr : RD K w' (.list ds) v := rr
    have rr := RD.stay (drop_stay (w0 := w)) rr
    cases rr with
    | @lst a vs _ h1 h2 h3 h4 =>
      refine ⟨.lst a, vs, rfl, rfl, fun w1 k => ?_⟩
      have k : Stay (Wd.drop w w') w1 := k
      exact ⟨.inl (.inl (k _ _ h1 h2).1), h4.stay k⟩
  · rename_i ds'
    cases e
    have rr : RD K w' (.tuple ds) v := rr
    have rr := RD.stay (drop_stay (w0 := w)) rr
    cases rr with
    | @tup a vs _ h1 h2 h3 h4 =>
      refine ⟨.tup a, vs, rfl, rfl, fun w1 k => ?_⟩
      have k : Stay (Wd.drop w w') w1 := k
      exact ⟨.inl (Rd.stay h1 h2 k).1, h4.stay k⟩
    | @tupK a vs _ h1 h2 =>
      refine ⟨.tup a, vs, rfl, rfl, fun w1 k => ?_⟩
      have k : Stay (Wd.drop w w') w1 := k
      exact ⟨.inr h1, h2.stay k⟩
  · rename_i x
    cases e
    have rr : RD K w' (.str x) v := rr
    cases rr with
    | str _ h1 h2 => exact ⟨.txt x, sigV x, rfl, rfl, fun w1 k => ⟨rfl, signs_rd h2 _ fun _ h => h⟩⟩
  · rename_i ds'
    cases e
    have rd := RR.shd rr r0.st rfl
    cases rd with
    | @lst a vs _ h1 h2 h3 h4 =>
      refine ⟨.lst a, vs, rfl, rfl, fun w1 k => ?_⟩
      have k : Stay (Wd.drop w w') w1 := k
      exact ⟨.inl (.inl (k _ _ h1 h2).1), h4.stay k⟩
  · rename_i ds'
    cases e
    obtain ⟨a, rfl, ⟨vs, h1, h2, h3⟩, h4⟩ := rr
    refine ⟨.lst a, vs, rfl, rfl, fun w1 k => ?_⟩
    have k : Nx (Wd.drop w w') w1 := k
    exact ⟨.inl (.inl (k.ext a _ h1 h4)), (h3.stay drop_stay).stay (k.stay std.mN)⟩
  · cases e
theorem RDs.len {ds : List PyData} {vs : List V} (h : RDs K w ds vs) : ds.length = vs.length := h.length
theorem RDs.get' : ∀ {ds : List PyData} {vs : List V} {i : Nat} {v : V}, RDs K w ds vs → vs[i]? = some v → ∃ d, ds[i]? = some d ∧ RD K w d v
  | _, _, _, _, .nil, e => by simp at e
  | _, _, 0, _, .cons r _, e => by simp at e; subst e; exact ⟨_, rfl, r⟩
  | _, _, i + 1, _, .cons _ t, e => by simp at e; simpa using RDs.get' t e
def Src.J (K : PySem.W.Frag) : Src → It
  | .lst a => Itl K a
  | .tup a => Itt K a
  | .txt x => Its x
theorem itOf_src {L : Wd → Prop} {S : Src} {xs : List V} {ds : List PyData} (hl : ds.length = xs.length) (h : ∀ w1, L w1 → S.has K w1.H xs ∧ RDs K w1 ds xs) : ItOf K L (S.J K) ds := by
  have fin : ∀ i w1 x, L w1 → xs[i]? = some x → ∃ d w'', ds[i]? = some d ∧ w''.H = w1.H ∧ Gr w1 w'' ∧ ((∀ a, w1.N a → ∃ o, w1.H a = some o) → RD K w'' d x) := fun i w1 x l hx => by
    obtain ⟨d, h1, h2⟩ := (h w1 l).2.get' hx
    exact ⟨d, w1, h1, rfl, .refl, fun _ => h2⟩
  cases S with
  | lst a =>
    refine ⟨_, _, hl ▸ walk_list, fun w1 l => (h w1 l).1, fun i w1 x H' hi l y => ?_⟩
    obtain ⟨rfl, y⟩ := y
    exact fin i w1 x l y
  | tup a =>
    refine ⟨_, _, hl ▸ walk_tup, fun w1 l => (h w1 l).1, fun i w1 x H' hi l y => ?_⟩
    obtain ⟨rfl, y⟩ := y
    exact fin i w1 x l y
  | txt z =>
    by_cases hL : ∃ w1, L w1
    · obtain ⟨w1, l1⟩ := hL
      have hx : xs = sigV z := (h w1 l1).1
      have hz : ds.length = z.cps.size := by rw [hl, hx]; simp [sigV]
      refine ⟨_, _, hz ▸ walk_str, fun w1 l => trivial, fun i w1 x H' hi l y => ?_⟩
      obtain ⟨rfl, c, hc, rfl⟩ := y
      refine fin i w1 _ l ?_
      rw [hx, sigV, List.getElem?_map, Array.getElem?_toList, hc]; rfl
    · refine ⟨fun _ => False, fun _ _ _ _ => False, ⟨fun _ _ _ h => h.elim, fun _ h => h.elim, fun _ _ _ _ _ h => h.elim⟩, fun w1 l => hL ⟨w1, l⟩, fun _ _ _ _ _ _ h => h.elim⟩
def iSrc (f : E) : IL := fun δ s => (f δ s).bind fun r s1 => match srcD r with
  | some z => .ok z s1
  | none => .bad
theorem qi_e {tg e : Expr} {f : E} (he : QE X W e f) : QI X W tg e (iSrc f) := by
  refine PI.weak (PI.or (pi_list he) (PI.or (pi_tup he) (pi_str he))) fun σ H R h => ?_
  obtain ⟨δ, s, w, O, rfl, r, h⟩ := h
  unfold iSrc at h
  cases ef : f δ s with
  | bad => rw [ef] at h; exact h.elim
  | ex c fs s1 =>
    rw [ef] at h
    exact .inl ⟨δ, s, w, O, rfl, r, by rw [ef]; exact h⟩
  | ok z s1 =>
    rw [ef] at h
    cases hs : srcD z with
    | none => simp only [Out.bind, hs] at h; exact h.elim
    | some q =>
      obtain ⟨b, ds⟩ := q
      simp only [Out.bind, hs] at h
      have fin : ∀ w1 v, Nx w w1 → Rel X.K X.mg w1 O σ δ s1 → RR X.K X.mg w w1 z v → ∃ S xs, v = Src.v S ∧ S.k = srcK z ∧ S.has X.K w1.H xs ∧ R (S.J X.K) w1.H := fun w1 v n r1 rr => by
        obtain ⟨S, xs, e1, ek, e2⟩ := src_rr r n r1.st rr hs
        have e3 := e2 (Wd.drop w w1) (by cases b; exact Nx.refl; exact Stay.refl)
        exact ⟨S, xs, e1, ek, e3.1, h w1 n r1 _ (itOf_src e3.2.length e2)⟩
      have mk : ∀ (Q : VK), (∀ w1 v, Nx w w1 → Rel X.K X.mg w1 O σ δ s1 → RR X.K X.mg w w1 z v → Q v w1.H) → wpE X.K X.mg W f σ w.H Q := fun Q hQ => ⟨δ, s, w, O, rfl, r, by rw [ef]; exact fun w1 n r1 v rr => hQ w1 v n r1 rr⟩
      have kind : srcK z = 0 ∨ srcK z = 1 ∨ srcK z = 2 := by
        unfold srcK
        split
        · exact .inr (.inl rfl)
        · exact .inr (.inr rfl)
        · exact .inl rfl
      rcases kind with k | k | k
      · refine .inl (mk _ fun w1 v n r1 rr => ?_)
        obtain ⟨S, xs, rfl, ek, e2, e3⟩ := fin w1 _ n r1 rr
        rw [k] at ek
        cases S with
        | lst a => exact ⟨a, rfl, ⟨xs, e2⟩, e3⟩
        | tup a => cases ek
        | txt a => cases ek
      · refine .inr (.inl (mk _ fun w1 v n r1 rr => ?_))
        obtain ⟨S, xs, rfl, ek, e2, e3⟩ := fin w1 _ n r1 rr
        rw [k] at ek
        cases S with
        | tup a => exact ⟨a, rfl, ⟨xs, e2⟩, e3⟩
        | lst a => cases ek
        | txt a => cases ek
      · refine .inr (.inr (mk _ fun w1 v n r1 rr => ?_))
        obtain ⟨S, xs, rfl, ek, e2, e3⟩ := fin w1 _ n r1 rr
        rw [k] at ek
        cases S with
        | txt a => exact ⟨a, rfl, e3⟩
        | lst a => cases ek
        | tup a => cases ek
def intsD (lo : Int) (n : Nat) : List PyData := (List.range n).map fun i => .int (lo + (i : Nat))
def iRange1 (f : E) : IL := fun δ s => (f δ s).bind fun r s1 => match r with
  | .v (.int j) => if -(2 ^ 62) ≤ j ∧ j < 2 ^ 62 then .ok (true, intsD 0 j.toNat) s1 else .bad
  | _ => .bad
theorem itOf_range {L : Wd → Prop} {lo : Int} {n : Nat} : ItOf K L (Itr lo n) (intsD lo n) := by
  have hl : (intsD lo n).length = n := by simp [intsD]
  refine ⟨fun _ => True, YFn fun i => .int (lo + (i : Nat)), by rw [hl]; exact walk_range, fun w1 l => trivial, fun i w1 x H' hi l y => ?_⟩
  obtain ⟨rfl, rfl⟩ := y
  rw [hl] at hi
  exact ⟨.int (lo + (i : Nat)), w1, by simp [intsD, hi], rfl, .refl, fun _ => .int _⟩
theorem qi_range1 {tg e : Expr} {f : E} {p pos : Pos} (hg : Gl X "range") (hm : X.mg "range" = none) (he : QE X W e f) (hs0 : starEach (e :: []) X.env = (false, eval e X.env) :: starEach [] X.env := by rfl) (hs : starEach [e] X.env = [(false, eval e X.env)] := by rfl) : QI X W tg (.Call (.Name "range" p) [e] [] pos) (iRange1 f) := by
  refine PI.weak (pi_range1 hg hm (pa_cons he pa_nil hs0) hs) fun σ H R h => ?_
  obtain ⟨δ, s, w, O, rfl, r, h⟩ := h
  refine wpE.intro r ((Post.bind0 h).mono fun z s1 w1 n1 r1 p1 v rr => ?_)
  split at p1
  · rename_i j
    split at p1
    · rename_i hj
      have rr : RD X.K w1 (.int j) v := rr
      cases rr
      exact ⟨j, rfl, hj.1, hj.2, Post.at p1 n1 r1 _ itOf_range⟩
    · exact p1.elim
  · exact p1.elim
def iRange2 (f g : E) : IL := fun δ s => (f δ s).bind fun r s1 => (g δ s1).bind fun r' s2 => match r, r' with
  | .v (.int i), .v (.int j) => if (-(2 ^ 62) ≤ i ∧ i < 2 ^ 62) ∧ -(2 ^ 62) ≤ j ∧ j < 2 ^ 62 then .ok (true, intsD i (j - i).toNat) s2 else .bad
  | _, _ => .bad
theorem qi_range2 {tg e e' : Expr} {f g : E} {p pos : Pos} (hg : Gl X "range") (hm : X.mg "range" = none) (he : QE X W e f) (he' : QE X W e' g) (hs1 : starEach (e :: [e']) X.env = (false, eval e X.env) :: starEach [e'] X.env := by rfl) (hs0 : starEach (e' :: []) X.env = (false, eval e' X.env) :: starEach [] X.env := by rfl)
    (hs : starEach [e, e'] X.env = [(false, eval e X.env), (false, eval e' X.env)] := by rfl) (hs2 : starEach [e'] X.env = [(false, eval e' X.env)] := by rfl) : QI X W tg (.Call (.Name "range" p) [e, e'] [] pos) (iRange2 f g) := by
  refine PI.weak (pi_range2 hg hm (pa_cons he (pa_cons he' pa_nil hs0) hs1) hs hs2) fun σ H R h => ?_
  obtain ⟨δ, s, w, O, rfl, r, h⟩ := h
  unfold iRng2 tCons
  show wpE X.K X.mg W f σ w.H _
  refine wpE.intro r ((Post.bind0 h).mono fun z s1 w1 n1 r1 p1 v rr => ?_)
  try unfold tCons
  show wpE X.K X.mg W g σ w1.H _
  refine wpE.intro r1 ((Post.bind n1 p1).mono fun z2 s2 w2 n2 r2 p2 v2 rr2 => ?_)
  split at p2
  · rename_i i j
    split at p2
    · rename_i hj
      have rr : RD X.K w1 (.int i) v := rr
      have rr2 : RD X.K w2 (.int j) v2 := rr2
      cases rr
      cases rr2
      exact ⟨i, j, rfl, ⟨hj.1.1, hj.1.2, hj.2.1, hj.2.2⟩, Post.at p2 (n1.trans n2) r2 _ itOf_range⟩
    · exact p2.elim
  · exact p2.elim
def numD : Nat → List PyData → List PyData
  | _, [] => []
  | i, d :: ds => .tuple [.int i, d] :: numD (i + 1) ds
theorem numD_len : ∀ (i : Nat) (ds : List PyData), (numD i ds).length = ds.length
  | _, [] => rfl
  | i, d :: ds => by simp [numD, numD_len (i + 1) ds]
theorem numD_get : ∀ (k : Nat) (ds : List PyData) (i : Nat) (d : PyData), ds[i]? = some d → (numD k ds)[i]? = some (.tuple [.int (k + i : Nat), d])
  | _, [], _, _, e => by simp at e
  | k, x :: ds, 0, d, e => by simp at e; subst e; simp [numD]
  | k, x :: ds, i + 1, d, e => by
    simp only [List.getElem?_cons_succ] at e
    simp only [numD, List.getElem?_cons_succ]
    rw [numD_get (k + 1) ds i d e]
    have : k + 1 + i = k + (i + 1) := by omega
    rw [this]
def zipD : List PyData → List PyData → List PyData
  | d :: ds, e :: es => .tuple [d, e] :: zipD ds es
  | _, _ => []
theorem zipD_len : ∀ (ds es : List PyData), (zipD ds es).length = min ds.length es.length
  | [], _ => by simp [zipD]
  | _ :: _, [] => by simp [zipD]
  | d :: ds, e :: es => by simp [zipD, zipD_len ds es]
theorem zipD_get : ∀ (ds es : List PyData) (i : Nat) (d e : PyData), ds[i]? = some d → es[i]? = some e → (zipD ds es)[i]? = some (.tuple [d, e])
  | [], _, _, _, _, h, _ => by simp at h
  | _ :: _, [], _, _, _, _, h => by simp at h
  | d :: ds, e :: es, 0, _, _, h, h' => by simp at h h'; subst h h'; simp [zipD]
  | d :: ds, e :: es, i + 1, x, y, h, h' => by
    simp only [List.getElem?_cons_succ] at h h'
    simp only [zipD, List.getElem?_cons_succ]
    exact zipD_get ds es i x y h h'
theorem pair_rd {T : Addr} {x y : V} {d e : PyData} (hT : w.H T = none) (hd : RD K w d x) (he : RD K w e y) (tr : ∀ a, w.N a → ∃ o, w.H a = some o) : RD K ⟨w.N, w.μ, upd w.H T (.tup [x, y])⟩ (.tuple [d, e]) (.ref T) := by
  have hn : ¬ w.N T := fun q => by obtain ⟨o, e⟩ := tr T q; rw [hT] at e; cases e
  have stay : Stay w ⟨w.N, w.μ, upd w.H T (.tup [x, y])⟩ := fun a o e n => ⟨by show upd w.H T _ a = _; rw [upd_ne (ne_of_none e hT)]; exact e, n⟩
  exact .tup (.inl upd_same) hn (by show 2 ≤ sizeLine; decide) (.cons (hd.stay stay) (.cons (he.stay stay) .nil))
def iEnum (f : E) : IL := fun δ s => (f δ s).bind fun r s1 => match srcD r with
  | some (b, ds) => .ok (b, numD 0 ds) s1
  | none => .bad
theorem qi_enum {elts : List Expr} {kk : Nat} {tpos : Pos} {e : Expr} {f : E} {p pos : Pos} (hg : Gl X "enumerate") (hm : X.mg "enumerate" = none) (he : QE X W e f) (hs0 : starEach (e :: []) X.env = (false, eval e X.env) :: starEach [] X.env := by rfl) (hs : starEach [e] X.env = [(false, eval e X.env)] := by rfl) :
    QI X W (.Tuple elts kk tpos) (.Call (.Name "enumerate" p) [e] [] pos) (iEnum f) := by
  refine PI.weak (pi_enumS hg hm (pa_cons he pa_nil hs0) hs) fun σ H R h => ?_
  obtain ⟨δ, s, w, O, rfl, r, h⟩ := h
  refine wpE.intro r ((Post.bind0 h).mono fun z s1 w1 n1 r1 p1 v rr => ?_)
  cases hz : srcD z with
  | none => rw [hz] at p1; exact p1.elim
  | some q =>
    obtain ⟨b, ds⟩ := q
    rw [hz] at p1
    obtain ⟨S, xs, e1, ek, e2⟩ := src_rr r n1 r1.st rr hz
    have e3 := e2 (Wd.drop w w1) (by cases b; exact Nx.refl; exact Stay.refl)
    have hl := e3.2.length
    refine ⟨S, xs, by rw [e1], e3.1, Post.at p1 n1 r1 _ ?_⟩
    refine ⟨_, _, (show (numD 0 ds).length = xs.length by rw [numD_len, hl]) ▸ walk_enumS, fun w2 l => (e2 w2 l).1, fun i w2 x H' hi l y => ?_⟩
    obtain ⟨T, x1, x2, rfl, hT, rfl, h1, h2⟩ := y
    cases h1
    obtain ⟨d, g1, g2⟩ := (e2 w2 l).2.get' h2
    refine ⟨.tuple [.int (i : Nat), d], ⟨w2.N, w2.μ, upd w2.H T (.tup [.int (i : Nat), x2])⟩, ?_, rfl, Gr.add hT, fun tr => pair_rd hT (.int _) g2 tr⟩
    have := numD_get 0 ds i d g1
    rw [Nat.zero_add] at this
    exact this
def iZip (f g : E) : IL := fun δ s => (f δ s).bind fun r s1 => (g δ s1).bind fun r' s2 => match srcD r, srcD r' with
  | some (b, ds), some (b', es) => .ok (b && b', zipD ds es) s2
  | _, _ => .bad
theorem qi_zip {elts : List Expr} {kk : Nat} {tpos : Pos} {e e' : Expr} {f g : E} {p pos : Pos} (hg : Gl X "zip") (hm : X.mg "zip" = none) (he : QE X W e f) (he' : QE X W e' g) (hs1 : starEach (e :: [e']) X.env = (false, eval e X.env) :: starEach [e'] X.env := by rfl) (hs0 : starEach (e' :: []) X.env = (false, eval e' X.env) :: starEach [] X.env := by rfl)
    (hs : starEach [e, e'] X.env = (false, eval e X.env) :: starEach [e'] X.env := by rfl) (hpl : (backTo pos (starEach [e'] X.env)).any (·.1) = false := by rfl) :
    QI X W (.Tuple elts kk tpos) (.Call (.Name "zip" p) [e, e'] [] pos) (iZip f g) := by
  refine PI.weak (pi_zipS hg hm (pa_cons he (pa_cons he' pa_nil hs0) hs1) hs hpl) fun σ H R h => ?_
  obtain ⟨δ, s, w, O, rfl, r, h⟩ := h
  unfold iZipS tCons
  show wpE X.K X.mg W f σ w.H _
  refine wpE.intro r ((Post.bind0 h).mono fun z s1 w1 n1 r1 p1 v rr => ?_)
  try unfold tCons
  show wpE X.K X.mg W g σ w1.H _
  refine wpE.intro r1 ((Post.bind n1 p1).mono fun z2 s2 w2 n2 r2 p2 v2 rr2 => ?_)
  cases hz : srcD z with
  | none => rw [hz] at p2; exact p2.elim
  | some q =>
    cases hz2 : srcD z2 with
    | none => rw [hz, hz2] at p2; exact p2.elim
    | some q2 =>
      obtain ⟨b, ds⟩ := q
      obtain ⟨b', es⟩ := q2
      rw [hz, hz2] at p2
      have n := n1.trans n2
      obtain ⟨S, xs, e1, ek, e2⟩ := src_rr r n r2.st (rr.on n2 r1.st.mN) hz
      obtain ⟨S', ys, e1', ek', e2'⟩ := src_rr r n r2.st (rr2.back n1) hz2
      have st2 := (drop_st (w0 := w) r2.st).mN
      have k1 : ∀ w3, (if (b && b') = true then Stay (Wd.drop w w2) else Nx (Wd.drop w w2)) w3 → (if b = true then Stay (Wd.drop w w2) else Nx (Wd.drop w w2)) w3 := fun w3 l => by
        cases b with
        | false => exact l
        | true =>
          cases b' with
          | false => exact Nx.stay (show Nx (Wd.drop w w2) w3 from l) st2
          | true => exact l
      have k2 : ∀ w3, (if (b && b') = true then Stay (Wd.drop w w2) else Nx (Wd.drop w w2)) w3 → (if b' = true then Stay (Wd.drop w w2) else Nx (Wd.drop w w2)) w3 := fun w3 l => by
        cases b' with
        | false => cases b <;> exact l
        | true =>
          cases b with
          | false => exact Nx.stay (show Nx (Wd.drop w w2) w3 from l) st2
          | true => exact l
      have e3 := e2 (Wd.drop w w2) (by cases b; exact Nx.refl; exact Stay.refl)
      have e3' := e2' (Wd.drop w w2) (by cases b'; exact Nx.refl; exact Stay.refl)
      have hl := e3.2.length
      have hl' := e3'.2.length
      refine ⟨S, S', xs, ys, by rw [e1, e1'], e3.1, e3'.1, Post.at p2 n r2 _ ?_⟩
      refine ⟨_, _, walk_zipS (S := S) (S' := S') (xs := xs) (ys := ys) (n := (zipD ds es).length) (by rw [zipD_len, hl, hl']), fun w3 l => ⟨(e2 w3 (k1 w3 l)).1, (e2' w3 (k2 w3 l)).1⟩, fun i w3 x H' hi l y => ?_⟩
      obtain ⟨T, x1, x2, rfl, hT, rfl, h1, h2⟩ := y
      obtain ⟨d, g1, g2⟩ := (e2 w3 (k1 w3 l)).2.get' h1
      obtain ⟨d', g1', g2'⟩ := (e2' w3 (k2 w3 l)).2.get' h2
      exact ⟨.tuple [d, d'], ⟨w3.N, w3.μ, upd w3.H T (.tup [x1, x2])⟩, zipD_get ds es i d d' g1 g1', rfl, Gr.add hT, fun tr => pair_rd hT g2 g2' tr⟩
def forL (g : GD) (f : S) : List PyData → S
  | [] => fun δ s => .ok (.nx δ) s
  | d :: ds => fun δ s => match g d δ with
    | none => .bad
    | some δ1 => (f δ1 s).bind fun fl s1 => match fl with
      | .nx δ2 => forL g f ds δ2 s1
      | .ct δ2 => forL g f ds δ2 s1
      | .brk δ2 => .ok (.nx δ2) s1
      | .ret r => .ok (.ret r) s1
def sFor (it : IL) (g : GD) (f : S) : S := fun δ s => (it δ s).bind fun z s1 => if z.1 then forL g f z.2 δ s1 else .bad
theorem qs_for {iter tg : Expr} {body : List Stmt} {fi : IL} {g : GD} {is : List Nat} {f : S} {pos : Pos} (hp : PassesOwn (model X.prog X.w) X.A X.env X.xe) (hi : QI X W tg iter fi) (hg : QG X tg g is) (hb : QSs X W B body f) (hc : X.calm = true := by rfl)
    (hs : ∀ x, foldedSetIterable iter X.env x = pure x := by intro _; rfl) : QS X W B (.For tg iter body [] pos) (sFor fi g f) := by
  refine PS.weak (ps_for hp hc hi hg hb hs) fun D σ H h => ?_
  obtain ⟨δ, s, w, O, rfl, r, h⟩ := h
  refine wpI.intro r.rel ?_
  cases e : fi δ s with
  | bad => unfold sFor at h; rw [e] at h; exact h.elim
  | ex c fs s1 => unfold sFor at h; rw [e] at h; exact fun C d w1 n r1 e1 x => h C d w1 σ (r.nx.trans n) r1.st e1 x
  | ok z s1 =>
    unfold sFor at h
    rw [e] at h
    intro w1 n1 r1 J hJ
    obtain ⟨b, ds⟩ := z
    cases b with
    | false => exact h.elim
    | true =>
      have h : PostS X.K X.mg W B w (forL g f ds δ s1) D := h
      have hJ : ItOf X.K (Stay (Wd.drop w w1)) J ds := hJ
      have k1 : Stay w (Wd.drop w w1) := (n1.stay r.rel.st.mN).trans drop_stay
      have rd : RelB X.K X.mg B (Wd.drop w w1) O σ δ s1 := ⟨drop_rel r.rel n1 r1.st, r.nx.trans (drop_nx n1), r.own⟩
      obtain ⟨G, Y, wk, hG, hY⟩ := hJ
      refine for_it wk (H := (Wd.drop w w1).H) (fun i σ H => ∃ w2 O2 δ2 s2, w2.H = H ∧ Stay (Wd.drop w w1) w2 ∧ RelB X.K X.mg B w2 O2 σ δ2 s2 ∧ PostS X.K X.mg W B w2 (forL g f (ds.drop i) δ2 s2) D) ⟨_, O, δ, s1, rfl, .refl, rd, h.rebase k1⟩ ?_ ?_ ?_
      · rintro i σ H _ ⟨w2, O2, δ2, s2, rfl, k2, _, _⟩
        exact hG w2 k2
      · rintro i x σ H H' hi ⟨w2, O2, δ2, s2, rfl, k2, r2, p2⟩ y
        obtain ⟨d, w3, g1, rfl, g3, g4⟩ := hY i w2 x H' hi k2 y
        have ed : ds.drop i = d :: ds.drop (i + 1) := by
          obtain ⟨hlt, e⟩ := List.getElem?_eq_some_iff.mp g1
          rw [← e]; exact List.drop_eq_getElem_cons hlt
        rw [ed] at p2
        simp only [forL] at p2
        cases eg : g d δ2 with
        | none => rw [eg] at p2; exact p2.elim
        | some δ3 =>
          rw [eg] at p2
          simp only at p2
          have k3 := g3.nx.stay r2.rel.st.mN
          have r3 : RelB X.K X.mg B w3 O2 σ δ2 s2 := r2.next g3.nx (g3.rel r2.rel)
          refine ⟨d, δ2, δ3, s2, w3, O2, rfl, r3.rel, g4 r2.rel.st.tr, eg, fun σ' r' kg => ?_⟩
          refine wpS.intro (r3.gend r' kg) ?_
          have p3 := PostS.rebase p2 k3
          cases ef : f δ3 s2 with
          | bad => rw [ef] at p3; exact p3
          | ex c fs s4 => rw [ef] at p3; exact p3
          | ok fl s4 =>
            rw [ef] at p3
            cases fl with
            | nx δ4 => exact fun w4 σ4 O4 k4 r4 => ⟨w4, O4, δ4, s4, rfl, (k2.trans k3).trans k4, r4, PostS.rebase p3 k4⟩
            | ct δ4 => exact fun w4 σ4 O4 k4 r4 => ⟨w4, O4, δ4, s4, rfl, (k2.trans k3).trans k4, r4, PostS.rebase p3 k4⟩
            | brk δ4 => exact p3
            | ret r => exact p3
      · rintro σ H ⟨w2, O2, δ2, s2, rfl, k2, r2, p2⟩
        rw [List.drop_length] at p2
        exact p2 w2 σ O2 .refl r2
def whileL (c : T) (f : S) : Nat → S
  | 0 => fun _ _ => .bad
  | k + 1 => fun δ s => (c δ s).bind fun b s1 => if b then (f δ s1).bind fun fl s2 => match fl with
      | .nx δ2 => whileL c f k δ2 s2
      | .ct δ2 => whileL c f k δ2 s2
      | .brk δ2 => .ok (.nx δ2) s2
      | .ret r => .ok (.ret r) s2
    else .ok (.nx δ) s1
theorem qs_while {c : Expr} {body : List Stmt} {fc : T} {f : S} {pos : Pos} (n : Nat) (hp : PassesOwn (model X.prog X.w) X.A X.env X.xe) (hc : QT X W c fc) (hb : QSs X W B body f) : QS X W B (.While c body [] pos) (whileL fc f n) := by
  refine PS.weak (ps_while hp hc hb) fun D σ H h => ?_
  obtain ⟨δ, s, w, O, rfl, r, h⟩ := h
  refine ⟨fun m σ H => ∃ w O δ s, w.H = H ∧ RelB X.K X.mg B w O σ δ s ∧ PostS X.K X.mg W B w (whileL fc f m δ s) D, ⟨n, w, O, δ, s, rfl, r, h⟩, ?_⟩
  rintro m σ H ⟨w, O, δ, s, rfl, r, h⟩
  cases m with
  | zero => exact h.elim
  | succ m =>
    refine testS (D := D) r h fun b s1 w1 n1 k1 r1 p1 => ?_
    cases b with
    | false => rw [if_neg (by decide)]; exact p1 w1 σ O k1 r1
    | true =>
      rw [if_pos rfl]
      refine ⟨fun σ H => ∃ w O δ s, w.H = H ∧ RelB X.K X.mg B w O σ δ s ∧ PostS X.K X.mg W B w (whileL fc f m δ s) D, fun σ' H' q => ⟨m, Nat.lt_succ_self m, q⟩, wpS.intro r1 ?_⟩
      have p3 : PostS X.K X.mg W B w ((f δ s1).bind fun fl s2 => match fl with
        | .nx δ2 => whileL fc f m δ2 s2
        | .ct δ2 => whileL fc f m δ2 s2
        | .brk δ2 => .ok (.nx δ2) s2
        | .ret r => .ok (.ret r) s2) D := p1
      replace p3 := PostS.rebase p3 k1
      cases ef : f δ s1 with
      | bad => rw [ef] at p3; exact p3
      | ex c fs s4 => rw [ef] at p3; exact p3
      | ok fl s4 =>
        rw [ef] at p3
        cases fl with
        | nx δ4 => exact fun w4 σ4 O4 k4 r4 => ⟨w4, O4, δ4, s4, rfl, r4, PostS.rebase p3 k4⟩
        | ct δ4 => exact fun w4 σ4 O4 k4 r4 => ⟨w4, O4, δ4, s4, rfl, r4, PostS.rebase p3 k4⟩
        | brk δ4 => exact p3
        | ret r => exact p3
end
end Lay
namespace Lay
open PySem PySem.Spec PyProof.Rows L2
def noEx {α : Type} : Out α → Out α
  | .ok a s => .ok a s
  | _ => .bad
abbrev W0 : WX := fun _ _ _ _ => False
def tTrue : T := fun _ s => .ok true s
def wipeD (δ : List Sl) : List Nat → List Sl
  | [] => δ
  | v :: vs => (wipeD δ vs).set v .un
def lcL (g : GD) (t : T) (e : E) (δ : List Sl) : List PyData → Sto → Out (List PyData)
  | [], s => .ok [] s
  | d :: ds, s => match g d δ with
    | none => .bad
    | some δ1 => (t δ1 s).bind fun b s1 => if b then (e δ1 s1).bind fun z s2 => match z.sh with
        | some p => (lcL g t e δ ds s2).bind fun rest s3 => .ok (p :: rest) s3
        | none => .bad
      else lcL g t e δ ds s1
def eLc (vs : List Nat) (it : IL) (g : GD) (t : T) (e : E) : E := fun δ s => (it δ s).bind fun z s1 => if z.2.length ≤ lim then (noEx (lcL g t e (wipeD δ vs) z.2 s1)).bind fun ps s2 => .ok (.fr (.list ps)) s2 else .bad
section
variable {X : Cx} {W : WX} {K : PySem.W.Frag} {mg : Str → Option Value} {B w w' w'' w0 wd : Wd} {s s' : Sto} {O : Nat → Addr} {σ σ' : L2.St} {δ δ' : List Sl} {A : Addr}
theorem bind_ok {α β : Type} {o : Out α} {k : α → Sto → Out β} {b : β} {s : Sto} (h : o.bind k = .ok b s) : ∃ a s1, o = .ok a s1 ∧ k a s1 = .ok b s := by
  cases o with
  | ok a s1 => exact ⟨a, s1, rfl, h⟩
  | ex c fs s1 => cases h
  | bad => cases h
theorem noEx_ok {α : Type} {o : Out α} {a : α} {s : Sto} (h : noEx o = .ok a s) : o = .ok a s := by
  cases o with
  | ok a s1 => exact h
  | ex c fs s1 => cases h
  | bad => cases h
theorem post_ok {α : Type} {o : Out α} {a : α} {s1 : Sto} {Q : α → Sto → Wd → Prop} (e : o = .ok a s1) (h : ∀ w', Nx w w' → Rel K mg w' O σ δ s1 → Q a s1 w') : Post K mg W w O σ δ o Q := by
  rw [e]; exact h
theorem wipe_len (σ : L2.St) (vs : List Nat) : (wipe σ vs).length = σ.length := wipe_length σ vs
theorem wipe_at : ∀ {vs : List Nat} {i : Nat}, i ∈ vs → (wipe σ vs)[i]? = if i < σ.length then some none else none
  | v :: vs, i, h => by
    unfold wipe
    by_cases e : v = i
    · subst e
      by_cases hl : v < σ.length
      · rw [List.getElem?_set_self (by rw [wipe_length]; exact hl), if_pos hl]
      · rw [List.getElem?_eq_none (by rw [List.length_set, wipe_length]; omega), if_neg hl]
    · rw [List.getElem?_set_ne e]
      exact wipe_at ((List.mem_cons.mp h).resolve_left fun z => e z.symm)
theorem wipe_gend {vs is : List Nat} {σ2 : L2.St} (hs : ∀ i ∈ is, i ∈ vs) (hl : σ2.length = (wipe σ vs).length) (h : ∀ (j : Nat), j ∉ is → σ2[j]? = (wipe σ vs)[j]?) : wipe σ2 vs = wipe σ vs := by
  rw [wipe_length] at hl
  refine List.ext_getElem? fun j => ?_
  by_cases hj : j ∈ vs
  · rw [wipe_at hj, wipe_at hj, hl]
  · rw [wipe_out hj, h j fun z => hj (hs j z)]
theorem wipeD_own : ∀ {vs : List Nat} {j : Nat} {p : PyData}, (wipeD δ vs)[j]? = some (.own p) → δ[j]? = some (.own p)
  | [], _, _, h => h
  | v :: vs, j, p, h => wipeD_own (set_own (q := .un) rfl h).2
theorem Rel.setUn {i : Nat} {x : Option V} (r : Rel K mg w O σ δ s) : Rel K mg w O (σ.set i x) (δ.set i .un) s := by
  refine ⟨r.st, by rw [List.length_set, List.length_set]; exact r.len, fun j q e => ?_, fun j k p q e1 e2 => r.inj j k p q (set_own (q := .un) rfl e1).2 (set_own (q := .un) rfl e2).2⟩
  rw [List.getElem?_set] at e
  by_cases hj : i = j
  · rw [if_pos hj] at e
    split at e
    · cases e; trivial
    · cases e
  · rw [if_neg hj] at e
    rw [List.getElem?_set_ne hj]
    exact r.sl j q e
theorem Rel.wipe (r : Rel K mg w O σ δ s) : ∀ vs : List Nat, Rel K mg w O (L2.wipe σ vs) (wipeD δ vs) s
  | [] => r
  | v :: vs => (r.wipe vs).setUn
/-- within a comprehension: the new list at A holds ps -/
structure CS (K : PySem.W.Frag) (mg : Str → Option Value) (wd : Wd) (A : Addr) (O : Nat → Addr) (σ : L2.St) (δ : List Sl) (w : Wd) (s : Sto) (ps : List PyData) (n : Nat) : Prop where
  nx : Nx wd w
  rel : Rel K mg w O σ δ s
  N : w.N A
  mu : A ∉ w.μ
  sep : ∀ (j : Nat) p, δ[j]? = some (.own p) → O j ≠ A
  new : wd.H A = none
  has : ∃ acc, w.H A = some (.lst acc) ∧ RDs K w ps acc ∧ acc.length ≤ n
variable {ps : List PyData} {n : Nat}
theorem CS.next (c : CS K mg wd A O σ δ w s ps n) (nn : Nx w w') (st : RelS K mg w' s') : CS K mg wd A O σ δ w' s' ps n := by
  obtain ⟨acc, h1, h2, h3⟩ := c.has
  have o := nn.owned c.mu ⟨_, h1⟩
  exact ⟨c.nx.trans nn, c.rel.next nn st, nn.sub _ c.N, o.1, c.sep, c.new, acc, o.2.trans h1, h2.stay (nn.stay c.rel.st.mN), h3⟩
theorem CS.slots {σ2 : L2.St} {δ2 : List Sl} (c : CS K mg wd A O σ δ w s ps n) (r : Rel K mg w O σ2 δ2 s) (k : ∀ (j : Nat) p, δ2[j]? = some (.own p) → δ[j]? = some (.own p)) : CS K mg wd A O σ2 δ2 w s ps n :=
  ⟨c.nx, r, c.N, c.mu, fun j p e => c.sep j p (k j p e), c.new, c.has⟩
theorem CS.le {m : Nat} (c : CS K mg wd A O σ δ w s ps n) (h : n ≤ m) : CS K mg wd A O σ δ w s ps m :=
  let ⟨acc, h1, h2, h3⟩ := c.has
  ⟨c.nx, c.rel, c.N, c.mu, c.sep, c.new, acc, h1, h2, Nat.le_trans h3 h⟩
theorem Rel.updD {o : HO} (r : Rel K mg w O σ δ s) (hN : w.N A) (hm : A ∉ w.μ) (hs : ∀ (j : Nat) p, δ[j]? = some (.own p) → O j ≠ A) : Rel K mg ⟨w.N, w.μ, upd w.H A o⟩ O σ δ s ∧ Stay w ⟨w.N, w.μ, upd w.H A o⟩ := by
  have stay : Stay w ⟨w.N, w.μ, upd w.H A o⟩ := fun a u e hn => ⟨by show upd w.H A o a = _; rw [upd_ne fun z => hn (by rw [z]; exact hN)]; exact e, hn⟩
  have ne : ∀ {a}, a ≠ A → upd w.H A o a = w.H a := fun h => upd_ne h
  have slv : ∀ {q : Sl} {v : V}, SlV K mg w q v → SlV K mg ⟨w.N, w.μ, upd w.H A o⟩ q v := fun h => h.stay stay fun _ _ h => h
  refine ⟨⟨⟨r.st.mN, fun a ha => ?_, r.st.len, r.st.nd, fun l c a e1 e2 => ?_⟩, r.len, fun j q e' => ?_, r.inj⟩, stay⟩
  · by_cases hj : a = A
    · exact ⟨o, by rw [hj]; exact upd_same⟩
    · obtain ⟨u, e⟩ := r.st.tr a ha; exact ⟨u, (ne hj).trans e⟩
  · have q := r.st.cell l c a e1 e2
    have hne : a ≠ A := fun z => hm (by rw [← z]; exact List.mem_of_getElem? e2)
    cases c with
    | lst ds => exact OwnOk.stay (show OwnOk K w a (.list ds) from q) stay (ne hne)
    | ins c fs =>
      obtain ⟨C, dx, gs, e1, e2, e3⟩ := q
      exact ⟨C, dx, gs, e1, (ne hne).trans e2, Paired.mapP e3 fun x y h => ⟨h.1, slv h.2⟩⟩
  · have h := r.sl j q e'
    cases q with
    | un => trivial
    | own p1 =>
      obtain ⟨g1, g2, g3, g4⟩ := h
      exact ⟨g1, g2, g3, g4.stay stay (ne (hs j _ e'))⟩
    | v p => obtain ⟨v, h1, h2⟩ := h; exact ⟨v, h1, slv h2⟩
    | ref l => obtain ⟨v, h1, h2⟩ := h; exact ⟨v, h1, slv h2⟩
    | fn x => obtain ⟨v, h1, h2⟩ := h; exact ⟨v, h1, slv h2⟩
    | scr ns => obtain ⟨v, h1, h2⟩ := h; exact ⟨v, h1, slv h2⟩
theorem nx_new {o : HO} (n : Nx wd w) (h : wd.H A = none) : Nx wd ⟨w.N, w.μ, upd w.H A o⟩ :=
  ⟨fun a u e hm => (upd_ne (ne_of_none e h)).trans (n.ext a u e hm), n.sub, n.new, fun a u e => let ⟨u', e'⟩ := n.there a u e; ⟨u', (upd_ne (ne_of_none e h)).trans e'⟩, n.pre, n.mu⟩
/-- one more item -/
def PW (w w' : Wd) (A : Addr) (acc : List V) (v : V) : Wd := ⟨(Wd.drop w w').N, w'.μ, upd w'.H A (.lst (acc ++ [v]))⟩
theorem CS.acc (c : CS K mg wd A O σ δ w s ps n) (nn : Nx w w') : ∃ acc, w'.H A = some (.lst acc) := by
  obtain ⟨acc, h1, h2, h3⟩ := c.has
  exact ⟨acc, (nn.owned c.mu ⟨_, h1⟩).2.trans h1⟩
theorem CS.push' {z : Rv} {v : V} {p : PyData} {acc : List V} (c : CS K mg wd A O σ δ w s ps n) (nn : Nx w w') (st : RelS K mg w' s') (rr : RR K mg w w' z v) (e : z.sh = some p) (ha : w'.H A = some (.lst acc)) :
    acc.length ≤ n ∧ CS K mg wd A O σ δ (PW w w' A acc v) s' (ps ++ [p]) (n + 1) ∧ Stay w' (PW w w' A acc v) := by
  have c1 : CS K mg wd A O σ δ (Wd.drop w w') s' ps n := c.next (drop_nx nn) (drop_st st)
  have rd : RD K (Wd.drop w w') p v := rr.shd c.rel.st e
  obtain ⟨acc', h1, h2, h3⟩ := c1.has
  have h1 : w'.H A = some (.lst acc') := h1
  rw [ha] at h1
  cases h1
  obtain ⟨r6, k6⟩ := c1.rel.updD (o := .lst (acc ++ [v])) c1.N c1.mu c1.sep
  exact ⟨h3, ⟨nx_new c1.nx c.new, r6, c1.N, c1.mu, c1.sep, c.new, acc ++ [v], upd_same, (h2.append (.cons rd .nil)).stay k6, by rw [List.length_append, List.length_singleton]; omega⟩, drop_stay.trans k6⟩
theorem CS.push {σ2 : L2.St} {δ2 : List Sl} {z : Rv} {v : V} {p : PyData} (c : CS K mg wd A O σ δ w s ps n) (nn : Nx w w') (r2 : Rel K mg w' O σ2 δ2 s') (rr : RR K mg w w' z v) (e : z.sh = some p) :
    ∃ acc, w'.H A = some (.lst acc) ∧ acc.length ≤ n ∧ ∃ w6 : Wd, w6.H = upd w'.H A (.lst (acc ++ [v])) ∧ CS K mg wd A O σ δ w6 s' (ps ++ [p]) (n + 1) := by
  obtain ⟨acc, ha⟩ := c.acc nn
  obtain ⟨h1, h2, _⟩ := c.push' nn r2.st rr e ha
  exact ⟨acc, ha, h1, _, rfl, h2⟩
theorem CS.start (r : Rel K mg wd O σ δ s) (h : wd.H A = none) : CS K mg wd A O σ δ ⟨fun a => wd.N a ∨ a = A, wd.μ, upd wd.H A (.lst [])⟩ s [] 0 := by
  have g : Gr wd ⟨fun a => wd.N a ∨ a = A, wd.μ, upd wd.H A (.lst [])⟩ := Gr.addN h
  refine ⟨g.nx, g.rel r, .inr rfl, fun q => ?_, fun j p e z => ?_, h, [], upd_same, .nil, Nat.le_refl _⟩
  · obtain ⟨o, e⟩ := r.st.tr A (r.st.mN A q); rw [h] at e; cases e
  · obtain ⟨o, e2⟩ := (r.sl j _ e).2.2.2.some
    rw [z, h] at e2; cases e2
/-- the list when all is done -/
theorem CS.done (c : CS K mg wd A O σ δ w s ps n) (hn : n ≤ lim) : RR K mg wd w (.fr (.list ps)) (.ref A) :=
  let ⟨acc, h1, h2, h3⟩ := c.has
  ⟨A, rfl, ⟨acc, h1, by rw [lim_eq]; omega, h2⟩, c.N, c.mu, c.new⟩
theorem drop_cons {α : Type} {ds : List α} {i : Nat} {d : α} (h : ds[i]? = some d) : ds.drop i = d :: ds.drop (i + 1) := by
  obtain ⟨hlt, e⟩ := List.getElem?_eq_some_iff.mp h
  rw [← e]; exact List.drop_eq_getElem_cons hlt
theorem lc_weak {vs is : List Nat} {fi : IL} {g : GD} {t : T} {f : E} {H : Hp} {Q : VK} (hs : ∀ i ∈ is, i ∈ vs) (h : wpE K mg W (eLc vs fi g t f) σ H Q) : tLc (wpI K mg W fi) (wpG K mg g is) (wpT K mg W0 t) (wpE K mg W0 f) vs σ H Q := by
  obtain ⟨δ, s, w, O, rfl, r, h⟩ := h
  refine wpI.intro r ((Post.bind0 h).mono fun z s1 w1 n1 r1 p1 J hJ => ?_)
  obtain ⟨b, ds⟩ := z
  simp only at p1 hJ
  split at p1
  · rename_i hlim
    intro D hD
    cases hall : noEx (lcL g t f (wipeD δ vs) ds s1) with
    | bad => rw [hall] at p1; exact p1.elim
    | ex c fs s2 => cases hq : lcL g t f (wipeD δ vs) ds s1 <;> rw [hq] at hall <;> cases hall
    | ok all sE =>
      rw [hall] at p1
      have hall := noEx_ok hall
      have p1 : ∀ w2, Nx w w2 → Rel K mg w2 O σ δ sE → ∀ v, RR K mg w w2 (.fr (.list all)) v → Q v w2.H := p1
      have rd := drop_rel r n1 r1.st
      have nd := drop_nx n1
      obtain ⟨G, Y, wk, hG, hY⟩ := hJ
      have toL : ∀ {w2}, Nx (Wd.drop w w1) w2 → (if b = true then Stay (Wd.drop w w1) else Nx (Wd.drop w w1)) w2 := fun {w2} k => by
        cases b with
        | false => exact k
        | true => exact k.stay rd.st.mN
      refine lc_it wk (H1 := (Wd.drop w w1).H) (fun i H => ∃ w2 s2 ps rest, w2.H = H ∧ CS K mg (Wd.drop w w1) D O (wipe σ vs) (wipeD δ vs) w2 s2 ps i ∧ lcL g t f (wipeD δ vs) (ds.drop i) s2 = .ok rest sE ∧ all = ps ++ rest)
        ⟨_, s1, [], all, rfl, CS.start (rd.wipe vs) hD, hall, rfl⟩ ?_ ?_ ?_
      · rintro i H _ ⟨w2, s2, ps, rest, rfl, c, _, _⟩
        exact hG w2 (toL c.nx)
      · rintro i x H H' hi ⟨w2, s2, ps, rest, rfl, c, e1, e2⟩ y
        obtain ⟨d, w3, g1, rfl, g3, g4⟩ := hY i w2 x H' hi (toL c.nx) y
        rw [drop_cons g1] at e1
        simp only [lcL] at e1
        have c3 := c.next g3.nx (g3.st c.rel.st)
        cases eg : g d (wipeD δ vs) with
        | none => rw [eg] at e1; cases e1
        | some δ1 =>
          rw [eg] at e1
          simp only at e1
          obtain ⟨bb, s3, et, e1⟩ := bind_ok e1
          refine ⟨d, wipeD δ vs, δ1, s2, w3, O, rfl, c3.rel, g4 c.rel.st.tr, eg, fun σ2 r2 kg => ⟨wipe_gend hs kg.2.1 kg.2.2, ?_⟩⟩
          refine wpT.intro r2 (post_ok et fun w4 n4 r4 => ?_)
          have c4 := c3.next n4 r4.st
          cases bb with
          | false =>
            rw [if_neg (by decide)]
            exact ⟨w4, s3, ps, rest, rfl, c4.le (Nat.le_succ i), e1, e2⟩
          | true =>
            rw [if_pos rfl]
            simp only [if_true] at e1
            obtain ⟨z, s5, ez, e1⟩ := bind_ok e1
            refine wpE.intro r4 (post_ok ez fun w5 n5 r5 v rr => ?_)
            cases ep : z.sh with
            | none => rw [ep] at e1; cases e1
            | some p =>
              rw [ep] at e1
              obtain ⟨rest', s6, er, e1⟩ := bind_ok e1
              cases e1
              obtain ⟨acc, a1, a2, w6, a3, a4⟩ := c4.push n5 r5 rr ep
              refine ⟨acc, a1, by rw [lim_eq]; omega, w6, s5, ps ++ [p], rest', a3, a4, er, by rw [e2]; simp⟩
      · rintro H ⟨w2, s2, ps, rest, rfl, c, e1, e2⟩
        rw [List.drop_length] at e1
        cases e1
        rw [List.append_nil] at e2
        subst e2
        exact p1 w2 (nd.trans c.nx) (rd.next c.nx c.rel.st) _ ((c.done hlim).back nd)
  · exact p1.elim
def QTs (X : Cx) (W : WX) (ifs : List Expr) (f : T) : Prop := PTs X ifs (wpT X.K X.mg W f)
theorem PTs.weak {ifs : List Expr} {t t' : TT} (h : PTs X ifs t) (k : ∀ σ H Q, t' σ H Q → t σ H Q) : PTs X ifs t' := ⟨fun pins s σ H Q I q => h.run pins s σ H Q I (k σ H Q q)⟩
theorem qts_nil : QTs X W [] tTrue := PTs.weak pts_nil fun σ H Q h => by
  obtain ⟨δ, s, w, O, rfl, r, h⟩ := h
  exact h w Nx.refl r
theorem qts_one {c : Expr} {f : T} (h : QT X W c f) : QTs X W [c] f := pts_one h
/-- what a comprehension's parts are read in -/
abbrev BlkAll (X : Cx) (scope : Scope) (P : Cx → Prop) : Prop := ∀ (s : Shared) (H : Hp) (C : Addr) (cl : List (Str × Addr)) (fp : List Addr), P (X.blk s H scope (compEnvC scope cl C X.env) fp)
theorem qe_lc {elt tg iter : Expr} {ifs : List Expr} {scope : Scope} {own : List (Str × Nat)} {pos : Pos} {fi : IL} {g : GD} {is : List Nat} {t : T} {f : E} (hi : QI X W tg iter fi) (ok : BlkOk X.N X.env.scope scope own)
    (hg : BlkAll X scope fun X => QG X tg g is) (ht : BlkAll X scope fun X => QTs X W0 ifs t) (he : BlkAll X scope fun X => QE X W0 elt f) (hsub : ∀ i ∈ is, i ∈ own.map (·.2) := by decide) (hc : X.calm = true := by rfl) (hN : X.N.Nodup := by assumption) (hs : ∀ x, foldedSetIterable iter X.env x = pure x := by intro _; rfl) :
    QE X W (.ListComp elt [⟨tg, iter, ifs, 0⟩] scope pos) (eLc (own.map (·.2)) fi g t f) :=
  PE.weak (pe_lc (g := wpG X.K X.mg g is) (tt := wpT X.K X.mg W0 t) (te := wpE X.K X.mg W0 f) hc hN hi ok hg ht he hs) fun σ H Q h => lc_weak hsub h
theorem qs_asgLc {i : Nat} {m : Bool} {y : Str} {py : Pos} {elt tg iter : Expr} {ifs : List Expr} {scope : Scope} {own : List (Str × Nat)} {pos spos : Pos} {fi : IL} {g : GD} {is : List Nat} {t : T} {f : E} (hB : GoodB B) (hi : QI X W tg iter fi) (ok : BlkOk X.N X.env.scope scope own)
    (hg : BlkAll X scope fun X => QG X tg g is) (ht : BlkAll X scope fun X => QTs X W0 ifs t) (he : BlkAll X scope fun X => QE X W0 elt f) (hsub : ∀ i ∈ is, i ∈ own.map (·.2) := by decide) (hc : X.calm = true := by rfl) (hN : X.N.Nodup := by assumption)
    (hy : X.N[i]? = some y := by rfl) (hyl : X.env.scope.names.lookup y = some .local := by rfl) (hsw : swapsWith (.ListComp elt [⟨tg, iter, ifs, 0⟩] scope pos) (some (.Name y py)) spos.line X.env = pure true := by exact sw_true rfl rfl rfl (by decide +kernel)) (hs : ∀ x, foldedSetIterable iter X.env x = pure x := by intro _; rfl) :
    QS X W B (.Assign [.Name y py] (.ListComp elt [⟨tg, iter, ifs, 0⟩] scope pos) spos) (sAsg i m (eLc (own.map (·.2)) fi g t f)) := by
  refine PS.weak (ps_setLc (g := wpG X.K X.mg g is) (tt := wpT X.K X.mg W0 t) (te := wpE X.K X.mg W0 f) hc hN hy hyl hsw hi ok hg ht he hs) fun D σ H h => ?_
  obtain ⟨δ, s, w, O, rfl, r, h⟩ := h
  exact lc_weak hsub (asg_core hB r h)
def lc2L (g : GD) (t : T) (vs1 : List Nat) (it1 : IL) (g1 : GD) (t1 : T) (e : E) (δ : List Sl) : List PyData → Sto → Out (List PyData)
  | [], s => .ok [] s
  | d :: ds, s => match g d δ with
    | none => .bad
    | some δ1 => (t δ1 s).bind fun b s1 => if b then (it1 δ1 s1).bind fun z s2 => if z.1 = true ∧ z.2.length ≤ 4000 then (lcL g1 t1 e (wipeD δ1 vs1) z.2 s2).bind fun ps s3 =>
          (lc2L g t vs1 it1 g1 t1 e δ ds s3).bind fun rest s4 => .ok (ps ++ rest) s4
        else .bad
      else lc2L g t vs1 it1 g1 t1 e δ ds s1
def eLc2 (vs vs1 : List Nat) (it : IL) (g : GD) (t : T) (it1 : IL) (g1 : GD) (t1 : T) (e : E) : E := fun δ s => (it δ s).bind fun z s1 => if z.2.length ≤ 4000 then (noEx (lc2L g t vs1 it1 g1 t1 e (wipeD δ vs) z.2 s1)).bind fun ps s2 => .ok (.fr (.list ps)) s2 else .bad
theorem lc2_weak {vs vs1 is is1 : List Nat} {fi fi1 : IL} {g g1 : GD} {t t1 : T} {f : E} {H : Hp} {Q : VK} (hs : ∀ i ∈ is, i ∈ vs) (hs1 : ∀ i ∈ is1, i ∈ vs1) (h : wpE K mg W (eLc2 vs vs1 fi g t fi1 g1 t1 f) σ H Q) :
    tLc2 (wpI K mg W fi) (wpG K mg g is) (wpT K mg W0 t) (wpI K mg W0 fi1) (wpG K mg g1 is1) (wpT K mg W0 t1) (wpE K mg W0 f) vs vs1 σ H Q := by
  obtain ⟨δ, s, w, O, rfl, r, h⟩ := h
  refine wpI.intro r ((Post.bind0 h).mono fun z s1 w1 n1 r1 p1 J hJ => ?_)
  obtain ⟨b, ds⟩ := z
  simp only at p1 hJ
  split at p1
  · rename_i hlim
    intro D hD
    cases hall : noEx (lc2L g t vs1 fi1 g1 t1 f (wipeD δ vs) ds s1) with
    | bad => rw [hall] at p1; exact p1.elim
    | ex c fs s2 => cases hq : lc2L g t vs1 fi1 g1 t1 f (wipeD δ vs) ds s1 <;> rw [hq] at hall <;> cases hall
    | ok all sE =>
      rw [hall] at p1
      have hall := noEx_ok hall
      have p1 : ∀ w2, Nx w w2 → Rel K mg w2 O σ δ sE → ∀ v, RR K mg w w2 (.fr (.list all)) v → Q v w2.H := p1
      have rd := drop_rel r n1 r1.st
      have nd := drop_nx n1
      obtain ⟨G, Y, wk, hG, hY⟩ := hJ
      have toL : ∀ {w2}, Nx (Wd.drop w w1) w2 → (if b = true then Stay (Wd.drop w w1) else Nx (Wd.drop w w1)) w2 := fun {w2} k => by
        cases b with
        | false => exact k
        | true => exact k.stay rd.st.mN
      -- the invariant of the outer loop
      let P : Nat → Hp → Prop := fun i H => ∃ w2 s2 ps rest, w2.H = H ∧ CS K mg (Wd.drop w w1) D O (wipe σ vs) (wipeD δ vs) w2 s2 ps (i * 4000) ∧ lc2L g t vs1 fi1 g1 t1 f (wipeD δ vs) (ds.drop i) s2 = .ok rest sE ∧ all = ps ++ rest
      refine ⟨fun i m H => m = ds.length - i ∧ i ≤ ds.length ∧ P i H, ⟨ds.length, by simp, Nat.zero_le _, ⟨_, s1, [], all, rfl, (CS.start (rd.wipe vs) hD).le (by omega), hall, rfl⟩⟩, ?_⟩
      rintro i m H ⟨rfl, hi, ⟨w2, s2, ps, rest, rfl, c, e1, e2⟩⟩
      by_cases hlt : i < ds.length
      · refine .inr ⟨wk.goes i _ hlt (hG w2 (toL c.nx)), P (i + 1), fun H' p' => ⟨ds.length - (i + 1), by omega, rfl, hlt, p'⟩, fun x H' y => ?_⟩
        obtain ⟨d, w3, q1, rfl, q3, q4⟩ := hY i w2 x H' hlt (toL c.nx) (wk.yields i w2.H x H' hlt (hG w2 (toL c.nx)) y)
        rw [drop_cons q1] at e1
        simp only [lc2L] at e1
        have c3 := c.next q3.nx (q3.st c.rel.st)
        cases eg : g d (wipeD δ vs) with
        | none => rw [eg] at e1; cases e1
        | some δ1 =>
          rw [eg] at e1
          simp only at e1
          obtain ⟨bb, s3, et, e1⟩ := bind_ok e1
          refine ⟨d, wipeD δ vs, δ1, s2, w3, O, rfl, c3.rel, q4 c.rel.st.tr, eg, fun σ2 r2 kg => ⟨wipe_gend hs kg.2.1 kg.2.2, ?_⟩⟩
          refine wpT.intro r2 (post_ok et fun w4 n4 r4 => ?_)
          have c4 := c3.next n4 r4.st
          cases bb with
          | false =>
            rw [if_neg (by decide)]
            exact ⟨w4, s3, ps, rest, rfl, c4.le (by omega), e1, e2⟩
          | true =>
            rw [if_pos rfl]
            simp only [if_true] at e1
            obtain ⟨z1, s5, ez, e1⟩ := bind_ok e1
            obtain ⟨b1, ds1⟩ := z1
            simp only at e1
            split at e1
            · rename_i hl1
              obtain ⟨ps1, s6, ei, e1⟩ := bind_ok e1
              obtain ⟨rest', s7, er, e1⟩ := bind_ok e1
              cases e1
              have hb1 : b1 = true := hl1.1
              subst hb1
              have hl1 := hl1.2
              refine wpI.intro r4 (post_ok ez fun w5 n5 r5 J1 hJ1 => ?_)
              have hJ1 : ItOf K (Stay (Wd.drop w4 w5)) J1 ds1 := hJ1
              have rd1 := drop_rel r4 n5 r5.st
              have c5 : CS K mg (Wd.drop w w1) D O (wipe σ vs) (wipeD δ vs) (Wd.drop w4 w5) s5 ps (i * 4000) := c4.next (drop_nx n5) rd1.st
              have c5' : CS K mg (Wd.drop w w1) D O (wipe σ2 vs1) (wipeD δ1 vs1) (Wd.drop w4 w5) s5 ps (i * 4000) := c5.slots (rd1.wipe vs1) fun j p e => kg.1 j p (wipeD_own e)
              obtain ⟨G1, Y1, wk1, hG1, hY1⟩ := hJ1
              let P1 : Nat → Hp → Prop := fun j H => ∃ w6 s6' qs rest1, w6.H = H ∧ Stay (Wd.drop w4 w5) w6 ∧ CS K mg (Wd.drop w w1) D O (wipe σ2 vs1) (wipeD δ1 vs1) w6 s6' (ps ++ qs) (i * 4000 + j) ∧ CS K mg (Wd.drop w w1) D O (wipe σ vs) (wipeD δ vs) w6 s6' (ps ++ qs) (i * 4000 + j) ∧
                lcL g1 t1 f (wipeD δ1 vs1) (ds1.drop j) s6' = .ok rest1 s6 ∧ ps1 = qs ++ rest1
              refine ⟨fun j m H => m = ds1.length - j ∧ j ≤ ds1.length ∧ P1 j H, ⟨ds1.length, by simp, Nat.zero_le _, ⟨Wd.drop w4 w5, s5, [], ps1, rfl, .refl, by simpa using c5', by simpa using c5, ei, rfl⟩⟩, ?_⟩
              rintro j m H ⟨rfl, hj, ⟨w6, s6', qs, rest1, rfl, n6, c6, d6, e3, e4⟩⟩
              by_cases hlt1 : j < ds1.length
              · refine .inr ⟨wk1.goes j _ hlt1 (hG1 w6 n6), P1 (j + 1), fun H' p' => ⟨ds1.length - (j + 1), by omega, rfl, hlt1, p'⟩, fun x1 H1' y1 => ?_⟩
                obtain ⟨d1, w7, u1, rfl, u3, u4⟩ := hY1 j w6 x1 H1' hlt1 n6 (wk1.yields j w6.H x1 H1' hlt1 (hG1 w6 n6) y1)
                rw [drop_cons u1] at e3
                simp only [lcL] at e3
                have c7 := c6.next u3.nx (u3.st c6.rel.st)
                have d7 := d6.next u3.nx (u3.st c6.rel.st)
                have n7 := n6.trans (u3.nx.stay c6.rel.st.mN)
                cases eg1 : g1 d1 (wipeD δ1 vs1) with
                | none => rw [eg1] at e3; cases e3
                | some δ2 =>
                  rw [eg1] at e3
                  simp only at e3
                  obtain ⟨bb1, s8, et1, e3⟩ := bind_ok e3
                  refine ⟨d1, wipeD δ1 vs1, δ2, s6', w7, O, rfl, c7.rel, u4 c6.rel.st.tr, eg1, fun σ3 r8 kg1 => ⟨wipe_gend hs1 kg1.2.1 kg1.2.2, ?_⟩⟩
                  refine wpT.intro r8 (post_ok et1 fun w8 n8 r9 => ?_)
                  have c8 := c7.next n8 r9.st
                  have d8 := d7.next n8 r9.st
                  have k8 := n7.trans (n8.stay c7.rel.st.mN)
                  cases bb1 with
                  | false =>
                    rw [if_neg (by decide)]
                    exact ⟨w8, s8, qs, rest1, rfl, k8, c8.le (by omega), d8.le (by omega), e3, e4⟩
                  | true =>
                    rw [if_pos rfl]
                    simp only [if_true] at e3
                    obtain ⟨z9, s9, ez9, e3⟩ := bind_ok e3
                    refine wpE.intro r9 (post_ok ez9 fun w9 n9 r10 v rr => ?_)
                    cases ep : z9.sh with
                    | none => rw [ep] at e3; cases e3
                    | some p =>
                      rw [ep] at e3
                      obtain ⟨rest2, s10, er2, e3⟩ := bind_ok e3
                      cases e3
                      obtain ⟨acc, ha⟩ := c8.acc n9
                      obtain ⟨a2, a4, a5⟩ := c8.push' n9 r10.st rr ep ha
                      obtain ⟨_, b4, _⟩ := d8.push' n9 r10.st rr ep ha
                      have lm : lim = 16777216 := rfl
                      have hi4 : i * 4000 ≤ 3999 * 4000 := Nat.mul_le_mul_right _ (by omega)
                      exact ⟨acc, ha, by rw [lim_eq]; omega, PW w8 w9 D acc v, s9, qs ++ [p], rest2, rfl, (k8.trans (n9.stay c8.rel.st.mN)).trans a5, by rw [← List.append_assoc]; exact a4, by rw [← List.append_assoc]; exact b4, er2, by rw [e4]; simp⟩
              · have ej : j = ds1.length := by omega
                subst ej
                rw [List.drop_length] at e3
                cases e3
                rw [List.append_nil] at e4
                subst e4
                exact .inl ⟨wk1.stops _ (hG1 w6 n6), w6, s6, ps ++ ps1, rest', rfl, d6.le (by omega), er, by rw [e2]; simp⟩
            · cases e1
      · have ei : i = ds.length := by omega
        subst ei
        rw [List.drop_length] at e1
        cases e1
        rw [List.append_nil] at e2
        subst e2
        have lm : lim = 16777216 := rfl
        exact .inl ⟨wk.stops _ (hG w2 (toL c.nx)), p1 w2 (nd.trans c.nx) (rd.next c.nx c.rel.st) _ ((c.done (by omega)).back nd)⟩
  · exact p1.elim
theorem qe_lc2 {elt tg iter tg1 iter1 : Expr} {ifs ifs1 : List Expr} {scope : Scope} {own : List (Str × Nat)} (vs1 : List Nat) {pos : Pos} {fi fi1 : IL} {g g1 : GD} {is is1 : List Nat} {t t1 : T} {f : E} (hi : QI X W tg iter fi) (ok : BlkOk X.N X.env.scope scope own)
    (hg : BlkAll X scope fun X => QG X tg g is) (ht : BlkAll X scope fun X => QTs X W0 ifs t) (hi1 : BlkAll X scope fun X => QI X W0 tg1 iter1 fi1) (hg1 : BlkAll X scope fun X => QG X tg1 g1 is1) (ht1 : BlkAll X scope fun X => QTs X W0 ifs1 t1) (he : BlkAll X scope fun X => QE X W0 elt f)
    (hv : ∀ i ∈ vs1, i ∈ own.map (·.2) := by decide) (hsub : ∀ i ∈ is, i ∈ own.map (·.2) := by decide) (hsub1 : ∀ i ∈ is1, i ∈ vs1 := by decide) (hc : X.calm = true := by rfl) (hN : X.N.Nodup := by assumption) (hs : ∀ x, foldedSetIterable iter X.env x = pure x := by intro _; rfl) (hs1 : ∀ env x, foldedSetIterable iter1 env x = pure x := by intro _ _; rfl) :
    QE X W (.ListComp elt [⟨tg, iter, ifs, 0⟩, ⟨tg1, iter1, ifs1, 0⟩] scope pos) (eLc2 (own.map (·.2)) vs1 fi g t fi1 g1 t1 f) :=
  PE.weak (pe_lc2 (g := wpG X.K X.mg g is) (tt := wpT X.K X.mg W0 t) (wi1 := wpI X.K X.mg W0 fi1) (g1 := wpG X.K X.mg g1 is1) (tt1 := wpT X.K X.mg W0 t1) (te := wpE X.K X.mg W0 f) hc hN hi ok hv hg ht hi1 hg1 ht1 he hs hs1) fun σ H Q h => lc2_weak hsub hsub1 h
theorem qs_asgLc2 {i : Nat} {m : Bool} {y : Str} {py : Pos} {elt tg iter tg1 iter1 : Expr} {ifs ifs1 : List Expr} {scope : Scope} {own : List (Str × Nat)} (vs1 : List Nat) {pos spos : Pos} {fi fi1 : IL} {g g1 : GD} {is is1 : List Nat} {t t1 : T} {f : E} (hB : GoodB B) (hi : QI X W tg iter fi) (ok : BlkOk X.N X.env.scope scope own)
    (hg : BlkAll X scope fun X => QG X tg g is) (ht : BlkAll X scope fun X => QTs X W0 ifs t) (hi1 : BlkAll X scope fun X => QI X W0 tg1 iter1 fi1) (hg1 : BlkAll X scope fun X => QG X tg1 g1 is1) (ht1 : BlkAll X scope fun X => QTs X W0 ifs1 t1) (he : BlkAll X scope fun X => QE X W0 elt f)
    (hv : ∀ i ∈ vs1, i ∈ own.map (·.2) := by decide) (hsub : ∀ i ∈ is, i ∈ own.map (·.2) := by decide) (hsub1 : ∀ i ∈ is1, i ∈ vs1 := by decide) (hc : X.calm = true := by rfl) (hN : X.N.Nodup := by assumption)
    (hy : X.N[i]? = some y := by rfl) (hyl : X.env.scope.names.lookup y = some .local := by rfl) (hsw : swapsWith (.ListComp elt [⟨tg, iter, ifs, 0⟩, ⟨tg1, iter1, ifs1, 0⟩] scope pos) (some (.Name y py)) spos.line X.env = pure true := by exact sw_true rfl rfl rfl (by decide +kernel))
    (hs : ∀ x, foldedSetIterable iter X.env x = pure x := by intro _; rfl) (hs1 : ∀ env x, foldedSetIterable iter1 env x = pure x := by intro _ _; rfl) :
    QS X W B (.Assign [.Name y py] (.ListComp elt [⟨tg, iter, ifs, 0⟩, ⟨tg1, iter1, ifs1, 0⟩] scope pos) spos) (sAsg i m (eLc2 (own.map (·.2)) vs1 fi g t fi1 g1 t1 f)) := by
  refine PS.weak (ps_setLc2 (g := wpG X.K X.mg g is) (tt := wpT X.K X.mg W0 t) (wi1 := wpI X.K X.mg W0 fi1) (g1 := wpG X.K X.mg g1 is1) (tt1 := wpT X.K X.mg W0 t1) (te := wpE X.K X.mg W0 f) hc hN hy hyl hsw hi ok hv hg ht hi1 hg1 ht1 he hs hs1) fun D σ H h => ?_
  obtain ⟨δ, s, w, O, rfl, r, h⟩ := h
  exact lc2_weak hsub hsub1 (asg_core hB r h)
end
end Lay
namespace Lay
open PySem PySem.Spec PyProof.Rows L2
abbrev Fd := List Rv → Sto → Out Rv
def shL : List Rv → Option (List Rv)
  | [] => some []
  | r :: rs => match shr r, shL rs with
    | some r', some rs' => some (r' :: rs')
    | _, _ => none
inductive RVs (K : PySem.W.Frag) (mg : Str → Option Value) (w : Wd) : List Rv → List V → Prop
  | nil : RVs K mg w [] []
  | cons {r : Rv} {v : V} {rs : List Rv} {vs : List V} : RV K mg w r v → RVs K mg w rs vs → RVs K mg w (r :: rs) (v :: vs)
def spD (K : PySem.W.Frag) (mg : Str → Option Value) (n : Nat) (F : Fd) : Sp := fun vs H Q E => ∃ as s w, w.H = H ∧ vs.length = n ∧ RelS K mg w s ∧ RVs K mg w as vs ∧
  match F as s with
  | .ok r s' => ∀ w' v, Nx w w' → RelS K mg w' s' → RR K mg w w' r v → Q v w'.H
  | .ex c fs s' => ∀ C d w', Nx w w' → RelS K mg w' s' → mg c = some (.ref C) → XdOk K w' d fs → E (.ref C) d w'.H
  | .bad => False
/-- a def that may be called by the name x -/
def Cal (P : Program) (w : World) (K : PySem.W.Frag) (mg : Str → Option Value) (base : Heap) (x : Str) (k n : Nat) (F : Fd) : Prop :=
  ∃ f fd ps, FnOk P w K mg base (L2.CX P w) k f fd ps (spD K mg n F) ∧ mg x = some (.ref f) ∧ PySem.W.keepIn K (.ref f) = true ∧ Binds K fd ps []
section
variable {X : Cx} {W : WX} {K : PySem.W.Frag} {mg : Str → Option Value} {B w w' w'' w0 wd : Wd} {s s' : Sto} {O : Nat → Addr} {σ σ' : L2.St} {δ δ' : List Sl} {A : Addr}
theorem RVs.length : ∀ {rs : List Rv} {vs : List V}, RVs K mg w rs vs → rs.length = vs.length
  | _, _, .nil => rfl
  | _, _, .cons _ t => by simp [t.length]
theorem RRs.rvs (st0 : RelS K mg w s') : ∀ {rs as : List Rv} {vs : List V}, RRs K mg w w' rs vs → shL rs = some as → RVs K mg (Wd.drop w w') as vs
  | _, _, _, .nil, e => by simp [shL] at e; subst e; exact .nil
  | _, _, _, .cons (r := r) h t _, e => by
    simp only [shL] at e
    split at e
    · rename_i r' rs' h1 h2
      cases e
      refine .cons ?_ (t.rvs st0 h2)
      cases r with
      | v p => cases h1; exact RD.stay drop_stay h
      | fr p => cases h1; exact RR.shd h st0 rfl
      | ref l => cases h1; exact h
      | fn x => cases h1; exact h
      | scr ns => cases h1; obtain ⟨a, o, e, n, rfl⟩ := h; exact ⟨a, o, e.stay drop_stay, trivial, rfl⟩
      | bo p => cases h1
    · cases e
def eCall (n : Nat) (F : Fd) (a : AL) : E := fun δ s => (a δ s).bind fun rs s1 => match shL rs with
  | some as => if as.length = n then F as s1 else .bad
  | none => .bad
theorem passAt0 {X : Cx} (σ : L2.St) : PassesAt (L2.CX X.prog X.w) X σ (WE W0 σ) := fun _ _ _ _ _ _ c => by
  obtain ⟨_, _, _, _, _, _, _, _, _, _, _, _, z⟩ := c
  exact z.elim
theorem call_core {n : Nat} {F : Fd} {a : AL} {Q : VK} (r : Rel K mg w O σ δ s) (h : Post K mg W w O σ δ (eCall n F a δ s) fun z _ w' => ∀ v, RR K mg w w' z v → Q v w'.H) :
    wpA K mg W a σ w.H fun vs H1 => spD K mg n F (vs ++ []) H1 Q (WE W σ) := by
  refine wpA.intro r ((Post.bind0 h).mono fun rs s1 w1 n1 r1 p1 vs rrs => ?_)
  rw [List.append_nil]
  cases e : shL rs with
  | none => rw [e] at p1; exact p1.elim
  | some as =>
    rw [e] at p1
    simp only at p1
    split at p1
    · rename_i hn
      have rd := drop_rel r n1 r1.st
      have rv := rrs.rvs r.st e
      refine ⟨as, s1, Wd.drop w w1, rfl, by rw [← rv.length]; exact hn, rd.st, rv, ?_⟩
      cases eF : F as s1 with
      | bad => rw [eF] at p1; exact p1
      | ex c fs s2 => rw [eF] at p1; exact fun C d w2 n2 st2 hc hx => p1 C d w2 ((drop_nx n1).trans n2) (rd.next n2 st2) hc hx
      | ok z s2 => rw [eF] at p1; exact fun w2 v n2 st2 rr => p1 w2 ((drop_nx n1).trans n2) (rd.next n2 st2) v (rr.back (drop_nx n1))
    · exact p1.elim
theorem qe_call {x : Str} {k n : Nat} {F : Fd} {e : Expr} {es : List Expr} {a : AL} {p pos : Pos} (C : Cal X.prog X.w X.K X.mg X.base x k n F) (hr : Room k X.A) (hx : ∀ σ, PassesAt (L2.CX X.prog X.w) X σ (WE W σ)) (ha : QA X W (e :: es) a) (hg : Gl X x := by rfl)
    (hdb : (x == ("__debug__" : Str)) = false := by decide) (he : starEach (e :: es) X.env = (false, eval e X.env) :: starEach es X.env := by rfl) (hpl : (backTo pos (starEach es X.env)).any (·.1) = false := by rfl) : QE X W (.Call (.Name x p) (e :: es) [] pos) (eCall n F a) := by
  obtain ⟨f, fd, ps, h1, h2, h3, h4⟩ := C
  refine PE.weak (pe_callSD (E := fun σ => WE W σ) h1 hr hg h2 h3 h4 .nil hx ha hdb he hpl) fun σ H Q h => ?_
  obtain ⟨δ, s, w, O, rfl, r, h⟩ := h
  exact call_core r h
def slOfA : Rv → Sl := slOf
def runF (d : S) (m : Nat) : Fd := fun as s => match d (as.map slOf ++ List.replicate (m - as.length) .un) s with
  | .ok (.nx _) s' => .ok (.v .none) s'
  | .ok (.ret r) s' => .ok r s'
  | .ex c fs s' => .ex c fs s'
  | _ => .bad
theorem RVs.get : ∀ {rs : List Rv} {vs : List V} {i : Nat} {r : Rv}, RVs K mg w rs vs → rs[i]? = some r → ∃ v, vs[i]? = some v ∧ RV K mg w r v
  | _, _, _, _, .nil, e => by simp at e
  | _, _, 0, _, .cons r _, e => by simp at e; subst e; exact ⟨_, rfl, r⟩
  | _, _, i + 1, _, .cons _ t, e => by simp at e; simpa using t.get e
theorem start_rel {N : List Str} {as : List Rv} {vs : List V} (st : RelS K mg w s) (rv : RVs K mg w as vs) (hN : vs.length ≤ N.length) (O : Nat → Addr) : Rel K mg w O (L2.start N vs) (as.map slOf ++ List.replicate (N.length - as.length) .un) s := by
  have hl := rv.length
  have own : ∀ (i : Nat) p, (as.map slOf ++ List.replicate (N.length - as.length) Sl.un)[i]? ≠ some (.own p) := fun i p e => by
    rw [List.getElem?_append] at e
    split at e
    · rw [List.getElem?_map] at e
      cases q : as[i]? with
      | none => rw [q] at e; cases e
      | some r => rw [q] at e; cases r <;> simp [slOf] at e
    · rw [List.getElem?_replicate] at e
      split at e <;> cases e
  refine ⟨st, ?_, fun i q e => ?_, fun i j p q e1 e2 => absurd e1 (own i p)⟩
  · unfold L2.start
    rw [List.length_append, List.length_append, List.length_map, List.length_map, List.length_replicate, List.length_replicate, hl]
  · rw [List.getElem?_append] at e
    split at e
    · rename_i hi
      rw [List.length_map] at hi
      rw [List.getElem?_map] at e
      cases q' : as[i]? with
      | none => rw [q'] at e; cases e
      | some r =>
        rw [q'] at e
        cases e
        obtain ⟨v, h1, h2⟩ := rv.get q'
        have h3 : (L2.start N vs)[i]? = some (some v) := by
          unfold L2.start
          rw [List.getElem?_append_left (by rw [List.length_map, ← hl]; exact hi), List.getElem?_map, h1]; rfl
        rw [h3]
        cases r with
        | v p => exact ⟨v, rfl, h2⟩
        | ref l => exact ⟨v, rfl, h2⟩
        | fn x => exact ⟨v, rfl, h2⟩
        | scr ns => exact ⟨v, rfl, h2⟩
        | fr p => trivial
        | bo p => trivial
    · rw [List.getElem?_replicate] at e
      split at e
      · cases e; trivial
      · cases e
theorem fn_ok {P : Program} {w : World} {K : PySem.W.Frag} {mg : Str → Option Value} {base : Heap} {x qual : Str} {params : Arguments} {body : List Stmt} {scope : Scope} {dvs : List V} {kws : List (Str × V)} {f : Addr} {fd : FuncData} {N ps : List Str} {k : Nat} {d : S} (F : FunD K x qual params body scope dvs kws f fd) (S : FnScope N ps scope)
    (hb : ∀ (cdv : Value) (A : Around) (outer : List Env) (s : Shared) (H : Hp) (E : XK) (B : Wd), GoodB B → Room k (A.deeper (envOfC qual scope s.heap.objs.size f cdv)) →
      QSs (cxOf (L2.CX P w) P w K mg base N qual scope f cdv A outer s H E) (fun cls d _ H => E cls d H) B body d) : FnOk P w K mg base (L2.CX P w) (k + 1) f fd ps (spD K mg ps.length (runF d N.length)) := by
  have hN : ps.length ≤ N.length := by
    have := congrArg List.length S.pre
    rw [List.length_take] at this
    omega
  refine F.ok S (fun vs H Q E h => ?_) fun cdv A outer s H vs Q E hr hsp => ?_
  · obtain ⟨_, _, _, _, h, _⟩ := h; exact h
  · obtain ⟨as, s0, B, rfl, hl, st, rv, h⟩ := hsp
    refine ⟨_, hb cdv A outer s B.H E B st.tr hr, ?_⟩
    have r := start_rel (N := N) st rv (by omega) (fun _ => 0)
    refine ⟨_, s0, B, fun _ => 0, rfl, ⟨r, Nx.refl, fun i p e => absurd e ?_⟩, ?_⟩
    · intro e
      have h := r.sl i _ e
      rw [List.getElem?_append] at e
      split at e
      · rw [List.getElem?_map] at e
        cases q : as[i]? with
        | none => rw [q] at e; cases e
        | some r => rw [q] at e; cases r <;> simp [slOf] at e
      · rw [List.getElem?_replicate] at e
        split at e <;> cases e
    · unfold runF at h
      cases e : d (as.map slOf ++ List.replicate (N.length - as.length) .un) s0 with
      | bad => rw [e] at h; exact h
      | ex c fs s1 => rw [e] at h; exact fun C d w' σ n st hc hx => h C d w' n st hc hx
      | ok fl s1 =>
        rw [e] at h
        cases fl with
        | nx δ => exact fun w' σ O k r => h w' .non r.nx r.rel.st .none
        | ret z => exact fun w' v n st rr => h w' v n st rr
        | brk δ => exact h.elim
        | ct δ => exact h.elim
/-- nothing is promised -/
def fBad : Fd := fun _ _ => .bad
theorem fn_bad {P : Program} {w : World} {K : PySem.W.Frag} {mg : Str → Option Value} {base : Heap} {x qual : Str} {params : Arguments} {body : List Stmt} {scope : Scope} {dvs : List V} {kws : List (Str × V)} {f : Addr} {fd : FuncData} {N ps : List Str} {k : Nat} (F : FunD K x qual params body scope dvs kws f fd) (S : FnScope N ps scope) :
    FnOk P w K mg base (L2.CX P w) (k + 1) f fd ps (spD K mg ps.length fBad) := by
  refine F.ok S (fun vs H Q E h => ?_) fun cdv A outer s H vs Q E hr hsp => ?_
  · obtain ⟨_, _, _, _, h, _⟩ := h; exact h
  · obtain ⟨_, _, _, _, _, _, _, h⟩ := hsp; exact h.elim
def eScr (i : Nat) : E := fun δ s => match δ[i]? with
  | some (.scr ns) => if ns.length ≤ lim then .ok (.fr (.list (ns.map .int))) s else .bad
  | _ => .bad
theorem ints_rd : ∀ ns : List Int, RDs K w (ns.map .int) (ns.map V.int)
  | [] => .nil
  | n :: ns => .cons (.int n) (ints_rd ns)
theorem qe_scr {i : Nat} {y : Str} {p1 p pos : Pos} (hm : X.mg "list" = none) (hN : X.N[i]? = some y := by rfl) (hv : Vis X.env.scope y := by first | exact Or.inl rfl | exact Or.inr (Or.inl rfl) | exact Or.inr (Or.inr rfl)) (hg : Gl X "list" := by rfl) (hd : (y == ("__debug__" : Str)) = false := by decide)
    (hcd : (y == ("__classdict__" : Str)) = false := by decide)
    (he : starEach (.Name y p1 :: []) X.env = (false, eval (.Name y p1) X.env) :: starEach [] X.env := by rfl) (hpl : (backTo pos (starEach [] X.env)).any (·.1) = false := by rfl) : QE X W (.Call (.Name "list" p) [.Name y p1] [] pos) (eScr i) := by
  refine PE.weak (pe_callTy (call_list_of) hg hm (by decide +kernel) (pa_cons (pe_var hN hv hd hcd) pa_nil he) (by decide) (by decide) he hpl) fun σ H Q h => ?_
  obtain ⟨δ, s, w, O, rfl, r, h⟩ := h
  unfold eScr at h
  split at h
  · rename_i ns hi
    split at h
    · rename_i hl
      obtain ⟨v, h1, a, o, h2, h3, rfl⟩ := r.sl i _ hi
      refine ⟨_, h1, a, ns.map V.int, rfl, .inl h2.seq, fun l hl' => ?_⟩
      have g : Gr w ⟨fun b => w.N b ∨ b = l, w.μ, upd w.H l (.lst (ns.map V.int))⟩ := Gr.addN hl'
      refine Post.at h g.nx (g.rel r) _ ⟨l, rfl, ⟨_, upd_same, by rw [List.length_map, lim_eq]; exact hl, ints_rd ns⟩, .inr rfl, fun q => ?_, hl'⟩
      obtain ⟨o, e⟩ := r.st.tr l (r.st.mN l q)
      rw [hl'] at e; cases e
    · exact h.elim
  · exact h.elim
theorem qe_gint {x : Str} {i : Int} {pos : Pos} (hm : ∃ t, X.mg x = some (.int i t)) (hg : Gl X x := by rfl) (hd : (x == ("__debug__" : Str)) = false := by decide) : QE X W (.Name x pos) (eC (.int i)) := by
  obtain ⟨t, hm⟩ := hm
  exact qe_glob (v := .int i) hg hm ⟨t, rfl⟩ (fun w => .int i) hd
theorem qe_gstr {x z : Str} {pos : Pos} (hm : ∃ t, X.mg x = some (.str z t)) (hs : strFit z = true := by decide +kernel) (hg : Gl X x := by rfl) (hd : (x == ("__debug__" : Str)) = false := by decide) : QE X W (.Name x pos) (eC (.str z)) := by
  obtain ⟨t, hm⟩ := hm
  simp only [strFit, Bool.and_eq_true, decide_eq_true_eq] at hs
  exact qe_glob (v := .str z) hg hm ⟨t, rfl⟩ (fun w => .str z (by rw [lim_eq]; exact hs.1) hs.2) hd
/-- the law's def, called with its script -/
theorem spLaw_of {F : Fd} (hF : ∀ ns : List Int, ns.length ≤ 63 → ∃ s, F [.scr ns] [] = .ok (.v (.bool true)) s) (H : Hp) (a : Addr) (ns : List Int) (hl : ns.length ≤ 63) (hO : Only H) (hS : SqL K H a (ns.map V.int)) :
    spD K mg 1 F [.ref a] H (fun v _ => v = .bl true) fun _ _ _ => False := by
  obtain ⟨s', e⟩ := hF ns hl
  refine ⟨[.scr ns], [], ⟨fun _ => False, [], H⟩, rfl, rfl, ⟨fun _ h => by simp at h, fun _ h => h.elim, rfl, List.nodup_nil, fun l c a e => by simp at e⟩, .cons ?_ .nil, ?_⟩
  · rcases hS with (h | ⟨o, h⟩) | h
    · rcases hO a with e | ⟨o, xs, e⟩ <;> rw [e] at h <;> cases h
    · exact ⟨a, o, .inl ⟨h, id⟩, trivial, rfl⟩
    · obtain ⟨o, its, n, hk⟩ := h
      exact ⟨a, o, .inr ⟨o, its, n, hk⟩, trivial, rfl⟩
  · rw [e]
    intro w' v n st rr
    cases (show RD K w' (.bool true) v from rr)
    rfl
end
end Lay
namespace Lay
open PySem PySem.Spec PyProof.Rows L2
section
variable {X : Cx} {W : WX} {K : PySem.W.Frag} {mg : Str → Option Value} {B w w' w'' w0 wd : Wd} {s s' : Sto} {O : Nat → Addr} {σ σ' : L2.St} {δ δ' : List Sl} {A : Addr}
theorem tval_wpE {f : E} {H : Hp} {Q : Bool → Hp → Prop} (h : wpT K mg W (tVal f) σ H Q) : wpE K mg W f σ H fun v H' => ∃ b, v = .bl b ∧ Q b H' := by
  obtain ⟨δ, s, w, O, rfl, r, h⟩ := h
  refine wpE.intro r (Post.mono (Post.bind0 h) fun r1 s1 w1 n1 rel1 p1 x rr1 => ?_)
  obtain ⟨c, rfl, h2⟩ := asB_ok (asB_end p1) rr1
  exact ⟨c, rfl, Post.at h2 n1 rel1⟩
theorem isN_weak {fa : E} {H : Hp} {Q : VK} (h : wpE K mg W (eIsN fa) σ H Q) : tIsN (wpE K mg W fa) σ H Q := by
  obtain ⟨δ, s, w, O, rfl, r, h⟩ := h
  refine wpE.intro r (Post.mono (Post.bind0 h) fun r1 s1 w1 n1 rel1 p1 x rr1 => ?_)
  cases r1 with
  | v p =>
    have e : decide (x = V.non) = isNone p := by
      have rr1 : RD K w1 p x := rr1
      cases rr1 <;> simp [isNone]
    rw [e]
    exact Post.at p1 n1 rel1 _ (.bool _)
  | fr p => obtain ⟨a, rfl, _⟩ := rr1; exact Post.at p1 n1 rel1 _ (.bool _)
  | bo p => obtain ⟨a, rfl, _⟩ := rr1; exact Post.at p1 n1 rel1 _ (.bool _)
  | ref l => obtain ⟨a, _, rfl⟩ := rr1; exact Post.at p1 n1 rel1 _ (.bool _)
  | fn y => obtain ⟨a, _, rfl⟩ := rr1; exact Post.at p1 n1 rel1 _ (.bool _)
  | scr ns => obtain ⟨a, o, _, _, rfl⟩ := rr1; exact Post.at p1 n1 rel1 _ (.bool _)
theorem notN_weak {fa : E} {H : Hp} {Q : VK} (h : wpE K mg W (eNotN fa) σ H Q) : tNotN (wpE K mg W fa) σ H Q := by
  obtain ⟨δ, s, w, O, rfl, r, h⟩ := h
  refine wpE.intro r (Post.mono (Post.bind0 h) fun r1 s1 w1 n1 rel1 p1 x rr1 => ?_)
  cases r1 with
  | v p =>
    have e : (!decide (x = V.non)) = !isNone p := by
      have rr1 : RD K w1 p x := rr1
      cases rr1 <;> simp [isNone]
    rw [e]
    exact Post.at p1 n1 rel1 _ (.bool _)
  | fr p => obtain ⟨a, rfl, _⟩ := rr1; exact Post.at p1 n1 rel1 _ (.bool _)
  | bo p => obtain ⟨a, rfl, _⟩ := rr1; exact Post.at p1 n1 rel1 _ (.bool _)
  | ref l => obtain ⟨a, _, rfl⟩ := rr1; exact Post.at p1 n1 rel1 _ (.bool _)
  | fn y => obtain ⟨a, _, rfl⟩ := rr1; exact Post.at p1 n1 rel1 _ (.bool _)
  | scr ns => obtain ⟨a, o, _, _, rfl⟩ := rr1; exact Post.at p1 n1 rel1 _ (.bool _)
theorem qt_isN {a : Expr} {fa : E} {j pos pos'} (ha : QE X W a fa) : QT X W (.Compare a [.Is] [.Constant .none j pos'] pos) (tVal (eIsN fa)) :=
  PT.weak (pt_cmp (pc_isN ha) (by first | exact nobehind _ (by decide) (by decide) | rfl)) fun σ H Q h => isN_weak (tval_wpE h)
theorem qt_notN {a : Expr} {fa : E} {j pos pos'} (ha : QE X W a fa) : QT X W (.Compare a [.IsNot] [.Constant .none j pos'] pos) (tVal (eNotN fa)) :=
  PT.weak (pt_cmp (pc_notN ha) (by first | exact nobehind _ (by decide) (by decide) | rfl)) fun σ H Q h => notN_weak (tval_wpE h)
def opIs : PyData → PyData → Option Rv
  | .bool a, .bool b => some (vB (decide (a = b)))
  | _, _ => none
def opIsNot : PyData → PyData → Option Rv
  | .bool a, .bool b => some (vB (!decide (a = b)))
  | _, _ => none
theorem ok_is : BinOk X (compareOp .Is) opIs := by
  refine OpR.weak op_isBl fun x y H Q h => ?_
  obtain ⟨w, p, q, z, s, rfl, st, hx, hy, e, g⟩ := h
  unfold opIs at e
  split at e
  · cases e; exact ⟨_, _, hx.bool, hy.bool, g.v (.bool _)⟩
  · cases e
theorem ok_isNot : BinOk X (compareOp .IsNot) opIsNot := by
  refine OpR.weak op_notBl fun x y H Q h => ?_
  obtain ⟨w, p, q, z, s, rfl, st, hx, hy, e, g⟩ := h
  unfold opIsNot at e
  split at e
  · cases e; exact ⟨_, _, hx.bool, hy.bool, g.v (.bool _)⟩
  · cases e
def opNeg : PyData → Option Rv
  | .int i => some (.v (.int (-i)))
  | _ => none
theorem qe_neg {a : Expr} {fa : E} {pos : Pos} (ha : QE X W a fa) : QE X W (.UnaryOp .USub a pos) (eUn opNeg fa) := by
  refine PE.weak (pe_un un_neg ha) fun σ H Q h => ?_
  obtain ⟨δ, s, w, O, rfl, r, h⟩ := h
  refine wpE.intro r ((Post.bind0 h).mono fun r1 s1 w1 n1 rel1 p1 x rr1 => ?_)
  obtain ⟨p, z, h1, h2, h3⟩ := giv1 p1 n1 rel1 rr1
  unfold opNeg at h2
  split at h2
  · cases h2; exact ⟨_, h1.int, h3.v (.int _)⟩
  · cases h2
def rM1 (K : PySem.W.Frag) (mg : Str → Option Value) (F : Str → PyData → Option Rv) : V → List V → Hp → VK → Prop := fun x xs H Q =>
  ∃ w a p y z s, w.H = H ∧ RelS K mg w s ∧ x = .str a ∧ a.length ≤ sizeLine ∧ PySem.PyData.strOk a = true ∧ xs = [y] ∧ RB K w p y ∧ F a p = some z ∧ Giv K mg w Q z
def M1Ok (X : Cx) (id : String) (F : Str → PyData → Option Rv) : Prop := MtR X id (rM1 X.K X.mg F)
theorem MtR.weak {id : String} {r r' : V → List V → Hp → VK → Prop} (h : MtR X id r) (k : ∀ x xs H Q, r' x xs H Q → r x xs H Q) : MtR X id r' := fun pins s σ H x xs v us Q I rx rv q => h pins s σ H x xs v us Q I rx rv (k x xs H Q q)
def eM1 (F : Str → PyData → Option Rv) (fo fe : E) : E := fun δ s => (fo δ s).bind fun r s1 => match r with
  | .v (.str a) => (fe δ s1).bind fun r' s2 => fin1 (F a) r' s2
  | _ => .bad
theorem qe_m1 {id : String} {name : Str} {F : Str → PyData → Option Rv} {o e : Expr} {fo fe : E} {apos pos : Pos} (slot : Slot "str" name id) (ty : typeOf (.builtin id) = pure (.type "method_descriptor")) (hm : M1Ok X id F) (ho : QE X W o fo) (he : QE X W e fe)
    (hs : starEach [e] X.env = [(false, eval e X.env)] := by rfl) (hbase : attributeBase o name X.env (eval o X.env) = eval o X.env := by rfl) (hline : (apos.endLine == pos.line) = true := by rfl) : QE X W (.Call (.Attribute o name apos) [e] [] pos) (eM1 F fo fe) := by
  refine PE.weak (pe_m1 slot ty hm ho he hs hbase hline) fun σ H Q h => ?_
  obtain ⟨δ, s, w, O, rfl, r, h⟩ := h
  refine wpE.intro r ((Post.bind0 h).mono fun r1 s1 w1 n1 rel1 p1 x rr1 => ?_)
  split at p1
  · rename_i a
    have rr1 : RD X.K w1 (.str a) x := rr1
    cases rr1 with
    | str _ g1 g2 =>
      refine ⟨⟨a, rfl⟩, wpE.intro rel1 ((Post.bind n1 p1).mono fun r2 s2 w2 n2 rel2 p2 y rr2 => ?_)⟩
      obtain ⟨p, z, h1, h2, h3⟩ := giv1 p2 (n1.trans n2) rel2 rr2
      exact ⟨w2, a, p, y, z, s2, rfl, rel2.st, rfl, g1, g2, rfl, h1, h2, h3⟩
  · exact p1.elim
def mStarts (a : Str) : PyData → Option Rv
  | .str b => some (vB (Txt.startswith a b))
  | _ => none
theorem ok_starts : M1Ok X "str.startswith" mStarts := by
  refine MtR.weak mt_startswith fun x xs H Q h => ?_
  obtain ⟨w, a, p, y, z, s, rfl, st, rfl, g1, g2, rfl, hy, e, g⟩ := h
  unfold mStarts at e
  split at e
  · cases e; exact ⟨_, _, rfl, by rw [hy.str.1], g.v (.bool _)⟩
  · cases e
def allS : List PyData → Option (List Str)
  | [] => some []
  | .str x :: ds => (allS ds).map (x :: ·)
  | _ => none
theorem allS_rd : ∀ {ds : List PyData} {vs : List V} {xs : List Str}, RDs K w ds vs → allS ds = some xs → vs = xs.map V.str ∧ ∀ x ∈ xs, PySem.PyData.strOk x = true
  | _, _, _, .nil, e => by cases e; exact ⟨rfl, fun x h => by simp at h⟩
  | _, _, _, .cons r t, e => by
    cases r with
    | str x h1 h2 =>
      simp only [allS, Option.map_eq_some_iff] at e
      obtain ⟨xs, h, rfl⟩ := e
      obtain ⟨e1, e2⟩ := allS_rd t h
      refine ⟨by rw [e1]; rfl, fun y hy => ?_⟩
      rcases List.mem_cons.mp hy with e | hy
      · rw [e]; exact h2
      · exact e2 y hy
    | _ => simp [allS] at e
def mJoin (a : Str) (p : PyData) : Option Rv := match p with
  | .list ds => (allS ds).bind fun xs => if (xs.map (·.length)).sum + xs.length * a.length ≤ lim ∧ strFit (Txt.join a xs) = true then some (.v (.str (Txt.join a xs))) else none
  | .tuple ds => (allS ds).bind fun xs => if (xs.map (·.length)).sum + xs.length * a.length ≤ lim ∧ strFit (Txt.join a xs) = true then some (.v (.str (Txt.join a xs))) else none
  | _ => none
theorem ok_join : M1Ok X "str.join" mJoin := by
  refine MtR.weak mt_join fun x xs H Q h => ?_
  obtain ⟨w, a, p, y, z, s, rfl, st, rfl, g1, g2, rfl, hy, e, g⟩ := h
  unfold mJoin at e
  split at e
  · obtain ⟨xs, h1, h2⟩ := Option.bind_eq_some_iff.mp e
    split at h2
    · rename_i hl
      cases h2
      obtain ⟨q, vs, rfl, h3, h4, h5⟩ := hy.lst
      have hf := hl.2
      simp only [strFit, Bool.and_eq_true, decide_eq_true_eq] at hf
      refine ⟨a, q, xs, rfl, rfl, .inl (.of (by rw [h3, (allS_rd h5 h1).1])), hl.1, g.v (.str _ (by rw [lim_eq]; exact hf.1) hf.2)⟩
    · cases h2
  · obtain ⟨xs, h1, h2⟩ := Option.bind_eq_some_iff.mp e
    split at h2
    · rename_i hl
      cases h2
      obtain ⟨q, vs, rfl, h3, h4, h5⟩ := hy.tup
      have hf := hl.2
      simp only [strFit, Bool.and_eq_true, decide_eq_true_eq] at hf
      refine ⟨a, q, xs, rfl, rfl, .inr (by rw [← (allS_rd h5 h1).1]; exact h3), hl.1, g.v (.str _ (by rw [lim_eq]; exact hf.1) hf.2)⟩
    · cases h2
  · cases e
def mIndex (ds : List PyData) (p : PyData) : Option Rv := if okDs 60 ds && okD 60 p then (ds.findIdx? fun z => PyData.eqv z p).map fun j => .v (.int (j : Nat)) else none
def eIndex (fo fe : E) : E := fun δ s => (fo δ s).bind fun r s1 => match r.pd s1 with
  | some (.list _) => (fe δ s1).bind fun r' s2 => match r.pd s2, r'.pd s2 with
    | some (.list ds), some p => oOf (mIndex ds p) s2
    | _, _ => .bad
  | _ => .bad
theorem qe_index {o e : Expr} {fo fe : E} {apos cpos : Pos} (hu : X.A.units + 65 < cLine) (ho : QE X W o fo) (he : QE X W e fe)
    (hbase : attributeBase o "index" X.env (eval o X.env) = eval o X.env := by rfl)
    (hfew : ((backTo cpos (starEach (e :: []) X.env)).all (fun x => !x.1) && (backToKw cpos (keywordEach [] X.env)).all (fun x => x.1.isSome)
      && decide ((e :: []).length + ([] : List Keyword).length + (if ([] : List Keyword).isEmpty then 0 else 1) < 30)) = true := by rfl)
    (hline : (apos.endLine == cpos.line) = true := by rfl) (hs : starEach (e :: []) X.env = (false, eval e X.env) :: starEach [] X.env := by rfl) (hplain : (backTo cpos (starEach [] X.env)).any (·.1) = false := by rfl) :
    QE X W (.Call (.Attribute o "index" apos) [e] [] cpos) (eIndex fo fe) := by
  refine PE.weak (pe_bm PySem.F.plainAttrs_list PySem.F.slot_list_index PySem.F.type_list_index (mt_indexD hu) ho (pa_cons he pa_nil hs) hbase hfew hline hs hplain) fun σ H Q h => ?_
  obtain ⟨δ, s, w, O, rfl, r, h⟩ := h
  refine wpE.intro r ((Post.bind0 h).mono fun r1 s1 w1 n1 rel1 p1 x rr1 => ?_)
  split at p1
  · rename_i ds0 e1
    obtain ⟨a, vs, rfl, h1, h2, h3⟩ := (rr1.rb rel1.st e1).lst
    refine ⟨.inl ⟨rfl, vs, .of h1⟩, ?_⟩
    show wpE X.K X.mg W fe σ w1.H _
    refine wpE.intro rel1 ((Post.bind n1 p1).mono fun r2 s2 w2 n2 rel2 p2 y rr2 => ?_)
    split at p2
    · rename_i ds p q1 q2
      unfold oOf at p2
      split at p2
      · rename_i z hz
        unfold mIndex at hz
        split at hz
        · rename_i hc
          rw [Bool.and_eq_true] at hc
          obtain ⟨j, hj, rfl⟩ := Option.map_eq_some_iff.mp hz
          have b1 : RB X.K w2 (.list ds) (.ref a) := (rr1.on n2 rel1.st.mN).rb rel2.st q1
          have b2 : RB X.K w2 p y := rr2.rb rel2.st q2
          have d1 := b1.toDp (n := 61) (by simpa [okD] using hc.1) (by decide)
          have d2 := b2.toDp hc.2 (by decide)
          obtain ⟨hj1, hj2, hj3⟩ := List.findIdx?_eq_some_iff_getElem.mp hj
          refine ⟨a, y, p, ds, j, ds[j], rfl, rfl, d1.1, d2.1, d1.2, d2.2, List.getElem?_eq_getElem hj1, hj2, fun m z' hm hz' => ?_, Post.at p2 (n1.trans n2) rel2 _ (.int _)⟩
          obtain ⟨hm1, hm2⟩ := List.getElem?_eq_some_iff.mp hz'
          rw [← hm2]
          simpa using hj3 m hm
        · cases hz
      · exact p2.elim
    · exact p2.elim
  · exact p1.elim
end
end Lay
namespace Lay
open PySem PySem.Spec PyProof.Rows L2
section
variable {X : Cx} {W : WX} {K : PySem.W.Frag} {mg : Str → Option Value} {B w w' w'' w0 wd : Wd} {s s' : Sto} {O : Nat → Addr} {σ σ' : L2.St} {δ δ' : List Sl} {A : Addr} {D : Ends}
def sNewC (i : Nat) (f : E) : S := fun δ s => (f δ s).bind fun z s1 => match z with
  | .fr (.list ds) => .ok (.nx (δ.set i (.ref s1.length))) (s1 ++ [.lst ds])
  | _ => .bad
theorem RelB.newC {a : Addr} {ds : List PyData} (r0 : RelB K mg B w O σ δ s') (n : Nx w w') (r : RelB K mg B w' O σ δ s) (h : OwnOk K w' a (.list ds)) (hN : w'.N a) (hm : a ∉ w'.μ) (h0 : w.H a = none) :
    RelB K mg B ⟨w'.N, w'.μ ++ [a], w'.H⟩ O σ δ (s ++ [.lst ds]) ∧ Stay w' ⟨w'.N, w'.μ ++ [a], w'.H⟩ ∧ (w'.μ ++ [a])[s.length]? = some a := by
  have stay : Stay w' ⟨w'.N, w'.μ ++ [a], w'.H⟩ := fun b o e hn => ⟨e, hn⟩
  have pre : ∀ (l : Nat) b, w'.μ[l]? = some b → (w'.μ ++ [a])[l]? = some b := fun l b e => by
    rw [List.getElem?_append_left (List.getElem?_eq_some_iff.mp e).1]; exact e
  have hl := r.rel.st.len
  have last : (w'.μ ++ [a])[s.length]? = some a := by rw [← hl]; simp
  have cellK : ∀ {b : Addr} {c : Cell}, CellOk K mg w' b c → CellOk K mg ⟨w'.N, w'.μ ++ [a], w'.H⟩ b c := fun {b c} q => by
    cases c with
    | lst ds => exact OwnOk.stay (show OwnOk K w' b (.list ds) from q) stay rfl
    | ins cc fs =>
      obtain ⟨C, dx, gs, e1, e2, e3⟩ := q
      exact ⟨C, dx, gs, e1, e2, Paired.mapP e3 fun x y h => ⟨h.1, SlV.stay h.2 stay pre⟩⟩
  have sep : ∀ (j : Nat) p, δ[j]? = some (.own p) → O j ≠ a := fun j p e ej => by
    obtain ⟨o, e6⟩ := r0.rel.st.tr _ (r0.rel.sl j _ e).2.1
    rw [ej, h0] at e6; cases e6
  refine ⟨⟨⟨⟨fun b hb => ?_, r.rel.st.tr, by simp [hl], ?_, fun l c b e1 e2 => ?_⟩, r.rel.len, fun i q e => ?_, r.rel.inj⟩, ⟨fun b o e hb => ?_, r.nx.sub, r.nx.new, r.nx.there, fun l b e => pre l b (r.nx.pre l b e), fun b hb => ?_⟩, r.own⟩, stay, last⟩
  · rcases List.mem_append.mp hb with q | q
    · exact r.rel.st.mN b q
    · rw [List.mem_singleton.mp q]; exact hN
  · exact List.nodup_append.mpr ⟨r.rel.st.nd, by simp, fun x hx y hy e => hm (by rw [← List.mem_singleton.mp hy, ← e]; exact hx)⟩
  · have e2 : (w'.μ ++ [a])[l]? = some b := e2
    by_cases hlt : l < s.length
    · rw [List.getElem?_append_left hlt] at e1
      rw [List.getElem?_append_left (by rw [hl]; exact hlt)] at e2
      exact cellK (r.rel.st.cell l c b e1 e2)
    · by_cases he : l = s.length
      · subst he
        rw [last] at e2
        cases e2
        rw [List.getElem?_append_right (Nat.le_refl _)] at e1
        simp at e1
        subst e1
        exact OwnOk.stay h stay rfl
      · rw [List.getElem?_eq_none (by simp; omega)] at e1
        cases e1
  · have h := r.rel.sl i q e
    cases q with
    | un => trivial
    | own p =>
      obtain ⟨g1, g2, g3, g4⟩ := h
      exact ⟨g1, g2, fun q => (List.mem_append.mp q).elim g3 fun q => sep i p e (List.mem_singleton.mp q), g4.stay stay rfl⟩
    | v p => obtain ⟨v, h1, h2⟩ := h; exact ⟨v, h1, SlV.stay h2 stay pre⟩
    | ref l => obtain ⟨v, h1, h2⟩ := h; exact ⟨v, h1, SlV.stay h2 stay pre⟩
    | fn x => obtain ⟨v, h1, h2⟩ := h; exact ⟨v, h1, SlV.stay h2 stay pre⟩
    | scr ns => obtain ⟨v, h1, h2⟩ := h; exact ⟨v, h1, SlV.stay h2 stay pre⟩
  · exact r.nx.ext b o e hb
  · rcases List.mem_append.mp hb with q | q
    · exact r.nx.mu b q
    · rw [List.mem_singleton.mp q]; exact .inr (r0.nx.none h0)
theorem qs_newC {i : Nat} {x : Str} {e : Expr} {f : E} {pos pos' : Pos} (he : QE X W e f) (hN : X.N.Nodup := by assumption) (hi : X.N[i]? = some x := by rfl) (hx : Loc X.env.scope x := by first | exact Or.inl rfl | exact Or.inr rfl)
    (hs : swapsWith e (some (.Name x pos')) pos.line X.env = pure false := by rfl) (hf : X.fn x = true ∨ X.env.scope.names.lookup x = some .local := by first | exact .inl rfl | exact .inr rfl | assumption) : QS X W B (.Assign [.Name x pos'] e pos) (sNewC i f) := by
  refine PS.weak (ps_set hN hi hx he hs hf) fun D σ H h => ?_
  obtain ⟨δ, s, w, O, rfl, r, h⟩ := h
  refine exprS (D := D) r h fun z s1 w1 v n k r1 rr p1 => ?_
  split at p1
  · rename_i ds
    obtain ⟨a, rfl, h1, h2, h3, h4⟩ := rr
    obtain ⟨r2, k2, e2⟩ := r.newC n r1 h1 h2 h3 h4
    exact p1 ⟨w1.N, w1.μ ++ [a], w1.H⟩ _ O (k.trans k2) (r2.setQ (q := .ref s1.length) (i := i) rfl (.inr ⟨a, e2, rfl⟩))
  · exact p1.elim
end
theorem u64 {k : Nat} {A : Around} (r : Room k A) : A.units + 64 < cLine := r.units
theorem u65 {k : Nat} {A : Around} (r : Room k A) : A.units + 65 < cLine := by have := r.un; omega
abbrev WWE (E : XK) : WX := fun cls d _ H => E cls d H
abbrev XX (P : Program) (w : World) (K : PySem.W.Frag) (mg : Str → Option Value) (base : Heap) (N : List Str) (qual : Str) (st : Stmt) (f : Addr) (cdv : Value) (A : Around) (outer : List Env) (s : Shared) (H : Hp) (E : XK) : Cx :=
  cxOf (L2.CX P w) P w K mg base N qual (defScope st) f cdv A outer s H E
end Lay
namespace Lay
open PySem PySem.Spec PyProof.Rows L2
section
variable {P : Program} {w : World} {A : Around} {E : Value → Shared → Prop} {s : Shared}
abbrev TxK (P : Program) (w : World) (h : Heap) (k : List Str) (c : Addr) : Prop := IsTupleKey (PySem.strKind P w) h k c
abbrev txH (P : Program) (w : World) (k : List Str) : Int := tupleKeyHash (PySem.strKind P w) k
theorem tx_items {k : List Str} {us : List Value} (h : ItemsAre (PySem.strKind P w) k us) : ∀ u ∈ us, ∃ x t, u = Value.str x t := by
  induction h with
  | nil => exact fun u hu => absurd hu (by simp)
  | cons h1 _ ih =>
    intro u hu
    rcases List.mem_cons.mp hu with e | hu
    · obtain ⟨t, e2⟩ := Value.isStrOf_shape h1
      exact ⟨_, t, e.trans e2⟩
    · exact ih u hu
theorem tx_class {k : List Str} {c : Addr} {Q : Bool → Shared → Prop} (hk : TxK P w s.heap k c) (q : Q false s) : wpAny (model P w) A (ofAClassStatement 8 (.ref c)) Q E s := by
  have ty := hk.typeIs
  obtain ⟨o, us, n, e1, _, e2, e3⟩ := hk
  unfold ofAClassStatement
  refine wpAny_bind (wpAny_typeOf ty ?_)
  dsimp only
  have e : (("tuple" : String) == "tuple") = true := by decide
  simp only [e, if_true, Bool.not_true, Bool.false_eq_true, if_false]
  try refine wpAny_bind (wpAny_pure ?_)
  try simp only [Bool.not_true, Bool.false_eq_true, if_false]
  show wpAny _ _ (seqItems? (.ref c) >>= _) _ _ s
  refine wpAny_bind (wpAny_seqItems e1 e2 ?_)
  dsimp only
  refine wpAny_bind ?_
  show wpAny _ _ (forIn us _ _) _ _ s
  rw [← Array.forIn_toList]
  refine wpAny_forIn_list _ (fun l r z => r.1 = none ∧ z = s ∧ ∀ u ∈ l, ∃ x t, u = Value.str x t) _ ?_ ?_ _ _ ⟨rfl, rfl, tx_items e3⟩
  · intro u l r z hz
    obtain ⟨f1, rfl, f2⟩ := hz
    obtain ⟨x, t, rfl⟩ := f2 u List.mem_cons_self
    have : ofAClassStatement 7 (.str x t) = pure false := rfl
    rw [this]
    refine wpAny_bind (wpAny_pure ?_)
    simp only [Bool.false_eq_true, if_false]
    exact wpAny_pure ⟨rfl, rfl, fun y hy => f2 y (List.mem_cons_of_mem _ hy)⟩
  · intro r z hz
    obtain ⟨r1, r2⟩ := r
    obtain ⟨f1, rfl, _⟩ := hz
    simp only at f1
    subst f1
    exact wpAny_pure q
theorem tx_byval {k : List Str} {c : Addr} {Q : Bool → Shared → Prop} (hk : TxK P w s.heap k c) (q : ∀ b, Q b s) : wpAny (model P w) A (hashByValue 8 (.ref c)) Q E s := by
  have ty := hk.typeIs
  obtain ⟨o, us, n, e1, _, e2, e3⟩ := hk
  unfold hashByValue
  refine wpAny_bind (wpAny_specialOf ty F.slot_tuple_hash.lookup ?_)
  show wpAny _ _ (seqItems? (.ref c) >>= _) _ _ s
  refine wpAny_bind (wpAny_seqItems e1 e2 (wpAny_bind ?_))
  show wpAny _ _ (forIn us _ _) _ _ s
  rw [← Array.forIn_toList]
  refine wpAny_forIn_list _ (fun l r z => r.1 = none ∧ z = s ∧ ∀ u ∈ l, ∃ x t, u = Value.str x t) _ ?_ ?_ _ _ ⟨rfl, rfl, tx_items e3⟩
  · intro u l r z hz
    obtain ⟨f1, rfl, f2⟩ := hz
    obtain ⟨x, t, rfl⟩ := f2 u List.mem_cons_self
    have : hashByValue 7 (.str x t) = pure false := by unfold hashByValue; rfl
    rw [this]
    refine wpAny_bind (wpAny_pure ?_)
    simp only [Bool.not_false, if_true]
    exact wpAny_pure (wpAny_pure (q false))
  · intro r z hz
    obtain ⟨r1, r2⟩ := r
    obtain ⟨f1, rfl, _⟩ := hz
    simp only at f1
    subst f1
    exact wpAny_pure (q true)
theorem tx_seen {k : List Str} {c : Addr} {Q : Bool → Shared → Prop} (hk : TxK P w s.heap k c) {ys : List Value} (hy : ∀ y ∈ ys, ∃ k' d, y = Value.ref d ∧ TxK P w s.heap k' d) (q : Q false s) : wpAny (model P w) A (searchCouldBeSeen (.ref c) ys) Q E s := by
  unfold searchCouldBeSeen
  refine wpAny_bind (wpAny_forIn_list _ (fun l r z => r.1 = none ∧ z = s ∧ ∀ y ∈ l, ∃ k' d, y = Value.ref d ∧ TxK P w s.heap k' d) _ ?_ ?_ _ _ ⟨rfl, rfl, hy⟩)
  · intro u l r z hz
    obtain ⟨f1, rfl, f2⟩ := hz
    obtain ⟨k', d, rfl, hd⟩ := f2 u List.mem_cons_self
    have more : ∀ y ∈ l, ∃ k' d, y = Value.ref d ∧ TxK P w z.heap k' d := fun y hy => f2 y (List.mem_cons_of_mem _ hy)
    dsimp only
    by_cases hv : (c == d || (carriedByValue (.ref c) && carriedByValue (.ref d))) = true
    · exact wp_if_pos hv (wpAny_pure ⟨rfl, rfl, more⟩)
    · refine wp_if_neg hv (wpAny_bind (wpAny_eqIsQuiet_tuple hk ?_))
      simp only [Bool.not_true, Bool.false_eq_true, if_false]
      refine wpAny_bind (wpAny_eqIsQuiet_tuple hd ?_)
      simp only [Bool.not_true, Bool.false_eq_true, if_false]
      refine wpAny_bind (tx_class hk ?_)
      simp only [Bool.false_eq_true, if_false]
      refine wpAny_bind (tx_class hd ?_)
      simp only [Bool.false_eq_true, if_false]
      exact wpAny_pure ⟨rfl, rfl, more⟩
  · intro r z hz
    obtain ⟨r1, r2⟩ := r
    obtain ⟨f1, rfl, _⟩ := hz
    simp only at f1
    subst f1
    exact wpAny_pure q
/-- the rows of a table: the hash, the tuple -/
def txRows (P : Program) (w : World) (L : List (Addr × List Str)) : List (Int × Value) := L.map fun p => (txH P w p.2, Value.ref p.1)
structure TxSet (P : Program) (w : World) (h : Heap) (a : Addr) (L : List (Addr × List Str)) (es : Array (Int × Value)) (ep : Nat) (t : SetTable) : Prop where
  ob : ∃ o, h.get? a = some o ∧ o.ExactSet ∧ o.data = .set es ep t
  rows : es.toList = txRows P w L
  tab : TabOk t (L.map fun p => txH P w p.2)
  keys : ∀ p ∈ L, TxK P w h p.2 p.1
  led : w.params.followText "set-order" = true ∨ t.led = true
  room : L.length * 5 < t.mask * 3
  few : L.length < 64
variable {a : Addr} {L : List (Addr × List Str)} {es : Array (Int × Value)} {ep : Nat} {t : SetTable}
theorem tx_size {L : List (Addr × List Str)} {es : Array (Int × Value)} (h : es.toList = txRows P w L) : es.size = L.length := by
  have := congrArg List.length h
  simpa [txRows] using this
theorem TxSet.fits (R : TxSet P w s.heap a L es ep t) : t.fits es.size = true := by
  have h1 := R.tab.sz
  have h2 := tx_size R.rows
  have h3 := R.room
  rw [List.length_map] at h1
  simp only [SetTable.fits, SetTable.fill, R.tab.dm, Bool.and_eq_true, beq_iff_eq, decide_eq_true_eq]
  have e : (#[] : Array Nat).size = 0 := rfl
  omega
theorem TxSet.entry (R : TxSet P w s.heap a L es ep t) {i : Nat} {p : Addr × List Str} (h : L[i]? = some p) : es[i]? = some (txH P w p.2, Value.ref p.1) := by
  rw [← Array.getElem?_toList, R.rows, txRows, List.getElem?_map, h]; rfl
theorem TxSet.gave (R : TxSet P w s.heap a L es ep t) : ¬ t.gaveWay = true := by
  have m := mask_odd R.tab.mok
  unfold SetTable.gaveWay
  rw [m]; decide
abbrev stepOf (t : SetTable) (h : Int) (c : Nat) : SetTable.Probe := nth t.mask (runAt t.mask (SetTable.bits h % (t.mask + 1)) (SetTable.bits h)) c
theorem step_dummy (m : Nat) : ∀ (n : Nat) (p : SetTable.Probe), p.dummy = none → (nth m p n).dummy = none
  | 0, _, h => h
  | n + 1, p, h => step_dummy m n (adv m p) (by unfold adv; split <;> exact h)
theorem step_add (t : SetTable) (h : Int) (c q : Nat) : nth t.mask (stepOf t h c) q = stepOf t h (c + q) := (nth_add t.mask c _ q).symm
/-- the way of a tuple that is not there, to the first empty slot -/
theorem tx_seek (R : TxSet P w s.heap a L es ep t) {x : Addr} {k : List Str} (hx : TxK P w s.heap k x) (hu : A.units < cLine) (other : ∀ p ∈ L, p.2 ≠ k) {N : Nat} (hN : N < 10 * SetTable.turns t.mask)
    (hend : way t.mask (txH P w k) N ∉ t.place.toList) (hfull : ∀ c, c < N → way t.mask (txH P w k) c ∈ t.place.toList) {Q : SetFound → Shared → Prop} (q : Q (.free (way t.mask (txH P w k) N) false) s) :
    ∀ (f c : Nat) (stand : Option SetTable.Probe), stand.getD (t.probeStart (txH P w k)) = stepOf t (txH P w k) c → c ≤ N → N - c < f → wpAny (model P w) A (setSearchFrom a (.ref x) (txH P w k) true f stand) Q E s
  | 0, c, stand, _, _, hf => absurd hf (Nat.not_lt_zero _)
  | f + 1, c, stand, hst, hc, hf => by
    obtain ⟨o, e1, e2, e3⟩ := R.ob
    rw [setSearchFrom_succ]
    refine wpAny_bind (wpAny_setState_of e1 e3 R.fits ?_)
    dsimp only
    refine wp_if_neg R.gave ?_
    try refine wpAny_bind (wpAny_pure ?_)
    have at_ : ∀ n, (nth t.mask (stepOf t (txH P w k) c) n).j = way t.mask (txH P w k) (c + n) := fun n => congrArg SetTable.Probe.j (step_add t _ c n)
    have spec := go_spec t R.tab.ris R.tab.dm (fun i => (es[i]?.map (·.1)).getD 0) (txH P w k) (10 * SetTable.turns t.mask) (N - c) (stepOf t (txH P w k) c) (step_dummy _ _ _ rfl) (by omega)
      (fun n hn => by rw [at_]; exact hfull (c + n) (by omega)) (by rw [at_, show c + (N - c) = N by omega]; exact hend)
    rcases spec with ⟨n, i, hn, hi, hh, _, go⟩ | ⟨_, go⟩
    · have go' : t.probe (fun i => (es[i]?.map (·.1)).getD 0) (txH P w k) (stand.getD (t.probeStart (txH P w k))) = some (.candidate (way t.mask (txH P w k) (c + n)) i (stepOf t (txH P w k) (c + (n + 1)))) := by
        rw [hst, ← at_, ← step_add]; exact go
      rw [go']
      dsimp only
      rw [at_] at hi
      have hil : i < L.length := by
        have h1 : i < t.place.toList.length := (List.getElem?_eq_some_iff.mp hi).1
        have h2 := R.tab.sz
        rw [List.length_map] at h2
        rw [Array.length_toList] at h1
        omega
      obtain ⟨p, hp⟩ : ∃ p, L[i]? = some p := ⟨_, List.getElem?_eq_getElem hil⟩
      have hm : p ∈ L := List.mem_of_getElem? hp
      have ne := other p hm
      have on : wpAny (model P w) A (searchRest a (.ref x) (txH P w k) true f es t (way t.mask (txH P w k) (c + n)) i (stepOf t (txH P w k) (c + (n + 1)))) Q E s := by
        unfold searchRest
        rw [R.entry hp]
        dsimp only
        refine wpAny_bind (wpAny_holding (wpAny_eqBool_tuple hu (R.keys p hm) hx ?_))
        refine wpAny_bind (wpAny_setState_of e1 e3 R.fits ?_)
        dsimp only
        refine wp_if_neg (by simp [ne]) ?_
        try refine wpAny_bind (wpAny_pure ?_)
        rw [sameMem]
        dsimp only
        have live : t.slot (way t.mask (txH P w k) (c + n)) = .live i := slot_live R.tab.ris hi
        simp only [if_true, live, R.entry hp]
        refine wpAny_bind (wpAny_isSame_ref_self (wpAny_bind (wpAny_pure ?_)))
        simp only [if_true]
        refine wp_if_neg (by simp [ne]) ?_
        exact tx_seek R hx hu other hN hend hfull q f (c + (n + 1)) _ rfl (by omega) (by omega)
      by_cases hl : t.led = true
      · refine wp_if_neg (by simp [hl]) ?_
        try refine wpAny_bind (wpAny_pure ?_)
        exact on
      · refine wp_if_pos (by simp [hl]) (wpAny_bind (tx_seen hx (fun y hy => ?_) ?_))
        · obtain ⟨e, he, ee⟩ := List.mem_map.mp hy
          have q1 : e ∈ es ∧ e.1 = txH P w k := by simpa using he
          have q2 : e ∈ es.toList := by simpa using q1.1
          rw [R.rows] at q2
          obtain ⟨p2, q3, q4⟩ := List.mem_map.mp q2
          exact ⟨p2.2, p2.1, by rw [← ee, ← q4], R.keys p2 q3⟩
        · refine wp_if_neg (by decide) ?_
          try refine wpAny_bind (wpAny_pure ?_)
          exact on
    · have go' : t.probe (fun i => (es[i]?.map (·.1)).getD 0) (txH P w k) (stand.getD (t.probeStart (txH P w k))) = some (.empty (way t.mask (txH P w k) N) none) := by
        have e : way t.mask (txH P w k) N = (nth t.mask (stepOf t (txH P w k) c) (N - c)).j := by rw [at_, show c + (N - c) = N by omega]
        rw [hst, e]; exact go
      rw [go']
      exact wpAny_pure q
theorem tx_order {L : List (Addr × List Str)} {es : Array (Int × Value)} {order : Array Nat} (hr : es.toList = txRows P w L) (hp : order.toList.Perm (List.range L.length)) :
    ∃ M : List (Addr × List Str), M.Perm L ∧ (order.filterMap (es[·]?)).toList = txRows P w M ∧ (M.map fun p => txH P w p.2) = order.toList.map fun i => (es.map (·.1)).getD i 0 := by
  have ent : ∀ (i : Nat) p, L[i]? = some p → es[i]? = some (txH P w p.2, Value.ref p.1) := fun i p h => by
    rw [← Array.getElem?_toList, hr, txRows, List.getElem?_map, h]; rfl
  have main : ∀ l : List Nat, (∀ i ∈ l, i < L.length) → l.filterMap (fun i => es[i]?) = txRows P w (l.filterMap fun i => L[i]?) ∧ ((l.filterMap fun i => L[i]?).map fun p => txH P w p.2) = l.map fun i => (es.map (·.1)).getD i 0 := by
    intro l
    induction l with
    | nil => exact fun _ => ⟨rfl, rfl⟩
    | cons i l ih =>
      intro hl
      have hi := hl i List.mem_cons_self
      obtain ⟨f1, f2⟩ := ih fun j hj => hl j (List.mem_cons_of_mem _ hj)
      obtain ⟨p, hp⟩ : ∃ p, L[i]? = some p := ⟨_, List.getElem?_eq_getElem hi⟩
      have hg := ent i p hp
      have hm : (es.map (·.1))[i]? = some (txH P w p.2) := by rw [Array.getElem?_map, hg]; rfl
      constructor
      · rw [List.filterMap_cons_some hg, List.filterMap_cons_some hp, f1]; rfl
      · rw [List.filterMap_cons_some hp, List.map_cons, List.map_cons, f2]
        simp [Array.getD_eq_getD_getElem?, hm]
  obtain ⟨f1, f2⟩ := main order.toList fun i hi => List.mem_range.mp (hp.mem_iff.mp hi)
  refine ⟨order.toList.filterMap fun i => L[i]?, ?_, by simpa using f1, f2⟩
  have h1 := hp.filterMap fun i => L[i]?
  have all : ∀ K : List (Addr × List Str), (List.range K.length).filterMap (fun i => K[i]?) = K := by
    intro K
    induction K with
    | nil => rfl
    | cons y K ih =>
      rw [List.length_cons, List.range_succ_eq_map, List.filterMap_cons_some (f := fun i => (y :: K)[i]?) (a := 0) (b := y) rfl, List.filterMap_map]
      exact congrArg (y :: ·) ih
  rw [all L] at h1
  exact h1
theorem tx_same {h h' : Heap} {k : List Str} {c d : Addr} {o : Obj} {es : Array (Int × Value)} {ep : Nat} {t : SetTable} (hc : TxK P w h k c) (ho : h.get? d = some o) (hd : o.data = .set es ep t) (sb : Heap.SameBut d h h') : TxK P w h' k c := by
  obtain ⟨o1, us, n, f1, f2, f3, f4⟩ := hc
  have ne : c ≠ d := fun e => by
    rw [e, ho] at f1
    cases f1
    rw [hd] at f3; cases f3
  exact ⟨o1, us, n, (sb.2 c ne).trans f1, f2, f3, f4⟩
theorem tx_relay {o : Obj} (ho : s.heap.get? a = some o) (hex : o.ExactSet) (hd : o.data = .set es ep t) (hr : es.toList = txRows P w L) (hsz : t.place.size = es.size) (hdm : t.dummies = #[]) (hfl : es.size ≤ t.mask)
    (keys : ∀ p ∈ L, TxK P w s.heap p.2 p.1) (ld : w.params.followText "set-order" = true ∨ t.led = true) (few : L.length < 64) {wish M : Nat}
    (h1 : SetTable.sizeAbove wish - 1 = M) (h2 : MaskOk M) (h3 : SetTable.sizeAbove wish ≤ 128) (h4 : L.length * 5 < M * 3) {Q : Unit → Shared → Prop}
    (q : ∀ h' L' es' ep' t', Heap.SameBut a s.heap h' → TxSet P w h' a L' es' ep' t' → L'.Perm L → Q () { s with heap := h' }) : wpAny (model P w) A (setRelay a wish) Q E s := by
  have hl := tx_size hr
  have fit : t.fits es.size = true := by
    simp only [SetTable.fits, SetTable.fill, hdm, Bool.and_eq_true, beq_iff_eq, decide_eq_true_eq]
    have e : (#[] : Array Nat).size = 0 := rfl
    omega
  obtain ⟨t', order, e, perm, T, em, el, epl, edm⟩ := relaid_ok t (hs := es.map (·.1)) (wanted := wish) h1 h2 (by rw [Array.size_map]; omega)
  rw [Array.size_map, hl] at perm
  obtain ⟨M', g1, g2, g3⟩ := tx_order hr perm
  rw [← g3] at T
  have hs2 : (order.filterMap (es[·]?)).size = es.size := by rw [tx_size g2, g1.length_eq, hl]
  rw [setRelay_eq]
  refine wpAny_bind (wpAny_setState_of ho hd fit ?_)
  dsimp only
  refine wp_if_neg (by rw [sizeLine_eq]; omega) ?_
  try refine wpAny_bind (wpAny_pure ?_)
  rw [e]
  dsimp only
  refine wpAny_bind (wp_if_neg (by rw [hs2]; simp) ?_)
  try refine wpAny_bind (wpAny_pure ?_)
  refine wpAny_pure ?_
  dsimp only
  refine wpAny_storeSet_of ho hd ?_ (by rw [hs2, hl, sizeLine_eq]; omega)
  have sb : Heap.SameBut a s.heap (s.heap.update a (Obj.putSet (order.filterMap (es[·]?)) t')) := Heap.SameBut.update ..
  refine q _ M' (order.filterMap (es[·]?)) (ep + 1) t' sb ⟨⟨_, store_at ho hd, ⟨hex.1, hex.2.1, hex.2.2⟩, rfl⟩, g2, T, fun p hp => tx_same (keys p (g1.mem_iff.mp hp)) ho hd sb, by rw [el]; exact ld, ?_, by rw [g1.length_eq]; exact few⟩ g1
  rw [g1.length_eq, em]; exact h4
theorem tx_add (R : TxSet P w s.heap a L es ep t) {x : Addr} {k : List Str} (hx : TxK P w s.heap k x) (hu : A.units < cLine) (few : L.length + 1 < 64) (other : ∀ p ∈ L, p.2 ≠ k) {Q : Bool → Shared → Prop}
    (q : ∀ h' L' es' ep' t', Heap.SameBut a s.heap h' → TxSet P w h' a L' es' ep' t' → L'.Perm ((x, k) :: L) → Q true { s with heap := h' }) : wpAny (model P w) A (setAddHashed a (.ref x) (txH P w k)) Q E s := by
  obtain ⟨o, e1, e2, e3⟩ := R.ob
  have hl := tx_size R.rows
  have hroom := R.room
  obtain ⟨N, n1, n2, n3⟩ := R.tab.first (by rw [List.length_map]; omega) (txH P w k)
  have big : N < 100000 := by
    have : 10 * SetTable.turns t.mask ≤ 1420 := by
      unfold SetTable.turns
      rcases R.tab.mok with z | z | z <;> omega
    omega
  unfold setAddHashed
  refine wpAny_holding ?_
  rw [show (100000 : Nat) = 99999 + 1 from rfl, setAddHashedIn_succ]
  refine wpAny_bind (wpAny_setState_of e1 e3 R.fits ?_)
  dsimp only
  refine wp_if_neg (by simp [byScan, Value.scannable]) ?_
  try refine wpAny_bind (wpAny_pure ?_)
  refine wpAny_bind ?_
  unfold setSearch
  refine tx_seek R hx hu other n1 n2 n3 ?_ 100000 0 none rfl (Nat.zero_le _) (by omega)
  dsimp only
  refine wpAny_bind (wpAny_setState_of e1 e3 R.fits ?_)
  dsimp only
  obtain ⟨q1, q2, q3, q4, q5, q6, q7, q8, q9⟩ := R.tab.put n2 n3
  generalize hput : t.put (way t.mask (txH P w k) N) = pt at q1 q3 q4 q5 q6 q7 q8 q9 ⊢
  obtain ⟨t1, i⟩ := pt
  dsimp only at q1 q3 q4 q5 q6 q7 q8 q9 ⊢
  subst q1
  -- whatever the tuple's hash leans on
  have on : ∀ t2 : SetTable, t2.place = t1.place → t2.dummies = t1.dummies → t2.mask = t1.mask → t2.led = t1.led → t2.fill = t1.fill → t2.tooFull = t1.tooFull → TabOk t2 ((L.map fun p => txH P w p.2).take (SetTable.below t.place (way t.mask (txH P w k) N)) ++ txH P w k :: (L.map fun p => txH P w p.2).drop (SetTable.below t.place (way t.mask (txH P w k) N))) →
      wpAny (model P w) A (do
        storeSet a (SetTable.insertAt es (SetTable.below t.place (way t.mask (txH P w k) N)) (txH P w k, Value.ref x)) t2
        if (!false && t2.tooFull) = true then setRelay a (SetTable.grown (es.size + 1))
        return true) Q E s := fun t2 z1 z2 z3 z4 z5 z6 q3 => by
    generalize hi : SetTable.below t.place (way t.mask (txH P w k) N) = i at q2 q3 ⊢
    have pm : (L.take i ++ (x, k) :: L.drop i).Perm ((x, k) :: L) := by
      have z : (L.take i ++ (x, k) :: L.drop i).Perm ((x, k) :: (L.take i ++ L.drop i)) := List.perm_middle
      rw [List.take_append_drop] at z; exact z
    have hin : (SetTable.insertAt es i (txH P w k, Value.ref x)).toList = txRows P w (L.take i ++ (x, k) :: L.drop i) := by
      rw [SetTable.toList_insertAt, R.rows]
      simp only [txRows, List.map_append, List.map_cons, List.map_take, List.map_drop]
    have hhs : (L.map fun p => txH P w p.2).take i ++ txH P w k :: (L.map fun p => txH P w p.2).drop i = (L.take i ++ (x, k) :: L.drop i).map fun p => txH P w p.2 := by
      simp only [List.map_append, List.map_cons, List.map_take, List.map_drop]
    rw [hhs] at q3
    have hsize := tx_size hin
    have hlen := pm.length_eq
    rw [List.length_cons] at hlen
    generalize SetTable.insertAt es i (txH P w k, Value.ref x) = es1 at hin hsize ⊢
    generalize L.take i ++ (x, k) :: L.drop i = L1 at pm hlen q3 hin hsize
    refine wpAny_bind (wpAny_storeSet_of e1 e3 ?_ (by rw [hsize, hlen, sizeLine_eq]; omega))
    have sb : Heap.SameBut a s.heap (s.heap.update a (Obj.putSet es1 t2)) := Heap.SameBut.update ..
    have ho1 := store_at (es' := es1) (t' := t2) e1 e3
    generalize s.heap.update a (Obj.putSet es1 t2) = h1 at sb ho1 ⊢
    have keys1 : ∀ p ∈ L1, TxK P w h1 p.2 p.1 := fun p hp => by
      rcases List.mem_cons.mp (pm.mem_iff.mp hp) with e | hp
      · rw [e]; exact tx_same hx e1 e3 sb
      · exact tx_same (R.keys p hp) e1 e3 sb
    have ld1 : w.params.followText "set-order" = true ∨ t2.led = true := by rw [z4, q5]; exact R.led
    by_cases hf : t2.tooFull = true
    · have full : (L.length + 1) * 5 ≥ t2.mask * 3 := by
        have z := hf
        unfold SetTable.tooFull at z
        rw [decide_eq_true_eq, z5, q9, List.length_map] at z
        exact z
      have psz : t2.place.size = es1.size := by
        have z := q3.sz
        rw [List.length_map] at z
        rw [z, hsize]
      have two : (t.mask = 7 ∧ L.length = 4) ∨ (t.mask = 31 ∧ L.length = 18) := by
        rw [z3, q4] at full
        rcases R.tab.mok with e | e | e
        · rw [e] at full hroom; exact .inl ⟨e, by omega⟩
        · rw [e] at full hroom; exact .inr ⟨e, by omega⟩
        · rw [e] at full; omega
      have again : ∀ M, SetTable.sizeAbove (SetTable.grown (L.length + 1)) - 1 = M → MaskOk M → SetTable.sizeAbove (SetTable.grown (L.length + 1)) ≤ 128 → (L.length + 1) * 5 < M * 3 →
          wpAny (model P w) A (setRelay a (SetTable.grown (L.length + 1))) (fun _ z => wpAny (model P w) A (pure true) Q E z) E { s with heap := h1 } := fun M m1 m2 m3 m4 =>
        tx_relay (s := { s with heap := h1 }) ho1 ⟨e2.1, e2.2.1, e2.2.2⟩ rfl hin psz q3.dm (by rw [hsize, hlen, z3, q4]; rcases two with ⟨z, z2⟩ | ⟨z, z2⟩ <;> omega) keys1 ld1 (by rw [hlen]; exact few) m1 m2 m3 (by rw [hlen]; exact m4)
          fun h2 L2 es2 ep2 t2 sb2 R2 pm2 => wpAny_pure (q h2 L2 es2 ep2 t2 (sb.trans sb2) R2 (pm2.trans pm))
      have fin : wpAny (model P w) A (setRelay a (SetTable.grown (L.length + 1))) (fun _ z => wpAny (model P w) A (pure true) Q E z) E { s with heap := h1 } := by
        rcases two with ⟨_, z⟩ | ⟨_, z⟩
        · exact again 31 (by rw [z, size_20]) (.inr (.inl rfl)) (by rw [z, size_20]; decide) (by omega)
        · exact again 127 (by rw [z, size_76]) (.inr (.inr rfl)) (by rw [z, size_76]; decide) (by omega)
      rw [hl]
      first
        | exact wpAny_bind (wp_if_pos (by simp [hf]) fin)
        | exact wp_if_pos (by simp [hf]) (wpAny_bind fin)
    · have fin : Q true { s with heap := h1 } := by
        refine q h1 L1 es1 (ep + 1) t2 sb ⟨⟨_, ho1, ⟨e2.1, e2.2.1, e2.2.2⟩, rfl⟩, hin, q3, keys1, ld1, ?_, by rw [hlen]; exact few⟩ pm
        have z := hf
        unfold SetTable.tooFull at z
        rw [decide_eq_true_eq, z5, q9, List.length_map] at z
        rw [hlen]; omega
      first
        | exact wp_if_neg (by simp [hf]) (wpAny_pure fin)
        | exact wpAny_bind (wp_if_neg (by simp [hf]) (wpAny_pure (wpAny_pure fin)))
  have either : ∀ b : Bool, wpAny (model P w) A (do
        storeSet a (SetTable.insertAt es (SetTable.below t.place (way t.mask (txH P w k) N)) (txH P w k, Value.ref x)) (if b = true then t1 else { t1 with plain := false })
        if (!false && (if b = true then t1 else { t1 with plain := false }).tooFull) = true then setRelay a (SetTable.grown (es.size + 1))
        return true) Q E s := fun b => by
    cases b with
    | true => exact on t1 rfl rfl rfl rfl rfl rfl q3
    | false => exact on { t1 with plain := false } rfl rfl rfl rfl rfl rfl ⟨q3.ris, q3.dm, q3.sz, q3.mok, q3.bd, q3.reach⟩
  by_cases hp : t1.plain = true
  · first
      | exact wpAny_bind (wp_if_pos hp (tx_byval hx either))
      | exact wp_if_pos hp (wpAny_bind (tx_byval hx either))
  · first
      | exact wpAny_bind (wp_if_neg hp (wpAny_pure (either true)))
      | exact wp_if_neg hp (wpAny_bind (wpAny_pure (either true)))
end
end Lay
namespace Lay
open PySem PySem.Spec PyProof.Rows L2
abbrev newSet (w : World) : Obj := { cls := .type "set", dict := none, data := .set #[] 0 (.fresh 0 0 (!w.params.followText "set-order")) }
section
variable {P : Program} {w : World} {A : Around} {E : Value → Shared → Prop}
/-- what stands in the set at S when i items have come; base: the heap ahead of it -/
structure Fills (P : Program) (w : World) (base : Heap) (S : Addr) (us : Array Value) (St : Nat → Heap → Prop) : Prop where
  zero : ∀ h : Heap, h.get? S = some (newSet w) → St 0 h
  keep : ∀ i (h h' : Heap), St i h → (∀ o, h.get? S = some o → h'.get? S = some o) → (∀ b o, base.get? b = some o → h'.get? b = some o) → St i h'
  add : ∀ (A : Around) (E : Value → Shared → Prop) i (z : Shared) (v : Value) (Q : Bool → Shared → Prop), A.units < cLine → St i z.heap → us[i]? = some v → (∀ b o, base.get? b = some o → z.heap.get? b = some o) →
    (∀ b h' tk, z.toks ≤ tk → Heap.SameBut S z.heap h' → St (i + 1) h' → Q b { z with heap := h', toks := tk }) → wpAny (model P w) A (setAdd S v) Q E z
theorem set_turns {I : Addr} {fp wr : List Addr} {G : Array GenState → Array GenState → Prop} {n : Nat} {Pv : Nat → Value → Prop} {Sw : Nat → Shared → Prop} {R : Result → Shared → Prop} {base : Heap} {S : Addr} {us : Array Value} {St : Nat → Heap → Prop}
    (W : WalksS P w A.in1 I fp wr G n Pv Sw) (FL : Fills P w base S us St) (hS : S ∉ fp) (hval : ∀ i v, Pv i v → us[i]? = some v) (hS0 : base.get? S = none) (hw0 : ∀ b ∈ wr, base.get? b = none) (hu : A.in1.units < cLine) :
    ∀ (m i : Nat) (z : Shared), n - i = m → i ≤ n → Sw i z → (∀ b o, base.get? b = some o → z.heap.get? b = some o) → St i z.heap →
      (∀ z', Moved (S :: wr) G z z' → St n z'.heap → (∀ b o, base.get? b = some o → z'.heap.get? b = some o) → R (.ok (.ret .none)) z') →
      codeAny (model P w) A (.builtin "set.update.loop" ⟨[.ref S, .ref I], []⟩) R z := by
  have out : S ∉ wr := fun h => hS (W.sub _ h)
  have more : ∀ b ∈ wr, b ∈ S :: wr := fun b hb => List.mem_cons_of_mem _ hb
  have on : ∀ {z z' : Shared}, Moved wr G z z' → (∀ b o, base.get? b = some o → z.heap.get? b = some o) → ∀ b o, base.get? b = some o → z'.heap.get? b = some o := fun hm k b o e => hm.heap b o (fun hb => by rw [hw0 b hb] at e; cases e) (k b o e)
  intro m
  induction m with
  | zero =>
    intro i z e hi st hk hF hR
    obtain rfl : i = n := by omega
    refine codeAny_builtin F.entry_set_update_loop ?_
    rw [Around.under_plainId F.plain_set_update_loop _]
    show wpAny _ A.in1 (pyNext (.ref I) >>= _) _ _ z
    refine wpAny_bind (W.done z _ _ st fun z' hm => ?_)
    show wpAny _ A.in1 (ret Value.none) _ _ z'
    exact wpAny_pure (hR z' (hm.mono more) (FL.keep i _ _ hF (fun o e => hm.heap S o out e) (on hm hk)) (on hm hk))
  | succ m ih =>
    intro i z e hi st hk hF hR
    have hlt : i < n := by omega
    refine codeAny_builtin F.entry_set_update_loop ?_
    rw [Around.under_plainId F.plain_set_update_loop _]
    show wpAny _ A.in1 (pyNext (.ref I) >>= _) _ _ z
    refine wpAny_bind (W.item i z _ _ hlt st fun v z' hP st' hm => ?_)
    have hk' := on hm hk
    have hF' := FL.keep i _ _ hF (fun o e => hm.heap S o out e) hk'
    show wpAny _ A.in1 (holding [v] (setAdd S v) >>= _) _ _ z'
    refine wpAny_bind (wpAny_holding (FL.add A.in1 _ i z' v _ hu hF' (hval i v hP) hk' fun b h' tk htk sb hF2 => ?_))
    have hk2 : ∀ b o, base.get? b = some o → h'.get? b = some o := fun b o e => (sb.2 b (fun q => by rw [q, hS0] at e; cases e)).trans (hk' b o e)
    refine wpAny_pure ⟨plainId_quiet F.plain_set_update_loop _, ih (i + 1) { z' with heap := h', toks := tk } (by omega) hlt (W.frame _ z' _ _ st' htk fun b hb o e => ?_) hk2 hF2 fun z2 hm2 hF3 hk3 => ?_⟩
    · rw [sb.2 b (fun q => hS (by rw [← q]; exact hb))]; exact e
    · refine hR z2 (Moved.trans W.gtrans ((hm.mono more).then_heap htk fun b o hb e => ?_) hm2) hF3 hk3
      rw [sb.2 b (fun q => hb (by rw [q]; exact List.mem_cons_self))]; exact e

theorem set_of_list {s : Shared} {l : Addr} {us : Array Value} {St : Nat → Heap → Prop} {Q : Value → Shared → Prop} (hh : A.handled = none) (hl : s.heap.IsList l us) (FL : Fills P w s.heap s.heap.objs.size us St) (hu : A.units + 3 < cLine)
    (q : ∀ (h' : Heap) (tk : Nat), St us.size h' → (∀ b o, s.heap.get? b = some o → h'.get? b = some o) → Q (.ref s.heap.objs.size) { s with heap := h', toks := tk }) : wpAny (model P w) A (call (.type "set") [.ref l]) Q E s := by
  obtain ⟨c, tl, hmro⟩ := F.called_set.mro
  have w1 := F.called_set.made
  have w2 := F.called_set.sub
  refine wpAny_call (codeAny_of_tree ?_)
  show wpAny _ _ (callAny (.type "set") _) _ _ _
  refine wpAny_pure ⟨Code.quiet_builtin _ (by decide +kernel), codeAny_builtin F.entry_type_call ?_⟩
  rw [Around.under_plain (weight_type_call_type "set" [.ref l] []) rfl]
  have w3 := F.called_set.notType
  have w4 := F.called_set.canCreate
  have w5 := F.typeCall_set_1 (.ref l)
  repeat (any_goals (first | assumption | wp_step))
  refine codeAny_mono (code_set_led1 (.ref l) (E := E) (Q₁ := fun obj z => obj = .ref s.heap.objs.size ∧ z = { s with heap := s.heap.push (newSet w) }) ⟨rfl, rfl⟩) fun r z hr => ?_
  cases r with
  | error e => exact hr
  | ok fl =>
    cases fl with
    | ret obj =>
      obtain ⟨rfl, rfl⟩ := hr
      have hS : (s.heap.push (newSet w)).get? s.heap.objs.size = some (newSet w) := Heap.get?_push_size _ rfl
      have hT : Shared.TypeIs { s with heap := s.heap.push (newSet w) } (.ref s.heap.objs.size) "set" := ⟨_, hS, rfl⟩
      have w6 := F.called_set.init.lookup
      have w7 := F.called_set.init.bind (.ref s.heap.objs.size)
      repeat (any_goals (first | assumption | wp_step))
      refine codeAny_mono (codeAny_call_builtin (R := wants (fun r z => r = .none ∧ ∃ h' tk, z = { s with heap := h', toks := tk } ∧ St us.size h' ∧ (∀ b o, s.heap.get? b = some o → h'.get? b = some o)) E) F.called_set.init.plain F.entry_set_init (check_set_init_1 hT ?_)) fun r2 z2 hr2 => ?_
      · obtain ⟨ol, hol, hcl, nl, hdl⟩ := id hl
        obtain ⟨ocls, odict, odata, oslots⟩ := ol
        simp only at hcl hdl
        subst hcl hdl
        have hol2 : (s.heap.push (newSet w)).get? l = some { cls := .type "list", dict := odict, data := .seq us nl, slots := oslots } := Heap.get?_push_of_some _ hol
        have w8 := F.sub_list_set
        have w9 := F.sub_list_frozenset
        have wa : (Value.type "list" == Value.type "dict") = false := by decide
        have hl1 : (s.heap.push (newSet w)).IsList l us := ⟨_, hol2, rfl, nl, rfl⟩
        unfold Builtin.«set.__init__» noKeywords Builtin.Frozenset.updateFrom
        generalize hPI : pyIter = PI
        wp_walk
        subst hPI
        refine wpAny_pyIter_list hl1 (wpAny_bind (wpAny_runValue ?_))
        have hlS : l < s.heap.objs.size := Heap.lt_size hol
        have hh3 : A.in1.in1.in1.handled = none := by simp [hh]
        have size1 : (s.heap.push (newSet w)).objs.size = s.heap.objs.size + 1 := Heap.size_push ..
        have hne : l ≠ (s.heap.push (newSet w)).objs.size := by rw [size1]; exact Nat.ne_of_lt (Nat.lt_succ_of_lt hlS)
        have hSf : s.heap.objs.size ∉ [(s.heap.push (newSet w)).objs.size, l] := by
          rw [size1]
          simp only [List.mem_cons, List.not_mem_nil, or_false, not_or]
          exact ⟨Nat.ne_of_lt (Nat.lt_succ_self _), Nat.ne_of_gt hlS⟩
        have noneOf : ∀ b, s.heap.objs.size ≤ b → s.heap.get? b = none := fun b hb => by
          cases q : s.heap.get? b with
          | none => rfl
          | some o => exact absurd (Nat.lt_of_lt_of_le (Heap.lt_size q) hb) (Nat.lt_irrefl _)
        refine set_turns ((Walks.list hh3 _ l hne us).toS) FL hSf (fun i v h => h) (noneOf _ (Nat.le_refl _)) (fun b hb => noneOf b (by rw [List.mem_singleton.mp hb, size1]; exact Nat.le_succ _)) hu (us.size - 0) 0 _ (by omega) (Nat.zero_le _)
          ⟨⟨_, Heap.get?_push_size _ rfl, rfl, rfl⟩, hl1.push _⟩ (fun b o e => Heap.get?_push_of_some _ (Heap.get?_push_of_some _ e)) (FL.zero _ (Heap.get?_push_of_some _ hS)) fun z' hm hF hk => ?_
        obtain ⟨h', g2, d', tk', os'⟩ := z'
        have eg : g2 = s.gens := hm.gens
        have ed : d' = s.drawn := hm.drawn
        have eo : os' = s.os := hm.os
        subst eg ed eo
        show wpAny _ _ _ _ _ _
        refine wpAny_pure ?_
        show wpAny _ _ (ret Value.none) _ _ _
        exact wpAny_pure ⟨rfl, h', tk', rfl, hF, hk⟩
      · cases r2 with
        | error e => exact hr2
        | ok fl2 =>
          cases fl2 with
          | ret r =>
            obtain ⟨rfl, h', tk, rfl, hF, hk⟩ := hr2
            repeat (any_goals (first | assumption | wp_step))
            exact q _ _ hF hk
          | _ => exact hr2.elim
    | _ => exact hr.elim

theorem set_of_tuple {s : Shared} {l : Addr} {us : Array Value} {St : Nat → Heap → Prop} {Q : Value → Shared → Prop} (hh : A.handled = none) (hl : s.heap.IsTuple l us) (FL : Fills P w s.heap s.heap.objs.size us St) (hu : A.units + 3 < cLine)
    (q : ∀ (h' : Heap) (tk : Nat), St us.size h' → (∀ b o, s.heap.get? b = some o → h'.get? b = some o) → Q (.ref s.heap.objs.size) { s with heap := h', toks := tk }) : wpAny (model P w) A (call (.type "set") [.ref l]) Q E s := by
  obtain ⟨c, tl, hmro⟩ := F.called_set.mro
  have w1 := F.called_set.made
  have w2 := F.called_set.sub
  refine wpAny_call (codeAny_of_tree ?_)
  show wpAny _ _ (callAny (.type "set") _) _ _ _
  refine wpAny_pure ⟨Code.quiet_builtin _ (by decide +kernel), codeAny_builtin F.entry_type_call ?_⟩
  rw [Around.under_plain (weight_type_call_type "set" [.ref l] []) rfl]
  have w3 := F.called_set.notType
  have w4 := F.called_set.canCreate
  have w5 := F.typeCall_set_1 (.ref l)
  repeat (any_goals (first | assumption | wp_step))
  refine codeAny_mono (code_set_led1 (.ref l) (E := E) (Q₁ := fun obj z => obj = .ref s.heap.objs.size ∧ z = { s with heap := s.heap.push (newSet w) }) ⟨rfl, rfl⟩) fun r z hr => ?_
  cases r with
  | error e => exact hr
  | ok fl =>
    cases fl with
    | ret obj =>
      obtain ⟨rfl, rfl⟩ := hr
      have hS : (s.heap.push (newSet w)).get? s.heap.objs.size = some (newSet w) := Heap.get?_push_size _ rfl
      have hT : Shared.TypeIs { s with heap := s.heap.push (newSet w) } (.ref s.heap.objs.size) "set" := ⟨_, hS, rfl⟩
      have w6 := F.called_set.init.lookup
      have w7 := F.called_set.init.bind (.ref s.heap.objs.size)
      repeat (any_goals (first | assumption | wp_step))
      refine codeAny_mono (codeAny_call_builtin (R := wants (fun r z => r = .none ∧ ∃ h' tk, z = { s with heap := h', toks := tk } ∧ St us.size h' ∧ (∀ b o, s.heap.get? b = some o → h'.get? b = some o)) E) F.called_set.init.plain F.entry_set_init (check_set_init_1 hT ?_)) fun r2 z2 hr2 => ?_
      · obtain ⟨ol, hol, hcl, nl, hdl⟩ := id hl
        obtain ⟨ocls, odict, odata, oslots⟩ := ol
        simp only at hcl hdl
        subst hcl hdl
        have hol2 : (s.heap.push (newSet w)).get? l = some { cls := .type "tuple", dict := odict, data := .seq us nl, slots := oslots } := Heap.get?_push_of_some _ hol
        have w8 := F.sub_tuple_set
        have w9 := F.sub_tuple_frozenset
        have wa : (Value.type "tuple" == Value.type "dict") = false := by decide
        have hl1 : (s.heap.push (newSet w)).IsTuple l us := ⟨_, hol2, rfl, nl, rfl⟩
        unfold Builtin.«set.__init__» noKeywords Builtin.Frozenset.updateFrom
        generalize hPI : pyIter = PI
        wp_walk
        subst hPI
        refine wpAny_pyIter_tuple hl1 (wpAny_bind (wpAny_runValue ?_))
        have hlS : l < s.heap.objs.size := Heap.lt_size hol
        have hh3 : A.in1.in1.in1.handled = none := by simp [hh]
        have size1 : (s.heap.push (newSet w)).objs.size = s.heap.objs.size + 1 := Heap.size_push ..
        have hne : l ≠ (s.heap.push (newSet w)).objs.size := by rw [size1]; exact Nat.ne_of_lt (Nat.lt_succ_of_lt hlS)
        have hSf : s.heap.objs.size ∉ [(s.heap.push (newSet w)).objs.size, l] := by
          rw [size1]
          simp only [List.mem_cons, List.not_mem_nil, or_false, not_or]
          exact ⟨Nat.ne_of_lt (Nat.lt_succ_self _), Nat.ne_of_gt hlS⟩
        have noneOf : ∀ b, s.heap.objs.size ≤ b → s.heap.get? b = none := fun b hb => by
          cases q : s.heap.get? b with
          | none => rfl
          | some o => exact absurd (Nat.lt_of_lt_of_le (Heap.lt_size q) hb) (Nat.lt_irrefl _)
        refine set_turns ((Walks.tuple hh3 _ l hne us).toS) FL hSf (fun i v h => h) (noneOf _ (Nat.le_refl _)) (fun b hb => noneOf b (by rw [List.mem_singleton.mp hb, size1]; exact Nat.le_succ _)) hu (us.size - 0) 0 _ (by omega) (Nat.zero_le _)
          ⟨⟨_, Heap.get?_push_size _ rfl, rfl, rfl⟩, hl1.push _⟩ (fun b o e => Heap.get?_push_of_some _ (Heap.get?_push_of_some _ e)) (FL.zero _ (Heap.get?_push_of_some _ hS)) fun z' hm hF hk => ?_
        obtain ⟨h', g2, d', tk', os'⟩ := z'
        have eg : g2 = s.gens := hm.gens
        have ed : d' = s.drawn := hm.drawn
        have eo : os' = s.os := hm.os
        subst eg ed eo
        show wpAny _ _ _ _ _ _
        refine wpAny_pure ?_
        show wpAny _ _ (ret Value.none) _ _ _
        exact wpAny_pure ⟨rfl, h', tk', rfl, hF, hk⟩
      · cases r2 with
        | error e => exact hr2
        | ok fl2 =>
          cases fl2 with
          | ret r =>
            obtain ⟨rfl, h', tk, rfl, hF, hk⟩ := hr2
            repeat (any_goals (first | assumption | wp_step))
            exact q _ _ hF hk
          | _ => exact hr2.elim
    | _ => exact hr.elim
end
end Lay
namespace Lay
open PySem PySem.Spec PyProof.Rows L2
def keyS : PyData → Bool
  | .str _ => true
  | _ => false
def keyI : PyData → Bool
  | .int _ => true
  | _ => false
def keyT : PyData → Bool
  | .tuple ds => ds.all keyS
  | _ => false
def dist : List PyData → List PyData → Nat
  | _, [] => 0
  | seen, d :: ds => if seen.any (PyData.eqv · d) then dist seen ds else dist (d :: seen) ds + 1
def lenD (ds : List PyData) : Option Rv :=
  if ds.length < 63 ∧ (ds.all keyS || ds.all keyI) = true then some (.v (.int (dist [] ds : Nat)))
  else if ds.length < 63 ∧ ds.all keyT = true ∧ dist [] ds = ds.length then some (.v (.int (ds.length : Nat)))
  else none
def fLenSet : PyData → Option Rv
  | .list ds => lenD ds
  | .tuple ds => lenD ds
  | _ => none
def eLenSet (f : E) : E := eUn fLenSet f
section
variable {κ : Type} [DecidableEq κ]
/-- the same of keys -/
def dk (seen : κ → Bool) : List κ → Nat
  | [] => 0
  | k :: ks => if seen k then dk seen ks else dk (fun k' => seen k' || decide (k' = k)) ks + 1
theorem dk_snoc : ∀ (ks : List κ) (seen : κ → Bool) (k : κ), dk seen (ks ++ [k]) = dk seen ks + if (seen k || ks.any (fun k' => decide (k' = k))) then 0 else 1
  | [], seen, k => by
    show (if seen k = true then 0 else _) = _
    cases h : seen k <;> simp [dk, h]
  | k0 :: ks, seen, k => by
    simp only [List.cons_append, dk, List.any_cons]
    by_cases h : seen k0 = true
    · rw [if_pos h, if_pos h, dk_snoc ks seen k]
      by_cases e : k0 = k
      · subst e; simp [h]
      · simp [e]
    · rw [if_neg h, if_neg h, dk_snoc ks _ k]
      have e : decide (k = k0) = decide (k0 = k) := by simp [eq_comm]
      simp only [e, Bool.or_assoc]
      have : ∀ a b : Nat, a + b + 1 = a + 1 + b := fun a b => by omega
      exact this _ _
theorem dk_le : ∀ (ks : List κ) (seen : κ → Bool), dk seen ks ≤ ks.length
  | [], _ => Nat.le_refl _
  | k :: ks, seen => by
    simp only [dk, List.length_cons]
    split
    · have := dk_le ks seen; omega
    · have := dk_le ks (fun k' => seen k' || decide (k' = k)); omega
theorem dist_dk {g : κ → PyData} (hg : ∀ a b, PyData.eqv (g a) (g b) = decide (a = b)) : ∀ (ks : List κ) (seen : List κ), dist (seen.map g) (ks.map g) = dk (fun k => seen.any fun k' => decide (k' = k)) ks
  | [], _ => rfl
  | k :: ks, seen => by
    have h1 : (seen.map g).any (PyData.eqv · (g k)) = seen.any fun k' => decide (k' = k) := by
      rw [List.any_map]
      exact congrArg (seen.any ·) (funext fun k' => hg k' k)
    simp only [List.map_cons, dist, dk, h1]
    have ih := dist_dk hg ks (k :: seen)
    simp only [List.map_cons] at ih
    rw [dist_dk hg ks seen, ih]
    have e : (fun k' => (k :: seen).any fun k'' => decide (k'' = k')) = fun k' => (seen.any fun k'' => decide (k'' = k')) || decide (k' = k) := by
      funext k'
      rw [List.any_cons, Bool.or_comm]
      have : decide (k = k') = decide (k' = k) := by simp [eq_comm]
      rw [this]
    rw [e]
end
section
variable {P : Program} {w : World} {κ : Type} [DecidableEq κ] {knd : KeyKind P w κ}
theorem fresh_setOf {h : Heap} {S : Addr} (e : h.get? S = some (newSet w)) : h.SetOf knd S (fun _ => false) 0 :=
  ⟨_, #[], 0, _, e, ⟨rfl, rfl, rfl⟩, rfl, fun x hx => by simp at hx, fun k => by simp, by show 0 < 4096; decide, rfl, rfl⟩
def scanSt (knd : KeyKind P w κ) (S : Addr) (ks : List κ) (i : Nat) (h : Heap) : Prop := h.SetOf knd S (fun k => (ks.take i).any fun k' => decide (k' = k)) (dk (fun _ => false) (ks.take i))
theorem scan_fills {base : Heap} {S : Addr} {us : Array Value} {ks : List κ} (hs : ∀ (i : Nat) v, us[i]? = some v → ∃ k, ks[i]? = some k ∧ knd.is k v = true ∧ v.scannable = true) (hl : ks.length < 1000) : Fills P w base S us (scanSt knd S ks) := by
  refine ⟨fun h e => fresh_setOf e, fun i h h' q k1 k2 => ?_, fun A E i z v Q hu hF hv hk q => ?_⟩
  · obtain ⟨o, es, ep, t, ho, r⟩ := q
    exact ⟨o, es, ep, t, k1 o ho, r⟩
  · obtain ⟨k, h1, h2, h3⟩ := hs i v hv
    unfold setAdd
    refine wpAny_holding (wpAny_bind (knd.pyHash h2 ?_))
    have hsz : dk (fun _ => false) (ks.take i) + 1 < scanBound := by
      have := dk_le (ks.take i) (fun _ => false)
      rw [List.length_take] at this
      show _ < 4096
      omega
    refine wpAny_setAddHashed_of (s := { z with toks := z.toks + 1 }) h2 h3 hF hsz fun h' sb hS => ?_
    have et : ks.take (i + 1) = ks.take i ++ [k] := by rw [List.take_succ, h1]; rfl
    refine q _ h' (z.toks + 1) (Nat.le_succ _) sb ?_
    unfold scanSt
    rw [et, dk_snoc]
    have e1 : (fun k' => ((ks.take i).any fun k'' => decide (k'' = k')) || decide (k' = k)) = fun k' => (ks.take i ++ [k]).any fun k'' => decide (k'' = k') := by
      funext k'
      rw [List.any_append]
      have : decide (k' = k) = decide (k = k') := by simp [eq_comm]
      simp [this]
    rw [e1] at hS
    have e2 : (if ((ks.take i).any fun k' => decide (k' = k)) = true then dk (fun _ => false) (ks.take i) else dk (fun _ => false) (ks.take i) + 1) = dk (fun _ => false) (ks.take i) + if (false || (ks.take i).any fun k' => decide (k' = k)) = true then 0 else 1 := by
      rw [Bool.false_or]
      split <;> rfl
    rw [e2] at hS
    exact hS
end
section
variable {P : Program} {w : World}
def hashSt (P : Program) (w : World) (S : Addr) (ks : List (Addr × List Str)) (i : Nat) (h : Heap) : Prop := ∃ L es ep t, TxSet P w h S L es ep t ∧ L.Perm (ks.take i)
theorem tx_fresh {h : Heap} {S : Addr} (e : h.get? S = some (newSet w)) : TxSet P w h S [] #[] 0 (.fresh 0 0 (!w.params.followText "set-order")) where
  ob := ⟨_, e, ⟨rfl, rfl, rfl⟩, rfl⟩
  rows := rfl
  tab := ⟨List.Pairwise.nil, rfl, rfl, .inl rfl, fun x hx => (by cases hx), fun i h j hi => (by simp at hi)⟩
  keys := fun p hp => (by cases hp)
  led := by
    show _ ∨ (!w.params.followText "set-order") = true
    cases w.params.followText "set-order"
    · exact .inr rfl
    · exact .inl rfl
  room := by show 0 * 5 < 7 * 3; decide
  few := by show 0 < 64; decide
theorem tx_on {h h' : Heap} {k : List Str} {c : Addr} (x : TxK P w h k c) (hk : ∀ o, h.get? c = some o → h'.get? c = some o) : TxK P w h' k c := by
  obtain ⟨o, us, n, e, r⟩ := x
  exact ⟨o, us, n, hk o e, r⟩
theorem hash_fills {base : Heap} {S : Addr} {us : Array Value} {ks : List (Addr × List Str)} (hs : ∀ (i : Nat) v, us[i]? = some v → ∃ p, ks[i]? = some p ∧ v = .ref p.1) (hk : ∀ p ∈ ks, TxK P w base p.2 p.1) (hl : ks.length < 63)
    (nd : ∀ (i j : Nat) p q, i < j → ks[i]? = some p → ks[j]? = some q → p.2 ≠ q.2) : Fills P w base S us (hashSt P w S ks) := by
  refine ⟨fun h e => ⟨[], #[], 0, _, tx_fresh e, .refl _⟩, fun i h h' q k1 k2 => ?_, fun A E i z v Q hu hF hv hkeep q => ?_⟩
  · obtain ⟨L, es, ep, t, R, pm⟩ := q
    obtain ⟨o, ho, r⟩ := R.ob
    exact ⟨L, es, ep, t, ⟨⟨o, k1 o ho, r⟩, R.rows, R.tab, fun p hp => tx_on (hk p (List.mem_of_mem_take (pm.mem_iff.mp hp))) (k2 _), R.led, R.room, R.few⟩, pm⟩
  · obtain ⟨L, es, ep, t, R, pm⟩ := hF
    obtain ⟨p, h1, rfl⟩ := hs i v hv
    have hx : TxK P w z.heap p.2 p.1 := tx_on (hk p (List.mem_of_getElem? h1)) (hkeep _)
    have hlen := pm.length_eq
    rw [List.length_take] at hlen
    unfold setAdd
    refine wpAny_holding (wpAny_bind (wpAny_pyHash_tuple hu hx ?_))
    refine tx_add (s := { z with toks := z.toks + (p.2.length + 1) }) R hx hu (by omega) (fun r hr => ?_) fun h' L' es' ep' t' sb R' pm' => ?_
    · obtain ⟨j, hj⟩ := List.mem_iff_getElem?.mp (pm.mem_iff.mp hr)
      rw [List.getElem?_take] at hj
      split at hj
      · rename_i hji
        exact nd j i r p hji hj h1
      · cases hj
    · have et : ks.take (i + 1) = ks.take i ++ [p] := by rw [List.take_succ, h1]; rfl
      refine q _ h' _ (Nat.le_add_right _ _) sb ⟨L', es', ep', t', R', ?_⟩
      rw [et]
      exact (pm'.trans (List.Perm.cons _ pm)).trans (List.perm_append_singleton _ _).symm
end
theorem eqv_str (a b : Str) : PyData.eqv (.str a) (.str b) = decide (a = b) := by
  simp only [PyData.eqv]
  by_cases h : a = b <;> simp [h]
theorem eqv_int (a b : Int) : PyData.eqv (.int a) (.int b) = decide (a = b) := by
  simp only [PyData.eqv]
  by_cases h : a = b <;> simp [h]
theorem allKeyS : ∀ {ds : List PyData}, ds.all keyS = true → ∃ xs : List Str, ds = xs.map PyData.str
  | [], _ => ⟨[], rfl⟩
  | d :: ds, h => by
    rw [List.all_cons, Bool.and_eq_true] at h
    obtain ⟨xs, rfl⟩ := allKeyS h.2
    cases d with
    | str x => exact ⟨x :: xs, rfl⟩
    | _ => exact absurd h.1 (by simp [keyS])
theorem allKeyI : ∀ {ds : List PyData}, ds.all keyI = true → ∃ xs : List Int, ds = xs.map PyData.int
  | [], _ => ⟨[], rfl⟩
  | d :: ds, h => by
    rw [List.all_cons, Bool.and_eq_true] at h
    obtain ⟨xs, rfl⟩ := allKeyI h.2
    cases d with
    | int x => exact ⟨x :: xs, rfl⟩
    | _ => exact absurd h.1 (by simp [keyI])
section
variable {K : PySem.W.Frag} {w : Wd}
theorem rds_strs : ∀ {xs : List Str} {vs : List V}, RDs K w (xs.map PyData.str) vs → vs = xs.map V.str
  | [], _, .nil => rfl
  | x :: xs, _, .cons r t => by
    cases r
    rw [rds_strs t]; rfl
theorem rds_ints : ∀ {xs : List Int} {vs : List V}, RDs K w (xs.map PyData.int) vs → vs = xs.map V.int
  | [], _, .nil => rfl
  | x :: xs, _, .cons r t => by
    cases r
    rw [rds_ints t]; rfl
theorem dist_le : ∀ (ds seen : List PyData), dist seen ds ≤ ds.length
  | [], _ => Nat.le_refl _
  | d :: ds, seen => by
    simp only [dist, List.length_cons]
    split
    · have := dist_le ds seen; omega
    · have := dist_le ds (d :: seen); omega
theorem dist_all : ∀ {ds seen : List PyData}, dist seen ds = ds.length → (∀ e ∈ seen, ∀ d ∈ ds, PyData.eqv e d = false) ∧ ∀ (i j : Nat) d e, i < j → ds[i]? = some d → ds[j]? = some e → PyData.eqv d e = false
  | [], _, _ => ⟨fun _ _ d hd => by simp at hd, fun i j d e _ h => by simp at h⟩
  | x :: ds, seen, h => by
    simp only [dist, List.length_cons] at h
    split at h
    · have := dist_le ds seen; omega
    · rename_i hn
      have h2 : dist (x :: seen) ds = ds.length := by omega
      obtain ⟨f1, f2⟩ := dist_all h2
      refine ⟨fun e he d hd => ?_, fun i j d e hij hi hj => ?_⟩
      · rcases List.mem_cons.mp hd with z | hd
        · subst z
          cases hq : PyData.eqv e d with
          | false => rfl
          | true => exact absurd (List.any_eq_true.mpr ⟨e, he, hq⟩) hn
        · exact f1 e (List.mem_cons_of_mem _ he) d hd
      · cases j with
        | zero => omega
        | succ j =>
          rw [List.getElem?_cons_succ] at hj
          cases i with
          | zero =>
            simp only [List.getElem?_cons_zero, Option.some.injEq] at hi
            subst hi
            exact f1 x List.mem_cons_self e (List.mem_of_getElem? hj)
          | succ i =>
            rw [List.getElem?_cons_succ] at hi
            exact f2 i j d e (by omega) hi hj
theorem eqvAll_strs : ∀ xs : List Str, PyData.eqvAll (xs.map PyData.str) (xs.map PyData.str) = true
  | [] => by simp [PyData.eqvAll]
  | x :: xs => by simp [PyData.eqvAll, eqvAll_strs xs, eqv_str]
/-- tuples of texts and where they stand -/
theorem tup_keys : ∀ {ds : List PyData} {vs : List V}, ds.all keyT = true → RDs K w ds vs → ∃ ks : List (Addr × List Str), vs = ks.map (fun p => V.ref p.1) ∧ ds = ks.map (fun p => PyData.tuple (p.2.map PyData.str)) ∧ ∀ p ∈ ks, SqT K w.H p.1 (p.2.map V.str)
  | [], [], _, _ => ⟨[], rfl, rfl, fun p hp => by simp at hp⟩
  | [], _ :: _, _, r => by cases r
  | _ :: _, [], _, r => by cases r
  | d :: ds, v :: vs, h, rds => by
    obtain ⟨r, t⟩ : RD K w d v ∧ RDs K w ds vs := by
      cases rds with
      | cons r t => exact ⟨r, t⟩
    rw [List.all_cons, Bool.and_eq_true] at h
    obtain ⟨ks, rfl, rfl, h3⟩ := tup_keys h.2 t
    cases d with
    | tuple es =>
      obtain ⟨xs, rfl⟩ := allKeyS (show es.all keyS = true from h.1)
      obtain ⟨a, us, rfl, g1, g2, g3⟩ := RB.tup (.inl r)
      rw [rds_strs g3] at g1
      refine ⟨(a, xs) :: ks, rfl, rfl, fun p hp => ?_⟩
      rcases List.mem_cons.mp hp with e | hp
      · rw [e]; exact g1
      · exact h3 p hp
    | _ => exact absurd h.1 (by simp [keyT])
end
section
variable {X : Cx} {W : WX}
theorem inv_txk {pins : List (Addr × Obj)} {σ : L2.St} {H : Hp} {s : Shared} {b : Addr} {k : List Str} (I : Inv X pins σ H s) (h : SqT X.K H b (k.map V.str)) : TxK X.prog X.w s.heap k b := by
  obtain ⟨its, rv, ⟨o, e, c, n, d⟩, hz⟩ := I.tuple h
  refine ⟨o, its.toArray, n, e, c, d, ?_⟩
  rw [List.toList_toArray]
  clear d e h hz
  induction k generalizing its with
  | nil => cases rv; exact .nil
  | cons x k ih =>
    cases rv with
    | cons r t =>
      obtain ⟨tk, rfl⟩ := r
      exact .cons (strKind_is _ _ _ _) (ih _ t)
/-- set(xs), its size told -/
theorem set_len {pins : List (Addr × Obj)} {σ : L2.St} {s : Shared} {w : Wd} {l : Addr} {ds : List PyData} {vs : List V} {us : List Value} {n : Int} {Q : Value → Shared → Prop} {E : Value → Shared → Prop} (hc : X.calm = true) (hu : X.A.units + 64 < cLine) (I : Inv X pins σ w.H s)
    (hl : s.heap.IsList l us.toArray ∨ s.heap.IsTuple l us.toArray) (rv : Vals vs us) (rd : RDs X.K w ds vs) (e : lenD ds = some (.v (.int n)))
    (q : ∀ (h' : Heap) (tk : Nat) o es ep t, (∀ b o, s.heap.get? b = some o → h'.get? b = some o) → h'.get? s.heap.objs.size = some o → o.ExactSet → o.data = .set es ep t → t.fits es.size = true → ((es.size : Nat) : Int) = n → es.size < 1000 → Q (.ref s.heap.objs.size) { s with heap := h', toks := tk }) :
    wpAny (model X.prog X.w) X.A (call (.type "set") [.ref l]) Q E s := by
  have go : ∀ St, Fills X.prog X.w s.heap s.heap.objs.size us.toArray St → (∀ (h' : Heap) (tk : Nat), St us.toArray.size h' → (∀ b o, s.heap.get? b = some o → h'.get? b = some o) → Q (.ref s.heap.objs.size) { s with heap := h', toks := tk }) → wpAny (model X.prog X.w) X.A (call (.type "set") [.ref l]) Q E s := fun St F q => by
    rcases hl with h | h
    · exact set_of_list (I.ok.hd hc) h F (by omega) q
    · exact set_of_tuple (I.ok.hd hc) h F (by omega) q
  have ln := rd.length
  have lv := rv.length
  have scan : ∀ {κ : Type} [DecidableEq κ] (knd : KeyKind X.prog X.w κ) (ks : List κ) (g : κ → PyData), (∀ a b, PyData.eqv (g a) (g b) = decide (a = b)) → ds = ks.map g → ks.length < 63 → (∀ (i : Nat) v, us[i]? = some v → ∃ k, ks[i]? = some k ∧ knd.is k v = true ∧ v.scannable = true) → n = (dist [] ds : Nat) →
      wpAny (model X.prog X.w) X.A (call (.type "set") [.ref l]) Q E s := fun knd ks g hg ed hk hs en => by
    refine go _ (scan_fills (knd := knd) (ks := ks) (fun i v hv => hs i v (by rw [← Array.getElem?_toList] at hv; exact hv)) (by omega)) fun h' tk hS hkeep => ?_
    have el : us.toArray.size = ks.length := by
      have : ds.length = ks.length := by rw [ed, List.length_map]
      simp only [List.size_toArray]; omega
    rw [el] at hS
    unfold scanSt at hS
    rw [List.take_length] at hS
    obtain ⟨o, es, ep, t, ho, hex, hd, _, _, _, hf, hn⟩ := hS
    refine q h' tk o es ep t hkeep ho hex hd hf ?_ ?_
    · rw [hn, en, ed]
      have := dist_dk hg ks []
      simp only [List.map_nil, List.any_nil] at this
      rw [this]
    · have := dk_le ks (fun _ => false)
      omega
  unfold lenD at e
  split at e
  · rename_i hcond
    have en : n = (dist [] ds : Nat) := by
      injection e with e; injection e with e; injection e with e; exact e.symm
    obtain ⟨h1, h2⟩ := hcond
    rw [Bool.or_eq_true] at h2
    rcases h2 with h2 | h2
    · obtain ⟨xs, rfl⟩ := allKeyS h2
      rw [rds_strs rd] at rv
      refine scan (PySem.strKind X.prog X.w) xs PyData.str eqv_str rfl (by simpa using h1) (fun i v hv => ?_) en
      obtain ⟨y, hy, r⟩ := (show ∃ y, (xs.map V.str)[i]? = some y ∧ RelV y v from by
        have hlt : i < (xs.map V.str).length := by rw [rv.length]; exact (List.getElem?_eq_some_iff.mp hv).1
        obtain ⟨u, hu', ru⟩ := rv.get (List.getElem?_eq_getElem hlt)
        rw [hv] at hu'; cases hu'
        exact ⟨_, List.getElem?_eq_getElem hlt, ru⟩)
      rw [List.getElem?_map] at hy
      cases hx : xs[i]? with
      | none => rw [hx] at hy; cases hy
      | some x =>
        rw [hx] at hy
        cases hy
        obtain ⟨t, rfl⟩ := r
        exact ⟨x, rfl, strKind_is _ _ _ _, rfl⟩
    · obtain ⟨xs, rfl⟩ := allKeyI h2
      rw [rds_ints rd] at rv
      refine scan (PySem.intKind X.prog X.w) xs PyData.int eqv_int rfl (by simpa using h1) (fun i v hv => ?_) en
      obtain ⟨y, hy, r⟩ := (show ∃ y, (xs.map V.int)[i]? = some y ∧ RelV y v from by
        have hlt : i < (xs.map V.int).length := by rw [rv.length]; exact (List.getElem?_eq_some_iff.mp hv).1
        obtain ⟨u, hu', ru⟩ := rv.get (List.getElem?_eq_getElem hlt)
        rw [hv] at hu'; cases hu'
        exact ⟨_, List.getElem?_eq_getElem hlt, ru⟩)
      rw [List.getElem?_map] at hy
      cases hx : xs[i]? with
      | none => rw [hx] at hy; cases hy
      | some x =>
        rw [hx] at hy
        cases hy
        obtain ⟨t, rfl⟩ := r
        exact ⟨x, rfl, intKind_is _ _ _ _, rfl⟩
  · split at e
    · rename_i hcond
      obtain ⟨h1, h2, h3⟩ := hcond
      have en : n = (ds.length : Nat) := by
        injection e with e; injection e with e; injection e with e; exact e.symm
      obtain ⟨ks, rfl, ed, h4⟩ := tup_keys h2 rd
      have hkl : ds.length = ks.length := by rw [ed, List.length_map]
      have hd := (dist_all h3).2
      refine go _ (hash_fills (ks := ks) (fun i v hv => ?_) (fun p hp => inv_txk I (h4 p hp)) (by omega) fun i j p q hij hp hq he => ?_) fun h' tk hS hkeep => ?_
      · have hv : us[i]? = some v := by rw [← Array.getElem?_toList] at hv; exact hv
        have hlt : i < (ks.map fun p => V.ref p.1).length := by rw [rv.length]; exact (List.getElem?_eq_some_iff.mp hv).1
        obtain ⟨u, hu', ru⟩ := rv.get (List.getElem?_eq_getElem hlt)
        rw [hv] at hu'; cases hu'
        rw [List.length_map] at hlt
        refine ⟨ks[i], List.getElem?_eq_getElem hlt, ?_⟩
        simp only [List.getElem_map] at ru
        exact ru
      · have e1 : ds[i]? = some (PyData.tuple (p.2.map PyData.str)) := by rw [ed, List.getElem?_map, hp]; rfl
        have e2 : ds[j]? = some (PyData.tuple (q.2.map PyData.str)) := by rw [ed, List.getElem?_map, hq]; rfl
        have z := hd i j _ _ hij e1 e2
        rw [he] at z
        simp only [PyData.eqv, eqvAll_strs] at z
        cases z
      · obtain ⟨L, es, ep, t, R, pm⟩ := hS
        obtain ⟨o, ho, hex, hdat⟩ := R.ob
        have el : us.toArray.size = ks.length := by simp only [List.size_toArray]; rw [← lv, List.length_map]
        rw [el, List.take_length] at pm
        have hsz := tx_size R.rows
        have hpl := pm.length_eq
        have hfit := TxSet.fits (s := { s with heap := h' }) R
        exact q h' tk o es ep t hkeep ho hex hdat hfit (by rw [hsz, hpl, en, hkl]) (by omega)
    · cases e
theorem lenD_int {ds : List PyData} {z : Rv} (h : lenD ds = some z) : ∃ n : Int, z = .v (.int n) := by
  unfold lenD at h
  split at h
  · cases h; exact ⟨_, rfl⟩
  · split at h
    · cases h; exact ⟨_, rfl⟩
    · cases h
theorem qe_lenSet {a : Expr} {f : E} {p p2 q pos : Pos} (hc : X.calm = true) (hu : X.A.units + 64 < cLine) (hm : X.mg "len" = none) (hm2 : X.mg "set" = none) (ha : QE X W a f) (hg : Gl X "len" := by rfl) (hg2 : Gl X "set" := by rfl)
    (hs : starEach [a] X.env = (false, eval a X.env) :: starEach [] X.env := by rfl) : QE X W (.Call (.Name "len" p) [.Call (.Name "set" p2) [a] [] q] [] pos) (eLenSet f) := by
  refine ⟨fun pins s σ H Q I h => ?_⟩
  obtain ⟨δ, s0, w, O, rfl, r, h⟩ := h
  refine Call_ (ld_blt I hg hm PySem.boot_len ?_)
  refine PyProof.Rows.callWith_builtin1 (PyProof.Rows.args_cons ?_ rfl) rfl rfl
  refine Call_ (ld_blt I hg2 hm2 PyProof.Rows.boot_set ?_)
  refine PyProof.Rows.callWith_type1 (PyProof.Rows.args_cons ?_ hs) hs rfl
  have main := ha.run pins s σ w.H (fun x H1 => ∃ w1 p n s1, w1.H = H1 ∧ RelS X.K X.mg w1 s1 ∧ RB X.K w1 p x ∧ fLenSet p = some (.v (.int n)) ∧ Q (.int n) H1) I (wpE.intro r ((Post.bind0 h).mono fun r1 s1 w1 n1 rel1 p1 x rr1 => by
    obtain ⟨p, z, h1, h2, h3⟩ := giv1 p1 n1 rel1 rr1
    have hz : ∃ n : Int, z = .v (.int n) := by
      unfold fLenSet at h2
      split at h2
      · exact lenD_int h2
      · exact lenD_int h2
      · cases h2
    obtain ⟨n, rfl⟩ := hz
    exact ⟨w1, p, n, s1, rfl, rel1.st, h1, h2, h3.v (.int _)⟩))
  refine thn main fun v s1 ⟨x, H1, I1, r1, w1, pd, n, st1, e1, st, hx, hf, hq⟩ => PyProof.Rows.args_nil ?_
  subst e1
  have fin : ∀ (l : Addr) (ds : List PyData) (vs : List V) (us : List Value), x = .ref l → (s1.heap.IsList l us.toArray ∨ s1.heap.IsTuple l us.toArray) → Vals vs us → RDs X.K w1 ds vs → lenD ds = some (.v (.int n)) →
      wpAny (model X.prog X.w) X.A (call (.type "set") [v]) (fun v s => wpAny (model X.prog X.w) X.A (call (.builtin "len") [v]) (EP X pins σ Q) X.xe s) X.xe s1 := fun l ds vs us ex hl rv rd hd => by
    subst ex
    cases r1
    refine set_len hc hu I1 hl rv rd hd fun h' tk o es ep t hk ho hex hdat hfit hn hlt => ?_
    have I2 : Inv X pins σ w1.H { s1 with heap := h', toks := tk } := I1.kept fun b o e => hk b o e
    exact call_len_set ho hex hdat hfit (by omega) ⟨.int n, w1.H, I2.tok _, ⟨_, by rw [hn]⟩, hq⟩
  unfold fLenSet at hf
  split at hf
  · obtain ⟨l, vs, rfl, h1, h2, h3⟩ := hx.lst
    obtain ⟨us, rv, pl, _⟩ := I1.list (.of h1)
    exact wpAny_mono (fin l _ vs us rfl (.inl pl.isList) rv h3 hf) (fun u s2 hh => PyProof.Rows.args_nil hh) fun _ _ h => h
  · obtain ⟨l, vs, rfl, h1, h2, h3⟩ := hx.tup
    obtain ⟨us, rv, pl, _⟩ := I1.tuple h1
    exact wpAny_mono (fin l _ vs us rfl (.inr pl) rv h3 hf) (fun u s2 hh => PyProof.Rows.args_nil hh) fun _ _ h => h
  · cases hf
end
end Lay
namespace Lay
open PySem PySem.Spec PyProof.Rows L2
theorem walkEnd {law : PySem.W.OpenLaw} {most lev : Nat} {view : Program} {names : List Str} {XP : (Str → Option Value) → Heap → Prop} {YP : World → Heap → Prop} {rec : DefRec} {way : World → CXT} {par : Str}
    (h1 : law.most = some most) (h2 : most ≤ sizeLine) (h3 : rec.params.defaults = []) (h4 : Room lev callerA)
    (gives : ∀ (w : World) (mg : Str → Option Value) (a : Addr) (h : Heap), YP w h → h.Ns mainGlobals mg → mg rec.name = some (.ref a) → ∃ (K : PySem.W.Frag) (fd : FuncData) (sp : Sp), K.In h ∧
      (∀ (s : Shared) (u : Value), BindsTo s fd ⟨[u], []⟩ [(par, u)]) ∧ (∀ (H : Hp) (b : Addr) (ns : List Int), ns.length ≤ most → Only H → SqL K H b (ns.map V.int) → sp [.ref b] H (fun v _ => v = .bl true) fun _ _ _ => False) ∧
        ∀ base : Heap, K.In base → base.Ns mainGlobals mg → FnOk law.prog w K mg base (way w) lev a fd [par] sp)
    (none : ∀ (w : World) (H : Hp) (s : Shared) (e : Value) (s' : Shared), way w [] H s (fun _ _ _ => False) e s' → False) : PySem.W.WalkO view names XP YP law.row.toRowW rec [] (fun f vs => PySem.call f vs) := by
  refine Att.attach_call h1 h3 ?_
  intro w t0 t1 mg mb a o pm cd doc b vs ns G Y ho hdct hcode hmg hobj hnums hlen hgens
  obtain ⟨K0, fd0, sp0, k1, k2, k3, k4⟩ := gives w mg a _ Y G.T.g hmg
  exact law_call k1 G.T.g G.T.b G.T.builtins G.T.nolimit hgens hobj hnums (Nat.le_trans hlen h2) h4 k4 k2 (fun H only at_ => k3 H b ns hlen only at_) (fun H e s' => none w H t1 e s')
theorem factM {fa : List He.Fa} {fn : List He.DefD} {K : PySem.W.Frag} (c : He.SaysD fa fn K) {f : He.Fa} (h : f ∈ fa) : f.ok K = true := by
  have q := (He.ba (show ((fa.all fun f => f.ok K) && fn.all fun d => d.ok K) = true from congrArg Prod.fst c)).1
  exact List.all_eq_true.mp q f h
end Lay
namespace Lay
open PySem PySem.Spec PyProof.Rows L2
theorem bind_first {α β : Type} {o o' : Out α} (k : α → Sto → Out β) (h : o = o') : o.bind k = o'.bind k := by rw [h]
@[simp] theorem bind_okS {α β : Type} {a : α} {s : Sto} {k : α → Sto → Out β} : (Out.ok a s).bind k = k a s := rfl
@[simp] theorem bind_exS {α β : Type} {c : Str} {fs : List (Str × PyData)} {s : Sto} {k : α → Sto → Out β} : (Out.ex c fs s : Out α).bind k = .ex c fs s := rfl
@[simp] theorem bind_badS {α β : Type} {k : α → Sto → Out β} : (Out.bad : Out α).bind k = .bad := rfl
section
variable {f g : S} {δ δ' : List Sl} {s s' : Sto}
theorem seq_nx (h : f δ s = .ok (.nx δ') s') : sSeq f g δ s = g δ' s' := by show (f δ s).bind _ = _; rw [h]; rfl
theorem seq_ret {r : Rv} (h : f δ s = .ok (.ret r) s') : sSeq f g δ s = .ok (.ret r) s' := by show (f δ s).bind _ = _; rw [h]; rfl
theorem seq_assoc {h : S} : sSeq f (sSeq g h) δ s = sSeq (sSeq f g) h δ s := by
  show (f δ s).bind _ = ((f δ s).bind _).bind _
  cases f δ s with
  | ok fl s1 => cases fl <;> rfl
  | ex c fs s1 => rfl
  | bad => rfl
theorem seq3 {k l : S} (h : sSeq f (sSeq g k) δ s = .ok (.nx δ') s') : sSeq f (sSeq g (sSeq k l)) δ s = l δ' s' := by
  have e : sSeq f (sSeq g (sSeq k l)) δ s = sSeq (sSeq f (sSeq g k)) l δ s := by
    rw [seq_assoc, seq_assoc]
    show Out.bind (sSeq (sSeq f g) k δ s) _ = Out.bind (sSeq f (sSeq g k) δ s) _
    rw [← seq_assoc]
  rw [e, seq_nx h]
theorem run_ret {d : S} {m : Nat} {as : List Rv} {r : Rv} (h : d (as.map slOf ++ List.replicate (m - as.length) .un) s = .ok (.ret r) s') : runF d m as s = .ok r s' := by unfold runF; rw [h]
theorem run_nx {d : S} {m : Nat} {as : List Rv} (h : d (as.map slOf ++ List.replicate (m - as.length) .un) s = .ok (.nx δ') s') : runF d m as s = .ok (.v .none) s' := by unfold runF; rw [h]
theorem for_go {it : IL} {gd : GD} {ds : List PyData} (h : it δ s = .ok (true, ds) s') : sFor it gd f δ s = forL gd f ds δ s' := by show (it δ s).bind _ = _; rw [h]; rfl
theorem forL_nil {gd : GD} : forL gd f [] δ s = .ok (.nx δ) s := rfl
theorem forL_nx {gd : GD} {d : PyData} {ds : List PyData} {δ1 δ2 : List Sl} (hg : gd d δ = some δ1) (h : f δ1 s = .ok (.nx δ2) s') : forL gd f (d :: ds) δ s = forL gd f ds δ2 s' := by
  show (match gd d δ with | none => Out.bad | some δ1 => _) = _
  rw [hg]
  show (f δ1 s).bind _ = _
  rw [h]; rfl
theorem forL_ret {gd : GD} {d : PyData} {ds : List PyData} {δ1 : List Sl} {r : Rv} (hg : gd d δ = some δ1) (h : f δ1 s = .ok (.ret r) s') : forL gd f (d :: ds) δ s = .ok (.ret r) s' := by
  show (match gd d δ with | none => Out.bad | some δ1 => _) = _
  rw [hg]
  show (f δ1 s).bind _ = _
  rw [h]; rfl
end
theorem nr {α : Sort _} {a b : α} (h : a = b) : a = b := h
theorem lcL_map {g : GD} {t : T} {e : E} {δ : List Sl} {s : Sto} (F : PyData → PyData) : ∀ ds : List PyData, (∀ d ∈ ds, ∃ δ1, g d δ = some δ1 ∧ t δ1 s = .ok true s ∧ e δ1 s = .ok (.v (F d)) s) → lcL g t e δ ds s = .ok (ds.map F) s
  | [], _ => rfl
  | d :: ds, h => by
    obtain ⟨δ1, h1, h2, h3⟩ := h d (List.mem_cons_self ..)
    have ih := lcL_map (g := g) (t := t) (e := e) (δ := δ) (s := s) F ds fun x hx => h x (List.mem_cons_of_mem _ hx)
    unfold lcL
    rw [h1]
    simp only [h2, h3, ih, bind_okS, Rv.sh, if_true, List.map_cons]
theorem atN {α : Type} {xs : List α} {n : Nat} {a : α} (h : xs[n]? = some a) : atI xs (n : Int) = some a := by
  have hl := (List.getElem?_eq_some_iff.mp h).1
  unfold atI ixN
  rw [if_pos (by omega), if_pos (by omega)]
  simpa using h
section
variable {f g : S} {a b c e : E} {t u : T} {al : AL} {it : IL} {δ : List Sl} {s : Sto}
@[simp] theorem lim_v : lim = 16777216 := nr rfl
@[simp] theorem r_seq : sSeq f g δ s = (f δ s).bind fun fl s1 => match fl with | .nx δ1 => g δ1 s1 | fl => .ok fl s1 := nr rfl
@[simp] theorem r_next : sNext δ s = .ok (.nx δ) s := nr rfl
@[simp] theorem r_expr : sExpr a δ s = (a δ s).bind fun _ s1 => .ok (.nx δ) s1 := nr rfl
@[simp] theorem r_if : sIf t f g δ s = (t δ s).bind fun b s1 => if b then f δ s1 else g δ s1 := nr rfl
@[simp] theorem r_ret : sRet a δ s = (a δ s).bind fun z s1 => match z with | .bo _ => .bad | z => .ok (.ret z) s1 := nr rfl
@[simp] theorem r_asg {i : Nat} {m : Bool} : sAsg i m a δ s = (a δ s).bind fun z s1 => stO (setAll [(i, m)] [z] δ) s1 := nr rfl
@[simp] theorem r_par {is : List (Nat × Bool)} : sPar is al δ s = (al δ s).bind fun zs s1 => stO (setAll is zs δ) s1 := nr rfl
@[simp] theorem r_unp {gd : GD} : sUnp gd a δ s = (a δ s).bind fun z s1 => match z with | .v d => stO (gd d δ) s1 | _ => .bad := nr rfl
@[simp] theorem r_stO {δ' : List Sl} : stO (some δ') s = .ok (.nx δ') s := nr rfl
@[simp] theorem r_slM0 {m : Bool} {p : PyData} : slM m (.v p) = some (.v p) := nr rfl
@[simp] theorem r_slM1 {p : PyData} : slM true (.fr p) = some (.own p) := nr rfl
@[simp] theorem r_slM2 {p : PyData} : slM false (.fr p) = some (.v p) := nr rfl
@[simp] theorem r_setAll0 : setAll [] [] δ = some δ := nr rfl
@[simp] theorem r_setAll {i : Nat} {m : Bool} {is : List (Nat × Bool)} {z : Rv} {zs : List Rv} : setAll ((i, m) :: is) (z :: zs) δ = (slM m z).bind fun q => setAll is zs (δ.set i q) := nr rfl
@[simp] theorem r_nm {i : Nat} {d : PyData} : gNm i d δ = some (δ.set i (.v d)) := nr rfl
@[simp] theorem r_tp {gs : List GD} {ds : List PyData} : gTp gs (.tuple ds) δ = gsL gs ds δ := nr rfl
@[simp] theorem r_gs0 : gsL [] [] δ = some δ := nr rfl
@[simp] theorem r_gs {gd : GD} {gs : List GD} {d : PyData} {ds : List PyData} : gsL (gd :: gs) (d :: ds) δ = (gd d δ).bind fun δ1 => gsL gs ds δ1 := nr rfl
@[simp] theorem r_var {i : Nat} : eVar i δ s = match δ[i]? with
  | some (.v p) => .ok (.v p) s
  | some (.own p) => .ok (.bo p) s
  | some (.ref l) => .ok (.ref l) s
  | some (.fn x) => .ok (.fn x) s
  | some (.scr ns) => .ok (.scr ns) s
  | _ => .bad := nr rfl
@[simp] theorem r_c {p : PyData} : eC p δ s = .ok (.v p) s := nr rfl
@[simp] theorem r_bin {F : PyData → PyData → Option Rv} : eBin F a b δ s = (a δ s).bind fun r s1 => (b δ s1).bind fun r' s2 => fin2 F r r' s2 := nr rfl
@[simp] theorem r_ix : eIx a b δ s = (a δ s).bind fun r s1 => (b δ s1).bind fun r' s2 => fin2 opIx r r' s2 := nr rfl
@[simp] theorem r_un {F : PyData → Option Rv} : eUn F a δ s = (a δ s).bind fun r s1 => fin1 F r s1 := nr rfl
@[simp] theorem r_bi {F : List PyData → Option Rv} : eBi F al δ s = (al δ s).bind fun rs s1 => finL F rs s1 := nr rfl
@[simp] theorem r_anil : aNil δ s = .ok [] s := nr rfl
@[simp] theorem r_acons : aCons a al δ s = (a δ s).bind fun r s1 => (al δ s1).bind fun rs s2 => .ok (r :: rs) s2 := nr rfl
@[simp] theorem r_and : eAnd a b δ s = (a δ s).bind fun r s1 => (asB r s1).bind fun c s2 => if c then b δ s2 else .ok (vB false) s2 := nr rfl
@[simp] theorem r_or : eOr a b δ s = (a δ s).bind fun r s1 => (asB r s1).bind fun c s2 => if c then .ok (vB true) s2 else b δ s2 := nr rfl
@[simp] theorem r_not : eNot a δ s = (a δ s).bind fun r s1 => (asB r s1).bind fun c s2 => .ok (vB (!c)) s2 := nr rfl
@[simp] theorem r_isn {p : PyData} (h : a δ s = .ok (.v p) s) : eIsN a δ s = .ok (vB (isNone p)) s := by unfold eIsN; rw [h]; rfl
@[simp] theorem r_notn {p : PyData} (h : a δ s = .ok (.v p) s) : eNotN a δ s = .ok (vB (!isNone p)) s := by unfold eNotN; rw [h]; rfl
@[simp] theorem r_isi {ty : Ty} {p : PyData} (h : a δ s = .ok (.v p) s) : eIsi ty a δ s = .ok (vB (isiD ty p)) s := by unfold eIsi eUn; rw [h]; rfl
@[simp] theorem r_val : tVal a δ s = (a δ s).bind asB := nr rfl
@[simp] theorem r_nt : tNt t δ s = (t δ s).bind fun c s1 => .ok (!c) s1 := nr rfl
@[simp] theorem r_an : tAn t u δ s = (t δ s).bind fun c s1 => if c then u δ s1 else .ok false s1 := nr rfl
@[simp] theorem r_o : tO t u δ s = (t δ s).bind fun c s1 => if c then .ok true s1 else u δ s1 := nr rfl
@[simp] theorem r_tt : tTrue δ s = .ok true s := nr rfl
@[simp] theorem r_eif : eIf t a b δ s = (t δ s).bind fun k s1 => if k then a δ s1 else b δ s1 := nr rfl
@[simp] theorem r_chain {F G : PyData → PyData → Option Rv} : eChain F G a b c δ s = (a δ s).bind fun r s1 => (b δ s1).bind fun r' s2 => (fin2 F r r' s2).bind fun z s3 => match z with
  | .v (.bool true) => (c δ s3).bind fun r'' s4 => fin2 G r' r'' s4
  | .v (.bool false) => .ok (vB false) s3
  | _ => .bad := nr rfl
@[simp] theorem r_asB {k : Bool} : asB (.v (.bool k)) s = .ok k s := nr rfl
@[simp] theorem r_asB' {k : Bool} : asB (vB k) s = .ok k s := nr rfl
@[simp] theorem r_pdv {p : PyData} : (Rv.v p).pd s = some p := nr rfl
@[simp] theorem r_pdf {p : PyData} : (Rv.fr p).pd s = some p := nr rfl
@[simp] theorem r_pdb {p : PyData} : (Rv.bo p).pd s = some p := nr rfl
@[simp] theorem r_pdr {l : Nat} : (Rv.ref l).pd s = match s[l]? with
    | some (.lst ds) => some (.list ds)
    | _ => none := nr rfl
@[simp] theorem r_vB {k : Bool} : vB k = .v (.bool k) := nr rfl
@[simp] theorem r_pdk {k : Bool} : (vB k).pd s = some (.bool k) := nr rfl
@[simp] theorem r_fin1 {F : PyData → Option Rv} {r : Rv} : fin1 F r s = match r.pd s with
  | some p => oOf (F p) s
  | none => .bad := nr rfl
@[simp] theorem r_fin2 {F : PyData → PyData → Option Rv} {r r' : Rv} : fin2 F r r' s = match r.pd s, r'.pd s with
  | some p, some q => oOf (F p q) s
  | _, _ => .bad := nr rfl
@[simp] theorem r_finL {F : List PyData → Option Rv} {rs : List Rv} : finL F rs s = match pds s rs with
  | some ps => oOf (F ps) s
  | none => .bad := nr rfl
@[simp] theorem r_pds0 : pds s [] = some [] := nr rfl
@[simp] theorem r_pds {r : Rv} {rs : List Rv} : pds s (r :: rs) = match r.pd s, pds s rs with
    | some p, some ps => some (p :: ps)
    | _, _ => none := nr rfl
@[simp] theorem r_oOf {z : Rv} : oOf (some z) s = .ok z s := nr rfl
@[simp] theorem r_shv {p : PyData} : (Rv.v p).sh = some p := nr rfl
@[simp] theorem r_shf {p : PyData} : (Rv.fr p).sh = some p := nr rfl
@[simp] theorem r_shs0 : shs [] = some [] := nr rfl
@[simp] theorem r_shs {r : Rv} {rs : List Rv} : shs (r :: rs) = match r.sh, shs rs with
    | some p, some ps => some (p :: ps)
    | _, _ => none := nr rfl
@[simp] theorem r_tup : eTup al δ s = (al δ s).bind mkTup := nr rfl
@[simp] theorem r_lst : eLst al δ s = (al δ s).bind mkLst := nr rfl
@[simp] theorem r_call {n : Nat} {F : Fd} : eCall n F al δ s = (al δ s).bind fun rs s1 => match shL rs with
  | some as => if as.length = n then F as s1 else .bad
  | none => .bad := nr rfl
@[simp] theorem r_shL0 : shL [] = some [] := nr rfl
@[simp] theorem r_shL {r : Rv} {rs : List Rv} : shL (r :: rs) = match shr r, shL rs with
    | some r', some rs' => some (r' :: rs')
    | _, _ => none := nr rfl
@[simp] theorem r_shr0 {p : PyData} : shr (.v p) = some (.v p) := nr rfl
@[simp] theorem r_shr1 {p : PyData} : shr (.fr p) = some (.v p) := nr rfl
@[simp] theorem r_shr2 {l : Nat} : shr (.ref l) = some (.ref l) := nr rfl
@[simp] theorem r_shr3 {ns : List Int} : shr (.scr ns) = some (.scr ns) := nr rfl
@[simp] theorem r_run {d : S} {m : Nat} {as : List Rv} : runF d m as s = match d (as.map slOf ++ List.replicate (m - as.length) .un) s with
  | .ok (.nx _) s' => .ok (.v .none) s'
  | .ok (.ret r) s' => .ok r s'
  | .ex c fs s' => .ex c fs s'
  | _ => .bad := nr rfl
@[simp] theorem r_sl0 {p : PyData} : slOf (.v p) = .v p := nr rfl
@[simp] theorem r_sl1 {l : Nat} : slOf (.ref l) = .ref l := nr rfl
@[simp] theorem r_sl2 {ns : List Int} : slOf (.scr ns) = .scr ns := nr rfl
@[simp] theorem r_setC : sSetC a b c δ s = (c δ s).bind fun z s1 => (a δ s1).bind fun o s2 => (b δ s2).bind fun k s3 => match o, k, z.sh with
  | .ref l, .v (.int j), some p => match s3[l]? with
    | some (.lst ds) => match ixN ds.length j with
      | some n => .ok (.nx δ) (s3.set l (.lst (ds.set n p)))
      | none => .bad
    | _ => .bad
  | _, _, _ => .bad := nr rfl
@[simp] theorem r_isrc : iSrc a δ s = (a δ s).bind fun r s1 => match srcD r with
  | some z => .ok z s1
  | none => .bad := nr rfl
@[simp] theorem r_for {gd : GD} : sFor it gd f δ s = (it δ s).bind fun z s1 => if z.1 then forL gd f z.2 δ s1 else .bad := nr rfl
@[simp] theorem r_add {i j : Int} : opAdd (.int i) (.int j) = some (.v (.int (i + j))) := nr rfl
@[simp] theorem r_sub {i j : Int} : opSub (.int i) (.int j) = some (.v (.int (i - j))) := nr rfl
@[simp] theorem r_lt {i j : Int} : opLt (.int i) (.int j) = some (vB (decide (i < j))) := nr rfl
@[simp] theorem r_le {i j : Int} : opLe (.int i) (.int j) = some (vB (decide (i ≤ j))) := nr rfl
@[simp] theorem r_gt {i j : Int} : opGt (.int i) (.int j) = some (vB (decide (j < i))) := nr rfl
@[simp] theorem r_ge {i j : Int} : opGe (.int i) (.int j) = some (vB (decide (j ≤ i))) := nr rfl
@[simp] theorem r_ixl {ds : List PyData} {i : Int} : opIx (.list ds) (.int i) = (atI ds i).map .v := nr rfl
@[simp] theorem r_ixt {ds : List PyData} {i : Int} : opIx (.tuple ds) (.int i) = (atI ds i).map .v := nr rfl
theorem r_mod {i j : Int} (h : 0 < j) : opMod (.int i) (.int j) = some (.v (.int (i % j))) := if_pos h
theorem r_fdiv {i j : Int} (h : 0 < j) (h' : j < 1073741824) : opFdiv (.int i) (.int j) = some (.v (.int (i / j))) := if_pos ⟨h, h'⟩
@[simp] theorem r_fint {i : Int} : fInt [.int i] = some (.v (.int i)) := nr rfl
@[simp] theorem r_flen0 {ds : List PyData} : fLen [.list ds] = some (.v (.int ds.length)) := nr rfl
@[simp] theorem r_flen1 {ds : List PyData} : fLen [.tuple ds] = some (.v (.int ds.length)) := nr rfl
@[simp] theorem r_flen2 {x : Str} : fLen [.str x] = some (.v (.int x.length)) := nr rfl
@[simp] theorem r_ftup0 {ds : List PyData} : fTuple [.list ds] = some (.v (.tuple ds)) := nr rfl
@[simp] theorem r_ftup1 {ds : List PyData} : fTuple [.tuple ds] = some (.v (.tuple ds)) := nr rfl
@[simp] theorem r_eqi {i j : Int} : opEq (.int i) (.int j) = some (vB (decide (i = j))) := by
  have e : PyData.eqv (.int i) (.int j) = decide (i = j) := by simp only [PyData.eqv]; rfl
  unfold opEq; rw [e]; rfl
@[simp] theorem r_nei {i j : Int} : opNe (.int i) (.int j) = some (vB (!decide (i = j))) := by
  have e : PyData.eqv (.int i) (.int j) = decide (i = j) := by simp only [PyData.eqv]; rfl
  unfold opNe; rw [e]; rfl
theorem r_range1 {j : Int} {s' : Sto} (h : a δ s = .ok (.v (.int j)) s') (h0 : 0 ≤ j) (h1 : j < 1000000000) : iRange1 a δ s = .ok (true, intsD 0 j.toNat) s' := by
  show (a δ s).bind _ = _
  rw [h]
  show (if -(2 ^ 62) ≤ j ∧ j < 2 ^ 62 then _ else _) = _
  rw [if_pos ⟨by omega, by omega⟩]
@[simp] theorem r_mktup {rs : List Rv} : mkTup rs s = match shs rs with
  | some ps => if ps.length ≤ lim then .ok (.v (.tuple ps)) s else .bad
  | none => .bad := nr rfl
@[simp] theorem r_mklst {rs : List Rv} : mkLst rs s = match shs rs with
  | some ps => if ps.length ≤ lim then .ok (.fr (.list ps)) s else .bad
  | none => .bad := nr rfl
theorem mkTup_ok {rs : List Rv} {ps : List PyData} (h : shs rs = some ps) (hl : ps.length ≤ lim) : mkTup rs s = .ok (.v (.tuple ps)) s := by unfold mkTup; rw [h]; simp only [if_pos hl]
theorem mkLst_ok {rs : List Rv} {ps : List PyData} (h : shs rs = some ps) (hl : ps.length ≤ lim) : mkLst rs s = .ok (.fr (.list ps)) s := by unfold mkLst; rw [h]; simp only [if_pos hl]
end
end Lay
namespace G
open PySem PySem.Spec PyProof.Rows L2 Lay
abbrev top (i : Nat) : Stmt := PySem.Challenge.pw_wordsrest_k52_whole_powers_of_elements.main.body.getD i (.Pass ⟨0, 0, 0, 0⟩)
def bn : List Str := ["abs", "all", "any", "bool", "enumerate", "int", "isinstance", "len", "list", "range", "set", "sorted", "str", "tuple", "zip"]
abbrev s__law_cup : Stmt := top 60
abbrev N__law_cup : List Str := ["script", "cell"]
abbrev P__law_cup : List Str := ["script"]
def d__law_cup : S := (sSeq (sAsg 1 false (eBi fAbs (aCons (eIx (eBin opAdd (eScr 0) (eLst (aCons (eC (.int 0)) aNil))) (eC (.int 0))) aNil))) (sRet (eLst (aCons (eIf (tVal (eBin opGe (eVar 1) (eBin opPow (eC (.int 10)) (eC (.int 18))))) (eBin opFdiv (eVar 1) (eC (.int 109))) (eC (.int 0))) (aCons (eBin opAdd (eBin opMod (eBi fInt (aCons (eBin opAdd (eBin opMul (eVar 1) (eC (.int 509))) (eC (.int 4513))) aNil)) (eC (.int 2077411007))) (eC (.int 241))) aNil)))))
def F__law_cup : Fd := runF d__law_cup 2
abbrev s_is_tuple_of : Stmt := top 11
abbrev N_is_tuple_of : List Str := ["value", "low", "high"]
abbrev P_is_tuple_of : List Str := ["value", "low", "high"]
def d_is_tuple_of : S := (sRet (eAnd (eIsi .tup (eVar 0)) (eChain opLe opLe (eVar 1) (eBi fLen (aCons (eVar 0) aNil)) (eVar 2))))
def F_is_tuple_of : Fd := runF d_is_tuple_of 3
abbrev s_fits_whole : Stmt := top 12
abbrev N_fits_whole : List Str := ["value", "low", "high"]
abbrev P_fits_whole : List Str := ["value", "low", "high"]
def d_fits_whole : S := (sRet (eAnd (eIsi .int (eVar 0)) (eAnd (eNot (eIsi .bool (eVar 0))) (eChain opLe opLe (eVar 1) (eVar 0) (eVar 2)))))
def F_fits_whole : Fd := runF d_fits_whole 3
abbrev s_fits_letters : Stmt := top 13
abbrev N_fits_letters : List Str := ["value", "size", "low", "high", "letter"]
abbrev P_fits_letters : List Str := ["value", "size", "low", "high"]
def d_fits_letters : S := (sRet (eAnd (eIsi .str (eVar 0)) (eAnd (eChain opLe opLe (eVar 2) (eBi fLen (aCons (eVar 0) aNil)) (eVar 3)) (eBi fAll (aCons (eLc [4] (iSrc (eVar 0)) (gNm 4) tTrue (eBin opIn (eVar 4) (eSl (eC (.str ⟨#[97, 98, 99, 100]⟩)) oNone (oSome (eVar 1))))) aNil)))))
def F_fits_letters : Fd := runF d_fits_letters 5
abbrev s_fits_rule : Stmt := top 14
abbrev N_fits_rule : List Str := ["size", "value"]
abbrev P_fits_rule : List Str := ["size", "value"]
def d_fits_rule : S := (sSeq (sIf (tO (tNt (tVal (eCall 3 F_is_tuple_of (aCons (eVar 1) (aCons (eC (.int 2)) (aCons (eC (.int 2)) aNil)))))) (tNt (tVal (eCall 4 F_fits_letters (aCons (eIx (eVar 1) (eC (.int 0))) (aCons (eVar 0) (aCons (eC (.int 1)) (aCons (eC (.int 6)) aNil)))))))) (sRet (eC (.bool false))) sNext) (sRet (eAnd (eCall 4 F_fits_letters (aCons (eIx (eVar 1) (eC (.int 1))) (aCons (eVar 0) (aCons (eC (.int 0)) (aCons (eC (.int 6)) aNil))))) (eBin opNe (eIx (eVar 1) (eC (.int 0))) (eIx (eVar 1) (eC (.int 1)))))))
def F_fits_rule : Fd := runF d_fits_rule 2
abbrev s_fits_system : Stmt := top 15
abbrev N_fits_system : List Str := ["value", "size", "rules", "rule"]
abbrev P_fits_system : List Str := ["value"]
def d_fits_system : S := (sSeq (sIf (tO (tNt (tVal (eCall 3 F_is_tuple_of (aCons (eVar 0) (aCons (eC (.int 2)) (aCons (eC (.int 2)) aNil)))))) (tNt (tVal (eCall 3 F_fits_whole (aCons (eIx (eVar 0) (eC (.int 0))) (aCons (eC (.int 1)) (aCons (eBi fLen (aCons (eC (.str ⟨#[97, 98, 99, 100]⟩)) aNil)) aNil))))))) (sRet (eC (.bool false))) sNext) (sSeq (sUnp (gTp [(gNm 1), (gNm 2)]) (eVar 0)) (sSeq (sIf (tO (tNt (tVal (eCall 3 F_is_tuple_of (aCons (eVar 2) (aCons (eC (.int 1)) (aCons (eC (.int 8)) aNil)))))) (tNt (tVal (eBi fAll (aCons (eLc [3] (iSrc (eVar 2)) (gNm 3) tTrue (eCall 2 F_fits_rule (aCons (eVar 1) (aCons (eVar 3) aNil)))) aNil))))) (sRet (eC (.bool false))) sNext) (sRet (eBin opEq (eLenSet (eVar 2)) (eBi fLen (aCons (eVar 2) aNil)))))))
def F_fits_system : Fd := runF d_fits_system 4
abbrev s_need_system : Stmt := top 17
abbrev N_need_system : List Str := ["value"]
abbrev P_need_system : List Str := ["value"]
def d_need_system : S := (sIf (tNt (tVal (eCall 1 F_fits_system (aCons (eVar 0) aNil)))) sBad sNext)
def F_need_system : Fd := runF d_need_system 1
abbrev s_key_of : Stmt := top 39
abbrev N_key_of : List Str := ["word"]
abbrev P_key_of : List Str := ["word"]
def d_key_of : S := (sRet (eTup (aCons (eBi fLen (aCons (eVar 0) aNil)) (aCons (eVar 0) aNil))))
def F_key_of : Fd := runF d_key_of 1
abbrev s_directed_in : Stmt := top 40
abbrev N_directed_in : List Str := ["system", "left", "right"]
abbrev P_directed_in : List Str := ["system"]
def d_directed_in : S := (sRet (eBi fAll (aCons (eLc [1, 2] (iSrc (eIx (eVar 0) (eC (.int 1)))) (gTp [(gNm 1), (gNm 2)]) tTrue (eBin opGt (eCall 1 F_key_of (aCons (eVar 1) aNil)) (eCall 1 F_key_of (aCons (eVar 2) aNil)))) aNil)))
def F_directed_in : Fd := runF d_directed_in 3
abbrev s_reduced_in : Stmt := top 41
abbrev N_reduced_in : List Str := ["system", "lefts", "left", "right", "at", "there", "other", "own"]
abbrev P_reduced_in : List Str := ["system"]
def d_reduced_in : S := (sSeq (sAsg 1 false (eLc [2, 3] (iSrc (eIx (eVar 0) (eC (.int 1)))) (gTp [(gNm 2), (gNm 3)]) tTrue (eVar 2))) (sSeq (sIf (tVal (eBi fAny (aCons (eLc2 [4, 2, 5, 6] [5, 6] (iEnum (eVar 1)) (gTp [(gNm 4), (gNm 2)]) tTrue (iEnum (eVar 1)) (gTp [(gNm 5), (gNm 6)]) (tVal (eBin opNe (eVar 5) (eVar 4))) (eBin opIn (eVar 6) (eVar 2))) aNil))) (sRet (eC (.bool false))) sNext) (sRet (eNot (eBi fAny (aCons (eLc2 [2, 7, 3] [7, 3] (iSrc (eVar 1)) (gNm 2) tTrue (iSrc (eIx (eVar 0) (eC (.int 1)))) (gTp [(gNm 7), (gNm 3)]) tTrue (eBin opIn (eVar 2) (eVar 3))) aNil))))))
def F_reduced_in : Fd := runF d_reduced_in 8
abbrev s_agrees : Stmt := top 31
abbrev N_agrees : List Str := ["left", "other", "place", "one", "two"]
abbrev P_agrees : List Str := ["left", "other", "place"]
def d_agrees : S := (sRet (eBi fAll (aCons (eLc [3, 4] (iZip (eSl (eVar 0) (oSome (eVar 2)) oNone) (eVar 1)) (gTp [(gNm 3), (gNm 4)]) tTrue (eBin opEq (eVar 3) (eVar 4))) aNil)))
def F_agrees : Fd := runF d_agrees 5
abbrev s_overlaps_in : Stmt := top 32
abbrev N_overlaps_in : List Str := ["system", "rows", "found", "one", "other", "left", "there", "begin", "place", "right", "back"]
abbrev P_overlaps_in : List Str := ["system"]
def d_overlaps_in : S := (sSeq (sAsg 1 false (eLc2 [3, 5, 9, 4, 6, 10] [4, 6, 10] (iEnum (eIx (eVar 0) (eC (.int 1)))) (gTp [(gNm 3), (gTp [(gNm 5), (gNm 9)])]) tTrue (iEnum (eIx (eVar 0) (eC (.int 1)))) (gTp [(gNm 4), (gTp [(gNm 6), (gNm 10)])]) tTrue (eTup (aCons (eVar 3) (aCons (eVar 4) (aCons (eVar 5) (aCons (eVar 6) aNil))))))) (sSeq (sAsg 2 true (eLst aNil)) (sSeq (sFor (iSrc (eVar 1)) (gTp [(gNm 3), (gNm 4), (gNm 5), (gNm 6)]) (sSeq (sAsg 7 false (eIf (tVal (eBin opLt (eVar 3) (eVar 4))) (eC (.int 0)) (eC (.int 1)))) (sExtO 2 (eLc [8] (iRange2 (eVar 7) (eBi fLen (aCons (eVar 5) aNil))) (gNm 8) (tVal (eCall 3 F_agrees (aCons (eVar 5) (aCons (eVar 6) (aCons (eVar 8) aNil))))) (eTup (aCons (eVar 3) (aCons (eVar 4) (aCons (eVar 8) aNil)))))))) (sRetO 2))))
def F_overlaps_in : Fd := runF d_overlaps_in 11
abbrev s_places_in : Stmt := top 16
abbrev N_places_in : List Str := ["part", "word", "at"]
abbrev P_places_in : List Str := ["part", "word"]
def d_places_in : S := (sRet (eLc [2] (iRange1 (eBin opAdd (eBin opSub (eBi fLen (aCons (eVar 1) aNil)) (eBi fLen (aCons (eVar 0) aNil))) (eC (.int 1)))) (gNm 2) (tVal (eBin opEq (eSl (eVar 1) (oSome (eVar 2)) (oSome (eBin opAdd (eVar 2) (eBi fLen (aCons (eVar 0) aNil))))) (eVar 0))) (eVar 2)))
def F_places_in : Fd := runF d_places_in 3
abbrev s_steps_in : Stmt := top 23
abbrev N_steps_in : List Str := ["system", "word", "rows", "place", "number", "left", "right"]
abbrev P_steps_in : List Str := ["system", "word"]
def d_steps_in : S := (sSeq (sAsg 2 false (eLc2 [4, 5, 6, 3] [3] (iEnum (eIx (eVar 0) (eC (.int 1)))) (gTp [(gNm 4), (gTp [(gNm 5), (gNm 6)])]) tTrue (iSrc (eCall 2 F_places_in (aCons (eVar 5) (aCons (eVar 1) aNil)))) (gNm 3) tTrue (eTup (aCons (eVar 3) (aCons (eVar 4) aNil))))) (sRet (eBi fSorted (aCons (eVar 2) aNil))))
def F_steps_in : Fd := runF d_steps_in 7
abbrev s_first_in : Stmt := top 25
abbrev N_first_in : List Str := ["system", "word", "rows"]
abbrev P_first_in : List Str := ["system", "word"]
def d_first_in : S := (sSeq (sAsg 2 false (eCall 2 F_steps_in (aCons (eVar 0) (aCons (eVar 1) aNil)))) (sRet (eIf (tVal (eBin opNe (eVar 2) (eLst aNil))) (eIx (eVar 2) (eC (.int 0))) (eC .none))))
def F_first_in : Fd := runF d_first_in 3
abbrev s_behind_in : Stmt := top 24
abbrev N_behind_in : List Str := ["system", "word", "step", "left", "right"]
abbrev P_behind_in : List Str := ["system", "word", "step"]
def d_behind_in : S := (sSeq (sUnp (gTp [(gNm 3), (gNm 4)]) (eIx (eIx (eVar 0) (eC (.int 1))) (eIx (eVar 2) (eC (.int 1))))) (sRet (eBin opAdd (eBin opAdd (eSl (eVar 1) oNone (oSome (eIx (eVar 2) (eC (.int 0))))) (eVar 4)) (eSl (eVar 1) (oSome (eBin opAdd (eIx (eVar 2) (eC (.int 0))) (eBi fLen (aCons (eVar 3) aNil)))) oNone))))
def F_behind_in : Fd := runF d_behind_in 5
abbrev s_rest_in : Stmt := top 26
abbrev N_rest_in : List Str := ["system", "word", "done", "step"]
abbrev P_rest_in : List Str := ["system", "word"]
def d_rest_in : S := (sSeq (sPar [(2, true), (3, false)] (aCons (eLst aNil) (aCons (eCall 2 F_first_in (aCons (eVar 0) (aCons (eVar 1) aNil))) aNil))) (sSeq (whileL (tVal (eNotN (eVar 3))) (sSeq (sAsg 1 false (eCall 3 F_behind_in (aCons (eVar 0) (aCons (eVar 1) (aCons (eVar 3) aNil))))) (sSeq (sAppO 2 (eVar 3)) (sSeq (sIf (tO (tVal (eBin opGt (eBi fLen (aCons (eVar 2) aNil)) (eC (.int 500)))) (tVal (eBin opGt (eBi fLen (aCons (eVar 1) aNil)) (eC (.int 200))))) sBad sNext) (sAsg 3 false (eCall 2 F_first_in (aCons (eVar 0) (aCons (eVar 1) aNil))))))) 3000) (sFrz 2 (sRet (eTup (aCons (eVar 2) (aCons (eVar 1) aNil)))))))
def F_rest_in : Fd := runF d_rest_in 4
abbrev s_word_in : Stmt := top 33
abbrev N_word_in : List Str := ["system", "overlap", "left", "other"]
abbrev P_word_in : List Str := ["system", "overlap"]
def d_word_in : S := (sSeq (sPar [(2, false), (3, false)] (aCons (eIx (eIx (eIx (eVar 0) (eC (.int 1))) (eIx (eVar 1) (eC (.int 0)))) (eC (.int 0))) (aCons (eIx (eIx (eIx (eVar 0) (eC (.int 1))) (eIx (eVar 1) (eC (.int 1)))) (eC (.int 0))) aNil))) (sRet (eBin opAdd (eVar 2) (eSl (eVar 3) (oSome (eBin opSub (eBi fLen (aCons (eVar 2) aNil)) (eIx (eVar 1) (eC (.int 2))))) oNone))))
def F_word_in : Fd := runF d_word_in 4
abbrev s_sides_in : Stmt := top 34
abbrev N_sides_in : List Str := ["system", "overlap", "word"]
abbrev P_sides_in : List Str := ["system", "overlap"]
def d_sides_in : S := (sSeq (sAsg 2 false (eCall 2 F_word_in (aCons (eVar 0) (aCons (eVar 1) aNil)))) (sRet (eTup (aCons (eCall 3 F_behind_in (aCons (eVar 0) (aCons (eVar 2) (aCons (eTup (aCons (eC (.int 0)) (aCons (eIx (eVar 1) (eC (.int 0))) aNil))) aNil)))) (aCons (eCall 3 F_behind_in (aCons (eVar 0) (aCons (eVar 2) (aCons (eTup (aCons (eIx (eVar 1) (eC (.int 2))) (aCons (eIx (eVar 1) (eC (.int 1))) aNil))) aNil)))) aNil)))))
def F_sides_in : Fd := runF d_sides_in 3
abbrev s_rests_in_overlaps : Stmt := top 35
abbrev N_rests_in_overlaps : List Str := ["system", "overlap", "side"]
abbrev P_rests_in_overlaps : List Str := ["system", "overlap"]
def d_rests_in_overlaps : S := (sRet (eBi fTuple (aCons (eLc [2] (iSrc (eCall 2 F_sides_in (aCons (eVar 0) (aCons (eVar 1) aNil)))) (gNm 2) tTrue (eIx (eCall 2 F_rest_in (aCons (eVar 0) (aCons (eVar 2) aNil))) (eC (.int 1)))) aNil)))
def F_rests_in_overlaps : Fd := runF d_rests_in_overlaps 3
abbrev s_open_in : Stmt := top 37
abbrev N_open_in : List Str := ["system", "own"]
abbrev P_open_in : List Str := ["system"]
def d_open_in : S := (sRet (eLc [1] (iSrc (eCall 1 F_overlaps_in (aCons (eVar 0) aNil))) (gNm 1) (tVal (eBin opGt (eLenSet (eCall 2 F_rests_in_overlaps (aCons (eVar 0) (aCons (eVar 1) aNil)))) (eC (.int 1)))) (eVar 1)))
def F_open_in : Fd := runF d_open_in 2
abbrev s_complete_in : Stmt := top 42
abbrev N_complete_in : List Str := ["system"]
abbrev P_complete_in : List Str := ["system"]
def d_complete_in : S := (sRet (eAnd (eCall 1 F_directed_in (aCons (eVar 0) aNil)) (eAnd (eCall 1 F_reduced_in (aCons (eVar 0) aNil)) (eBin opEq (eCall 1 F_open_in (aCons (eVar 0) aNil)) (eLst aNil)))))
def F_complete_in : Fd := runF d_complete_in 1
abbrev s_rests_in : Stmt := top 47
abbrev N_rests_in : List Str := ["system", "found", "wave", "longer", "word", "letter", "left", "right"]
abbrev P_rests_in : List Str := ["system"]
def d_rests_in : S := (sSeq (sPar [(1, true), (2, false)] (aCons (eLst (aCons (eC (.str ⟨#[]⟩)) aNil)) (aCons (eLst (aCons (eC (.str ⟨#[]⟩)) aNil)) aNil))) (sSeq (whileL (tVal (eBin opNe (eVar 2) (eLst aNil))) (sSeq (sAsg 3 false (eLc2 [4, 5] [5] (iSrc (eVar 2)) (gNm 4) tTrue (iSrc (eSl (eC (.str ⟨#[97, 98, 99, 100]⟩)) oNone (oSome (eIx (eVar 0) (eC (.int 0)))))) (gNm 5) tTrue (eBin opAdd (eVar 4) (eVar 5)))) (sSeq (sAsg 2 false (eLc [4] (iSrc (eVar 3)) (gNm 4) (tNt (tVal (eBi fAny (aCons (eLc [6, 7] (iSrc (eIx (eVar 0) (eC (.int 1)))) (gTp [(gNm 6), (gNm 7)]) tTrue (eBin opIn (eVar 6) (eVar 4))) aNil)))) (eVar 4))) (sSeq (sExtO 1 (eVar 2)) (sIf (tVal (eBin opGt (eBi fLen (aCons (eVar 1) aNil)) (eC (.int 24)))) (sRet (eC .none)) sNext)))) 3000) (sRetO 1)))
def F_rests_in : Fd := runF d_rests_in 8
abbrev s_finite_in : Stmt := top 49
abbrev N_finite_in : List Str := ["system"]
abbrev P_finite_in : List Str := ["system"]
def d_finite_in : S := (sRet (eAnd (eCall 1 F_complete_in (aCons (eVar 0) aNil)) (eNotN (eCall 1 F_rests_in (aCons (eVar 0) aNil)))))
def F_finite_in : Fd := runF d_finite_in 1
abbrev s_need_finite : Stmt := top 53
abbrev N_need_finite : List Str := ["value"]
abbrev P_need_finite : List Str := ["value"]
def d_need_finite : S := (sSeq (sExpr (eCall 1 F_need_system (aCons (eVar 0) aNil))) (sIf (tNt (tVal (eCall 1 F_finite_in (aCons (eVar 0) aNil)))) sBad sNext))
def F_need_finite : Fd := runF d_need_finite 1
abbrev s_need_element : Stmt := top 54
abbrev N_need_element : List Str := ["system", "value"]
abbrev P_need_element : List Str := ["system", "value"]
def d_need_element : S := (sIf (tNt (tVal (eCall 3 F_fits_whole (aCons (eVar 1) (aCons (eC (.int 0)) (aCons (eBin opSub (eBi fLen (aCons (eCall 1 F_rests_in (aCons (eVar 0) aNil)) aNil)) (eC (.int 1))) aNil)))))) sBad sNext)
def F_need_element : Fd := runF d_need_element 2
abbrev s_powers_in : Stmt := top 51
abbrev N_powers_in : List Str := ["table", "at", "row", "here"]
abbrev P_powers_in : List Str := ["table", "at"]
def d_powers_in : S := (sSeq (sPar [(2, true), (3, false)] (aCons (eLst aNil) (aCons (eC (.int 0)) aNil))) (sSeq (whileL (tVal (eBin opNotIn (eVar 3) (eVar 2))) (sSeq (sAppO 2 (eVar 3)) (sAsg 3 false (eIx (eIx (eVar 0) (eVar 3)) (eVar 1)))) 3000) (sRetO 2)))
def F_powers_in : Fd := runF d_powers_in 4
abbrev s_cycle_in : Stmt := top 52
abbrev N_cycle_in : List Str := ["table", "at", "row", "begin"]
abbrev P_cycle_in : List Str := ["table", "at"]
def d_cycle_in : S := (sSeq (sAsg 2 false (eCall 2 F_powers_in (aCons (eVar 0) (aCons (eVar 1) aNil)))) (sSeq (sAsg 3 false (eIndex (eVar 2) (eIx (eIx (eVar 0) (eIx (eVar 2) (eUn opNeg (eC (.int 1))))) (eVar 1)))) (sRet (eTup (aCons (eVar 3) (aCons (eBin opSub (eBi fLen (aCons (eVar 2) aNil)) (eVar 3)) aNil))))))
def F_cycle_in : Fd := runF d_cycle_in 4
abbrev s_table_in : Stmt := top 50
abbrev N_table_in : List Str := ["system", "rests", "one", "other"]
abbrev P_table_in : List Str := ["system"]
def d_table_in : S := (sSeq (sAsg 1 false (eCall 1 F_rests_in (aCons (eVar 0) aNil))) (sRet (eBi fTuple (aCons (eLc [2] (iSrc (eVar 1)) (gNm 2) tTrue (eBi fTuple (aCons (eLc [3] (iSrc (eVar 1)) (gNm 3) tTrue (eIndex (eVar 1) (eIx (eCall 2 F_rest_in (aCons (eVar 0) (aCons (eBin opAdd (eVar 2) (eVar 3)) aNil))) (eC (.int 1))))) aNil))) aNil))))
def F_table_in : Fd := runF d_table_in 4
abbrev s_cycle_of : Stmt := top 57
abbrev N_cycle_of : List Str := ["system", "at"]
abbrev P_cycle_of : List Str := ["system", "at"]
def d_cycle_of : S := (sSeq (sExpr (eCall 1 F_need_finite (aCons (eVar 0) aNil))) (sSeq (sExpr (eCall 2 F_need_element (aCons (eVar 0) (aCons (eVar 1) aNil)))) (sRet (eCall 2 F_cycle_in (aCons (eCall 1 F_table_in (aCons (eVar 0) aNil)) (aCons (eVar 1) aNil))))))
def F_cycle_of : Fd := runF d_cycle_of 2
abbrev s_power_of : Stmt := top 56
abbrev N_power_of : List Str := ["system", "at", "often", "table", "row", "begin", "round_of"]
abbrev P_power_of : List Str := ["system", "at", "often"]
def d_power_of : S := (sSeq (sExpr (eCall 1 F_need_finite (aCons (eVar 0) aNil))) (sSeq (sExpr (eCall 2 F_need_element (aCons (eVar 0) (aCons (eVar 1) aNil)))) (sSeq (sIf (tNt (tVal (eCall 3 F_fits_whole (aCons (eVar 2) (aCons (eC (.int 0)) (aCons (eC (.int 1000)) aNil)))))) sBad sNext) (sSeq (sAsg 3 false (eCall 1 F_table_in (aCons (eVar 0) aNil))) (sSeq (sUnp (gTp [(gNm 4), (gTp [(gNm 5), (gNm 6)])]) (eTup (aCons (eCall 2 F_powers_in (aCons (eVar 3) (aCons (eVar 1) aNil))) (aCons (eCall 2 F_cycle_in (aCons (eVar 3) (aCons (eVar 1) aNil))) aNil)))) (sRet (eIf (tVal (eBin opLt (eVar 2) (eBi fLen (aCons (eVar 4) aNil)))) (eIx (eVar 4) (eVar 2)) (eIx (eVar 4) (eBin opAdd (eVar 5) (eBin opMod (eBin opSub (eVar 2) (eVar 5)) (eVar 6)))))))))))
def F_power_of : Fd := runF d_power_of 7
abbrev s__law_same : Stmt := top 63
abbrev N__law_same : List Str := ["told", "due", "at"]
abbrev P__law_same : List Str := ["told", "due"]
def d__law_same (FF : Fd) : S := (sSeq (sIf (tVal (eIsi .tup (eVar 1))) (sSeq (sIf (tO (tNt (tVal (eIsi .tup (eVar 0)))) (tVal (eBin opNe (eBi fLen (aCons (eVar 0) aNil)) (eBi fLen (aCons (eVar 1) aNil))))) (sRet (eC (.bool false))) sNext) (sRet (eBi fAll (aCons (eLc [2] (iRange1 (eBi fLen (aCons (eVar 1) aNil))) (gNm 2) tTrue (eCall 2 FF (aCons (eIx (eVar 0) (eVar 2)) (aCons (eIx (eVar 1) (eVar 2)) aNil)))) aNil)))) sNext) (sSeq (sIf (tVal (eIsN (eVar 1))) (sRet (eIsN (eVar 0))) sNext) (sSeq (sIf (tVal (eIsi .bool (eVar 1))) (sRet (eIf (tVal (eVar 1)) (eBin opIs (eVar 0) (eC (.bool true))) (eBin opIs (eVar 0) (eC (.bool false))))) sNext) (sSeq (sIf (tVal (eIsi .int (eVar 1))) (sRet (eAnd (eIsi .int (eVar 0)) (eAnd (eNot (eIsi .bool (eVar 0))) (eBin opEq (eBi fInt (aCons (eVar 0) aNil)) (eVar 1))))) sNext) (sRet (eAnd (eIsi .str (eVar 0)) (eBin opEq (eBi fStr (aCons (eVar 0) aNil)) (eVar 1))))))))
def FR__law_same : Nat → Fd
  | 0 => fBad
  | m + 1 => runF (d__law_same (FR__law_same m)) 3
def F__law_same : Fd := FR__law_same 8
abbrev s_still_elements : Stmt := top 58
abbrev N_still_elements : List Str := ["system", "at", "row"]
abbrev P_still_elements : List Str := ["system"]
def d_still_elements : S := (sSeq (sExpr (eCall 1 F_need_finite (aCons (eVar 0) aNil))) (sRet (eBi fTuple (aCons (eLc [1, 2] (iEnum (eCall 1 F_table_in (aCons (eVar 0) aNil))) (gTp [(gNm 1), (gNm 2)]) (tVal (eBin opEq (eIx (eVar 2) (eVar 1)) (eVar 1))) (eVar 1)) aNil))))
def F_still_elements : Fd := runF d_still_elements 3
abbrev s__law_steps : Stmt := top 64
abbrev N__law_steps : List Str := ["system", "word", "found", "place", "at"]
abbrev P__law_steps : List Str := ["system", "word"]
def d__law_steps : S := (sSeq (sAsg 2 false (eLst aNil)) (sSeq (sFor (iRange1 (eBi fLen (aCons (eVar 1) aNil))) (gNm 3) (sAsg 2 false (eBin opAdd (eVar 2) (eLc [4] (iRange1 (eBi fLen (aCons (eIx (eVar 0) (eC (.int 1))) aNil))) (gNm 4) (tVal (eM1 mStarts (eSl (eVar 1) (oSome (eVar 3)) oNone) (eIx (eIx (eIx (eVar 0) (eC (.int 1))) (eVar 4)) (eC (.int 0))))) (eTup (aCons (eVar 3) (aCons (eVar 4) aNil))))))) (sRet (eVar 2))))
def F__law_steps : Fd := runF d__law_steps 5
abbrev s__law_rests : Stmt := top 68
abbrev N__law_rests : List Str := ["system", "found", "line", "later", "word", "letter"]
abbrev P__law_rests : List Str := ["system"]
def d__law_rests : S := (sSeq (sPar [(1, false), (2, false)] (aCons (eLst (aCons (eC (.str ⟨#[]⟩)) aNil)) (aCons (eLst (aCons (eC (.str ⟨#[]⟩)) aNil)) aNil))) (sSeq (whileL (tVal (eBin opNe (eVar 2) (eLst aNil))) (sSeq (sAsg 3 false (eLst aNil)) (sSeq (sFor (iSrc (eVar 2)) (gNm 4) (sAsg 3 false (eBin opAdd (eVar 3) (eLc [5] (iSrc (eSl (eC (.str ⟨#[97, 98, 99, 100]⟩)) oNone (oSome (eIx (eVar 0) (eC (.int 0)))))) (gNm 5) (tVal (eBin opEq (eCall 2 F__law_steps (aCons (eVar 0) (aCons (eBin opAdd (eVar 4) (eVar 5)) aNil))) (eLst aNil))) (eBin opAdd (eVar 4) (eVar 5)))))) (sPar [(1, false), (2, false)] (aCons (eBin opAdd (eVar 1) (eVar 3)) (aCons (eVar 3) aNil))))) 3000) (sRet (eVar 1))))
def F__law_rests : Fd := runF d__law_rests 6
abbrev s__law_behind : Stmt := top 65
abbrev N__law_behind : List Str := ["system", "word", "step", "left", "right"]
abbrev P__law_behind : List Str := ["system", "word", "step"]
def d__law_behind : S := (sSeq (sUnp (gTp [(gNm 3), (gNm 4)]) (eIx (eIx (eVar 0) (eC (.int 1))) (eIx (eVar 2) (eC (.int 1))))) (sRet (eBin opAdd (eBin opAdd (eSl (eVar 1) oNone (oSome (eIx (eVar 2) (eC (.int 0))))) (eVar 4)) (eSl (eVar 1) (oSome (eBin opAdd (eIx (eVar 2) (eC (.int 0))) (eBi fLen (aCons (eVar 3) aNil)))) oNone))))
def F__law_behind : Fd := runF d__law_behind 5
abbrev s__law_end : Stmt := top 66
abbrev N__law_end : List Str := ["system", "word", "turn", "steps"]
abbrev P__law_end : List Str := ["system", "word"]
def d__law_end : S := (sSeq (sFor (iRange1 (eC (.int 501))) (gNm 2) (sSeq (sAsg 3 false (eCall 2 F__law_steps (aCons (eVar 0) (aCons (eVar 1) aNil)))) (sSeq (sIf (tVal (eBin opEq (eVar 3) (eLst aNil))) (sRet (eVar 1)) sNext) (sAsg 1 false (eCall 3 F__law_behind (aCons (eVar 0) (aCons (eVar 1) (aCons (eIx (eVar 3) (eC (.int 0))) aNil)))))))) (sRet (eC .none)))
def F__law_end : Fd := runF d__law_end 4
abbrev s__law_table : Stmt := top 69
abbrev N__law_table : List Str := ["system", "rests", "one", "other"]
abbrev P__law_table : List Str := ["system"]
def d__law_table : S := (sSeq (sAsg 1 false (eCall 1 F__law_rests (aCons (eVar 0) aNil))) (sRet (eBi fTuple (aCons (eLc [2] (iSrc (eVar 1)) (gNm 2) tTrue (eBi fTuple (aCons (eLc [3] (iSrc (eVar 1)) (gNm 3) tTrue (eIndex (eVar 1) (eCall 2 F__law_end (aCons (eVar 0) (aCons (eBin opAdd (eVar 2) (eVar 3)) aNil))))) aNil))) aNil))))
def F__law_table : Fd := runF d__law_table 4
abbrev s__law_roll : Stmt := top 61
abbrev N__law_roll : List Str := ["cup", "many", "deep", "found"]
abbrev P__law_roll : List Str := ["cup", "many"]
def d__law_roll : S := (sSeq (sIf (tVal (eBin opGt (eIx (eVar 0) (eC (.int 0))) (eC (.int 0)))) (sSeq (sAsg 3 false (eBin opMod (eBi fInt (aCons (eIx (eVar 0) (eC (.int 0))) aNil)) (eVar 1))) (sSeq (sSetC (eVar 0) (eC (.int 0)) (eBin opFdiv (eIx (eVar 0) (eC (.int 0))) (eVar 1))) (sRet (eVar 3)))) sNext) (sSeq (sSetC (eVar 0) (eC (.int 1)) (eBin opMod (eBi fInt (aCons (eBin opAdd (eBin opMul (eIx (eVar 0) (eC (.int 1))) (eC (.int 31063))) (eC (.int 7793))) aNil)) (eC (.int 2147482951)))) (sSeq (sAsg 2 false (eBin opMod (eBi fInt (aCons (eBin opMul (eIx (eVar 0) (eC (.int 1))) (eBin opAdd (eIx (eVar 0) (eC (.int 1))) (eC (.int 347)))) aNil)) (eC (.int 2147483059)))) (sRet (eBin opMod (eBi fInt (aCons (eBin opFdiv (eVar 2) (eC (.int 823))) aNil)) (eVar 1))))))
def F__law_roll : Fd := runF d__law_roll 4
abbrev s_product_of : Stmt := top 55
abbrev N_product_of : List Str := ["system", "one", "other"]
abbrev P_product_of : List Str := ["system", "one", "other"]
def d_product_of : S := (sSeq (sExpr (eCall 1 F_need_finite (aCons (eVar 0) aNil))) (sSeq (sExpr (eCall 2 F_need_element (aCons (eVar 0) (aCons (eVar 1) aNil)))) (sSeq (sExpr (eCall 2 F_need_element (aCons (eVar 0) (aCons (eVar 2) aNil)))) (sRet (eIx (eIx (eCall 1 F_table_in (aCons (eVar 0) aNil)) (eVar 1)) (eVar 2))))))
def F_product_of : Fd := runF d_product_of 3
abbrev s__law_right : Stmt := top 70
abbrev N__law_right : List Str := ["cup", "system", "table", "again", "turn", "begin", "more", "often", "due", "later", "at", "row", "own"]
abbrev P__law_right : List Str := ["cup", "system"]
def d__law_right : S := (sSeq (sAsg 2 false (eCall 1 F__law_table (aCons (eVar 1) aNil))) (sSeq (sFor (iRange1 (eC (.int 3))) (gNm 3) (sSeq (sPar [(10, false), (11, true)] (aCons (eCall 2 F__law_roll (aCons (eVar 0) (aCons (eBi fLen (aCons (eVar 2) aNil)) aNil))) (aCons (eLst (aCons (eC (.int 0)) aNil)) aNil))) (sSeq (sFor (iRange1 (eBin opAdd (eBin opMul (eC (.int 2)) (eBi fLen (aCons (eVar 2) aNil))) (eC (.int 1)))) (gNm 4) (sAppO 11 (eIx (eIx (eVar 2) (eIx (eVar 11) (eUn opNeg (eC (.int 1))))) (eVar 10)))) (sSeq (sAsg 5 false (eIx (eLc [12] (iRange1 (eBi fLen (aCons (eVar 11) aNil))) (gNm 12) (tVal (eBin opIn (eIx (eVar 11) (eVar 12)) (eSl (eVar 11) (oSome (eBin opAdd (eVar 12) (eC (.int 1)))) oNone))) (eVar 12)) (eC (.int 0)))) (sSeq (sAsg 6 false (eBin opAdd (eIndex (eSl (eVar 11) (oSome (eBin opAdd (eVar 5) (eC (.int 1)))) oNone) (eIx (eVar 11) (eVar 5))) (eC (.int 1)))) (sSeq (sAsg 7 false (eCall 2 F__law_roll (aCons (eVar 0) (aCons (eC (.int 1001)) aNil)))) (sSeq (sAsg 8 false (eIf (tVal (eBin opLt (eVar 7) (eVar 5))) (eIx (eVar 11) (eVar 7)) (eIx (eVar 11) (eBin opAdd (eVar 5) (eBin opMod (eBi fInt (aCons (eBin opSub (eVar 7) (eVar 5)) aNil)) (eVar 6)))))) (sSeq (sIf (tNt (tVal (eCall 2 F__law_same (aCons (eTup (aCons (eCall 2 F_cycle_of (aCons (eVar 1) (aCons (eVar 10) aNil))) (aCons (eCall 3 F_power_of (aCons (eVar 1) (aCons (eVar 10) (aCons (eVar 7) aNil)))) (aCons (eCall 3 F_power_of (aCons (eVar 1) (aCons (eVar 10) (aCons (eC (.int 1)) aNil)))) aNil)))) (aCons (eTup (aCons (eTup (aCons (eVar 5) (aCons (eVar 6) aNil))) (aCons (eVar 8) (aCons (eVar 10) aNil)))) aNil))))) (sRet (eC (.bool false))) sNext) (sSeq (sAsg 9 false (eCall 3 F_power_of (aCons (eVar 1) (aCons (eVar 10) (aCons (eIf (tVal (eBin opGt (eVar 7) (eC (.int 0)))) (eBin opSub (eVar 7) (eC (.int 1))) (eC (.int 0))) aNil))))) (sIf (tNt (tVal (eCall 2 F__law_same (aCons (eCall 3 F_product_of (aCons (eVar 1) (aCons (eVar 9) (aCons (eVar 10) aNil)))) (aCons (eIf (tVal (eBin opGt (eVar 7) (eC (.int 0)))) (eVar 8) (eVar 10)) aNil))))) (sRet (eC (.bool false))) sNext)))))))))) (sRet (eCall 2 F__law_same (aCons (eCall 1 F_still_elements (aCons (eVar 1) aNil)) (aCons (eBi fTuple (aCons (eLc [10] (iRange1 (eBi fLen (aCons (eVar 2) aNil))) (gNm 10) (tVal (eBin opEq (eIx (eIx (eVar 2) (eVar 10)) (eVar 10)) (eVar 10))) (eVar 10)) aNil)) aNil))))))
def F__law_right : Fd := runF d__law_right 13
abbrev s__law_some : Stmt := top 62
abbrev N__law_some : List Str := ["cup", "things"]
abbrev P__law_some : List Str := ["cup", "things"]
def d__law_some : S := (sRet (eIx (eVar 1) (eCall 2 F__law_roll (aCons (eVar 0) (aCons (eBi fLen (aCons (eVar 1) aNil)) aNil)))))
def F__law_some : Fd := runF d__law_some 2
abbrev s__law_finite : Stmt := top 67
abbrev N__law_finite : List Str := ["cup", "some"]
abbrev P__law_finite : List Str := ["cup"]
def d__law_finite : S := (sSeq (sAsg 1 false (eLst (aCons (eTup (aCons (eC (.int 1)) (aCons (eTup (aCons (eTup (aCons (eC (.str ⟨#[97, 97, 97]⟩)) (aCons (eC (.str ⟨#[]⟩)) aNil))) aNil)) aNil))) (aCons (eTup (aCons (eC (.int 1)) (aCons (eTup (aCons (eTup (aCons (eC (.str ⟨#[97, 97, 97]⟩)) (aCons (eC (.str ⟨#[97]⟩)) aNil))) aNil)) aNil))) (aCons (eTup (aCons (eC (.int 2)) (aCons (eTup (aCons (eTup (aCons (eC (.str ⟨#[97, 97]⟩)) (aCons (eC (.str ⟨#[]⟩)) aNil))) (aCons (eTup (aCons (eC (.str ⟨#[98, 98]⟩)) (aCons (eC (.str ⟨#[]⟩)) aNil))) (aCons (eTup (aCons (eC (.str ⟨#[98, 97, 98]⟩)) (aCons (eC (.str ⟨#[97, 98, 97]⟩)) aNil))) aNil)))) aNil))) (aCons (eTup (aCons (eC (.int 1)) (aCons (eTup (aCons (eTup (aCons (eC (.str ⟨#[97, 97, 97, 97]⟩)) (aCons (eC (.str ⟨#[97, 97, 97]⟩)) aNil))) aNil)) aNil))) aNil)))))) (sSeq (sAsg 1 false (eBin opAdd (eVar 1) (eLst (aCons (eTup (aCons (eC (.int 2)) (aCons (eTup (aCons (eTup (aCons (eC (.str ⟨#[97, 97]⟩)) (aCons (eC (.str ⟨#[]⟩)) aNil))) (aCons (eTup (aCons (eC (.str ⟨#[98, 98]⟩)) (aCons (eC (.str ⟨#[]⟩)) aNil))) (aCons (eTup (aCons (eC (.str ⟨#[98, 97, 98, 97]⟩)) (aCons (eC (.str ⟨#[97, 98, 97, 98]⟩)) aNil))) aNil)))) aNil))) (aCons (eTup (aCons (eC (.int 2)) (aCons (eTup (aCons (eTup (aCons (eC (.str ⟨#[97, 97]⟩)) (aCons (eC (.str ⟨#[97]⟩)) aNil))) (aCons (eTup (aCons (eC (.str ⟨#[97, 98]⟩)) (aCons (eC (.str ⟨#[97]⟩)) aNil))) (aCons (eTup (aCons (eC (.str ⟨#[98, 97]⟩)) (aCons (eC (.str ⟨#[98]⟩)) aNil))) (aCons (eTup (aCons (eC (.str ⟨#[98, 98]⟩)) (aCons (eC (.str ⟨#[98]⟩)) aNil))) aNil))))) aNil))) aNil))))) (sSeq (sAsg 1 false (eBin opAdd (eVar 1) (eLst (aCons (eTup (aCons (eC (.int 2)) (aCons (eTup (aCons (eTup (aCons (eC (.str ⟨#[97, 97]⟩)) (aCons (eC (.str ⟨#[97]⟩)) aNil))) (aCons (eTup (aCons (eC (.str ⟨#[98, 98]⟩)) (aCons (eC (.str ⟨#[98]⟩)) aNil))) (aCons (eTup (aCons (eC (.str ⟨#[97, 98, 97, 98]⟩)) (aCons (eC (.str ⟨#[97, 98]⟩)) aNil))) (aCons (eTup (aCons (eC (.str ⟨#[98, 97, 98, 97]⟩)) (aCons (eC (.str ⟨#[98, 97]⟩)) aNil))) aNil))))) aNil))) (aCons (eTup (aCons (eC (.int 2)) (aCons (eTup (aCons (eTup (aCons (eC (.str ⟨#[97]⟩)) (aCons (eC (.str ⟨#[]⟩)) aNil))) (aCons (eTup (aCons (eC (.str ⟨#[98]⟩)) (aCons (eC (.str ⟨#[]⟩)) aNil))) aNil))) aNil))) aNil))))) (sSeq (sAsg 1 false (eBin opAdd (eVar 1) (eLst (aCons (eTup (aCons (eC (.int 2)) (aCons (eTup (aCons (eTup (aCons (eC (.str ⟨#[97, 97]⟩)) (aCons (eC (.str ⟨#[]⟩)) aNil))) (aCons (eTup (aCons (eC (.str ⟨#[98, 98]⟩)) (aCons (eC (.str ⟨#[]⟩)) aNil))) (aCons (eTup (aCons (eC (.str ⟨#[98, 97]⟩)) (aCons (eC (.str ⟨#[97, 98]⟩)) aNil))) aNil)))) aNil))) (aCons (eTup (aCons (eC (.int 2)) (aCons (eTup (aCons (eTup (aCons (eC (.str ⟨#[97, 97]⟩)) (aCons (eC (.str ⟨#[97]⟩)) aNil))) (aCons (eTup (aCons (eC (.str ⟨#[97, 98]⟩)) (aCons (eC (.str ⟨#[97]⟩)) aNil))) (aCons (eTup (aCons (eC (.str ⟨#[98, 97]⟩)) (aCons (eC (.str ⟨#[97]⟩)) aNil))) (aCons (eTup (aCons (eC (.str ⟨#[98, 98]⟩)) (aCons (eC (.str ⟨#[]⟩)) aNil))) aNil))))) aNil))) aNil))))) (sSeq (sAsg 1 false (eBin opAdd (eVar 1) (eLst (aCons (eTup (aCons (eC (.int 2)) (aCons (eTup (aCons (eTup (aCons (eC (.str ⟨#[98, 97]⟩)) (aCons (eC (.str ⟨#[97, 98]⟩)) aNil))) (aCons (eTup (aCons (eC (.str ⟨#[97, 97]⟩)) (aCons (eC (.str ⟨#[97]⟩)) aNil))) (aCons (eTup (aCons (eC (.str ⟨#[98, 98]⟩)) (aCons (eC (.str ⟨#[98]⟩)) aNil))) aNil)))) aNil))) (aCons (eTup (aCons (eC (.int 1)) (aCons (eTup (aCons (eTup (aCons (eC (.str ⟨#[97, 97, 97, 97, 97, 97]⟩)) (aCons (eC (.str ⟨#[97, 97]⟩)) aNil))) aNil)) aNil))) aNil))))) (sRet (eCall 2 F__law_some (aCons (eVar 0) (aCons (eVar 1) aNil)))))))))
def F__law_finite : Fd := runF d__law_finite 2
abbrev s_law : Stmt := top 71
abbrev N_law : List Str := ["script", "cup", "told", "turn", "late", "odd", "turns"]
abbrev P_law : List Str := ["script"]
def d_law : S := (sSeq (sNewC 1 (eCall 1 F__law_cup (aCons (eVar 0) aNil))) (sSeq (sPar [(4, false), (5, false), (6, false)] (aCons (eTup (aCons (eC (.int 1)) (aCons (eTup (aCons (eTup (aCons (eC (.str ⟨#[97, 97, 97, 97]⟩)) (aCons (eC (.str ⟨#[97, 97, 97]⟩)) aNil))) aNil)) aNil))) (aCons (eTup (aCons (eC (.int 1)) (aCons (eTup (aCons (eTup (aCons (eC (.str ⟨#[97, 97, 97]⟩)) (aCons (eC (.str ⟨#[97]⟩)) aNil))) aNil)) aNil))) (aCons (eTup (aCons (eC (.int 2)) (aCons (eTup (aCons (eTup (aCons (eC (.str ⟨#[97, 97]⟩)) (aCons (eC (.str ⟨#[]⟩)) aNil))) (aCons (eTup (aCons (eC (.str ⟨#[98, 98]⟩)) (aCons (eC (.str ⟨#[]⟩)) aNil))) (aCons (eTup (aCons (eC (.str ⟨#[98, 97, 98]⟩)) (aCons (eC (.str ⟨#[97, 98, 97]⟩)) aNil))) aNil)))) aNil))) aNil)))) (sSeq (sAsg 2 false (eTup (aCons (eCall 2 F_cycle_of (aCons (eVar 4) (aCons (eC (.int 1)) aNil))) (aCons (eCall 3 F_power_of (aCons (eVar 4) (aCons (eC (.int 1)) (aCons (eC (.int 1000)) aNil)))) (aCons (eCall 3 F_power_of (aCons (eVar 4) (aCons (eC (.int 1)) (aCons (eC (.int 2)) aNil)))) (aCons (eCall 2 F_cycle_of (aCons (eVar 5) (aCons (eC (.int 1)) aNil))) (aCons (eCall 3 F_power_of (aCons (eVar 5) (aCons (eC (.int 1)) (aCons (eC (.int 1000)) aNil)))) (aCons (eCall 3 F_power_of (aCons (eVar 5) (aCons (eC (.int 1)) (aCons (eC (.int 999)) aNil)))) aNil)))))))) (sSeq (sIf (tNt (tVal (eCall 2 F__law_same (aCons (eVar 2) (aCons (eTup (aCons (eTup (aCons (eC (.int 3)) (aCons (eC (.int 1)) aNil))) (aCons (eC (.int 3)) (aCons (eC (.int 2)) (aCons (eTup (aCons (eC (.int 1)) (aCons (eC (.int 2)) aNil))) (aCons (eC (.int 2)) (aCons (eC (.int 1)) aNil))))))) aNil))))) (sRet (eC (.bool false))) sNext) (sSeq (sAsg 2 false (eTup (aCons (eCall 2 F_cycle_of (aCons (eVar 6) (aCons (eC (.int 3)) aNil))) (aCons (eCall 3 F_power_of (aCons (eVar 6) (aCons (eC (.int 3)) (aCons (eC (.int 1000)) aNil)))) (aCons (eCall 3 F_power_of (aCons (eVar 6) (aCons (eC (.int 3)) (aCons (eC (.int 0)) aNil)))) (aCons (eCall 2 F_cycle_of (aCons (eVar 6) (aCons (eC (.int 0)) aNil))) (aCons (eCall 1 F_still_elements (aCons (eVar 6) aNil)) (aCons (eCall 1 F_still_elements (aCons (eVar 4) aNil)) aNil)))))))) (sSeq (sIf (tNt (tVal (eCall 2 F__law_same (aCons (eVar 2) (aCons (eTup (aCons (eTup (aCons (eC (.int 0)) (aCons (eC (.int 3)) aNil))) (aCons (eC (.int 3)) (aCons (eC (.int 0)) (aCons (eTup (aCons (eC (.int 0)) (aCons (eC (.int 1)) aNil))) (aCons (eTup (aCons (eC (.int 0)) aNil)) (aCons (eTup (aCons (eC (.int 0)) (aCons (eC (.int 3)) aNil))) aNil))))))) aNil))))) (sRet (eC (.bool false))) sNext) (sSeq (sFor (iRange1 (eC (.int 2))) (gNm 3) (sIf (tNt (tVal (eCall 2 F__law_right (aCons (eVar 1) (aCons (eCall 1 F__law_finite (aCons (eVar 1) aNil)) aNil))))) (sRet (eC (.bool false))) sNext)) (sRet (eC (.bool true))))))))))
def F_law : Fd := runF d_law 7
section
variable {P : Program} {w : World} {K : PySem.W.Frag} {mg : Str → Option Value} {base : Heap}
theorem sc__law_cup : FnScope N__law_cup P__law_cup (defScope s__law_cup) := ⟨rfl, rfl, rfl, by decide +kernel, rfl, by decide +kernel, by decide +kernel⟩
theorem q__law_cup {f : Addr} {cdv : Value} {A : Around} {outer : List Env} {s : Shared} {H : Hp} {E : XK} {B : Wd} (fr : ∀ x ∈ bn, mg x = none) (hB : GoodB B) (hr : Room 0 (A.deeper (envOfC "_law_cup" (defScope s__law_cup) s.heap.objs.size f cdv))) :
    QSs (XX P w K mg base N__law_cup "_law_cup" s__law_cup f cdv A outer s H E) (WWE E) B (defBody s__law_cup) (d__law_cup) := by
  have tk : ∀ σ, PassesAt (L2.CX P w) (XX P w K mg base N__law_cup "_law_cup" s__law_cup f cdv A outer s H E) σ (WE (WWE E) σ) := passAt (takes_of rfl rfl rfl rfl)
  have hp : PassesOwn (model P w) (XX P w K mg base N__law_cup "_law_cup" s__law_cup f cdv A outer s H E).A (XX P w K mg base N__law_cup "_law_cup" s__law_cup f cdv A outer s H E).env (XX P w K mg base N__law_cup "_law_cup" s__law_cup f cdv A outer s H E).xe := passes_of rfl
  have hN : (XX P w K mg base N__law_cup "_law_cup" s__law_cup f cdv A outer s H E).N.Nodup := sc__law_cup.nd
  exact (qss_cons (qs_asg hB (qe_callB ok_abs rfl (fr "abs" (by decide)) (by decide +kernel) (qa_cons (qe_ix (qe_bin ok_add (qe_scr (fr "list" (by decide))) (qe_lst (qa_cons qe_int qa_nil))) qe_int) qa_nil)))
    (qss_one (qs_ret (qe_lst (qa_cons (qe_if (qt_cmp (ok_ge (u64 hr)) qe_var (qe_bin ok_pow qe_int qe_int)) (qe_bin ok_fdiv qe_var qe_int) qe_int) (qa_cons (qe_bin ok_add (qe_bin ok_mod (qe_callTy ok_int rfl (fr "int" (by decide)) (by decide +kernel) (qa_cons (qe_bin ok_add (qe_bin ok_mul qe_var qe_int) qe_int) qa_nil)) qe_int) qe_int) qa_nil))))))
theorem c__law_cup {x : Str} {f : Addr} {fd : FuncData} (fr : ∀ x ∈ bn, mg x = none) (FD : FunD K "_law_cup" "_law_cup" (defArgs s__law_cup) (defBody s__law_cup) (defScope s__law_cup) [] [] f fd) (mf : mg x = some (.ref f)) : Cal P w K mg base x 1 1 F__law_cup :=
  ⟨f, fd, P__law_cup, fn_ok FD sc__law_cup (fun cdv A outer s H E B hB hr => q__law_cup fr hB hr), mf, FD.kp, FD.bindsN fun _ _ _ _ _ _ us hl => match us, hl with | [_], _ => rfl⟩
theorem sc_is_tuple_of : FnScope N_is_tuple_of P_is_tuple_of (defScope s_is_tuple_of) := ⟨rfl, rfl, rfl, by decide +kernel, rfl, by decide +kernel, by decide +kernel⟩
theorem q_is_tuple_of {f : Addr} {cdv : Value} {A : Around} {outer : List Env} {s : Shared} {H : Hp} {E : XK} {B : Wd} (fr : ∀ x ∈ bn, mg x = none) (hB : GoodB B) (hr : Room 0 (A.deeper (envOfC "is_tuple_of" (defScope s_is_tuple_of) s.heap.objs.size f cdv))) :
    QSs (XX P w K mg base N_is_tuple_of "is_tuple_of" s_is_tuple_of f cdv A outer s H E) (WWE E) B (defBody s_is_tuple_of) (d_is_tuple_of) := by
  have tk : ∀ σ, PassesAt (L2.CX P w) (XX P w K mg base N_is_tuple_of "is_tuple_of" s_is_tuple_of f cdv A outer s H E) σ (WE (WWE E) σ) := passAt (takes_of rfl rfl rfl rfl)
  have hp : PassesOwn (model P w) (XX P w K mg base N_is_tuple_of "is_tuple_of" s_is_tuple_of f cdv A outer s H E).A (XX P w K mg base N_is_tuple_of "is_tuple_of" s_is_tuple_of f cdv A outer s H E).env (XX P w K mg base N_is_tuple_of "is_tuple_of" s_is_tuple_of f cdv A outer s H E).xe := passes_of rfl
  have hN : (XX P w K mg base N_is_tuple_of "is_tuple_of" s_is_tuple_of f cdv A outer s H E).N.Nodup := sc_is_tuple_of.nd
  exact (qss_one (qs_ret (qe_and (qe_isi (T := .tup) rfl rfl (fr "isinstance" (by decide)) rfl (fr "tuple" (by decide)) (by decide +kernel) qe_var) (qe_one (qe_chain (ok_le (u64 hr)) (ok_le (u64 hr)) qe_var (qe_callB ok_len rfl (fr "len" (by decide)) (by decide +kernel) (qa_cons qe_var qa_nil)) qe_var)))))
theorem c_is_tuple_of {x : Str} {f : Addr} {fd : FuncData} (fr : ∀ x ∈ bn, mg x = none) (FD : FunD K "is_tuple_of" "is_tuple_of" (defArgs s_is_tuple_of) (defBody s_is_tuple_of) (defScope s_is_tuple_of) [] [] f fd) (mf : mg x = some (.ref f)) : Cal P w K mg base x 1 3 F_is_tuple_of :=
  ⟨f, fd, P_is_tuple_of, fn_ok FD sc_is_tuple_of (fun cdv A outer s H E B hB hr => q_is_tuple_of fr hB hr), mf, FD.kp, FD.bindsN fun _ _ _ _ _ _ us hl => match us, hl with | [_, _, _], _ => rfl⟩
theorem sc_fits_whole : FnScope N_fits_whole P_fits_whole (defScope s_fits_whole) := ⟨rfl, rfl, rfl, by decide +kernel, rfl, by decide +kernel, by decide +kernel⟩
theorem q_fits_whole {f : Addr} {cdv : Value} {A : Around} {outer : List Env} {s : Shared} {H : Hp} {E : XK} {B : Wd} (fr : ∀ x ∈ bn, mg x = none) (hB : GoodB B) (hr : Room 0 (A.deeper (envOfC "fits_whole" (defScope s_fits_whole) s.heap.objs.size f cdv))) :
    QSs (XX P w K mg base N_fits_whole "fits_whole" s_fits_whole f cdv A outer s H E) (WWE E) B (defBody s_fits_whole) (d_fits_whole) := by
  have tk : ∀ σ, PassesAt (L2.CX P w) (XX P w K mg base N_fits_whole "fits_whole" s_fits_whole f cdv A outer s H E) σ (WE (WWE E) σ) := passAt (takes_of rfl rfl rfl rfl)
  have hp : PassesOwn (model P w) (XX P w K mg base N_fits_whole "fits_whole" s_fits_whole f cdv A outer s H E).A (XX P w K mg base N_fits_whole "fits_whole" s_fits_whole f cdv A outer s H E).env (XX P w K mg base N_fits_whole "fits_whole" s_fits_whole f cdv A outer s H E).xe := passes_of rfl
  have hN : (XX P w K mg base N_fits_whole "fits_whole" s_fits_whole f cdv A outer s H E).N.Nodup := sc_fits_whole.nd
  exact (qss_one (qs_ret (qe_and (qe_isi (T := .int) rfl rfl (fr "isinstance" (by decide)) rfl (fr "int" (by decide)) (by decide +kernel) qe_var) (qe_and (qe_not (qe_isi (T := .bool) rfl rfl (fr "isinstance" (by decide)) rfl (fr "bool" (by decide)) (by decide +kernel) qe_var)) (qe_one (qe_chain (ok_le (u64 hr)) (ok_le (u64 hr)) qe_var qe_var qe_var))))))
theorem c_fits_whole {x : Str} {f : Addr} {fd : FuncData} (fr : ∀ x ∈ bn, mg x = none) (FD : FunD K "fits_whole" "fits_whole" (defArgs s_fits_whole) (defBody s_fits_whole) (defScope s_fits_whole) [] [] f fd) (mf : mg x = some (.ref f)) : Cal P w K mg base x 1 3 F_fits_whole :=
  ⟨f, fd, P_fits_whole, fn_ok FD sc_fits_whole (fun cdv A outer s H E B hB hr => q_fits_whole fr hB hr), mf, FD.kp, FD.bindsN fun _ _ _ _ _ _ us hl => match us, hl with | [_, _, _], _ => rfl⟩
theorem sc_fits_letters : FnScope N_fits_letters P_fits_letters (defScope s_fits_letters) := ⟨rfl, rfl, rfl, by decide +kernel, rfl, by decide +kernel, by decide +kernel⟩
theorem q_fits_letters {f : Addr} {cdv : Value} {A : Around} {outer : List Env} {s : Shared} {H : Hp} {E : XK} {B : Wd} (fr : ∀ x ∈ bn, mg x = none) (m_LETTERS : ∃ t, mg "LETTERS" = some (.str (⟨#[97, 98, 99, 100]⟩) t)) (hB : GoodB B) (hr : Room 0 (A.deeper (envOfC "fits_letters" (defScope s_fits_letters) s.heap.objs.size f cdv))) :
    QSs (XX P w K mg base N_fits_letters "fits_letters" s_fits_letters f cdv A outer s H E) (WWE E) B (defBody s_fits_letters) (d_fits_letters) := by
  have tk : ∀ σ, PassesAt (L2.CX P w) (XX P w K mg base N_fits_letters "fits_letters" s_fits_letters f cdv A outer s H E) σ (WE (WWE E) σ) := passAt (takes_of rfl rfl rfl rfl)
  have hp : PassesOwn (model P w) (XX P w K mg base N_fits_letters "fits_letters" s_fits_letters f cdv A outer s H E).A (XX P w K mg base N_fits_letters "fits_letters" s_fits_letters f cdv A outer s H E).env (XX P w K mg base N_fits_letters "fits_letters" s_fits_letters f cdv A outer s H E).xe := passes_of rfl
  have hN : (XX P w K mg base N_fits_letters "fits_letters" s_fits_letters f cdv A outer s H E).N.Nodup := sc_fits_letters.nd
  exact (qss_one (qs_ret (qe_and (qe_isi (T := .str) rfl rfl (fr "isinstance" (by decide)) rfl (fr "str" (by decide)) (by decide +kernel) qe_var) (qe_and (qe_chain (ok_le (u64 hr)) (ok_le (u64 hr)) qe_var (qe_callB ok_len rfl (fr "len" (by decide)) (by decide +kernel) (qa_cons qe_var qa_nil)) qe_var) (qe_one (qe_callB (ok_all rfl) rfl (fr "all" (by decide)) (by decide +kernel) (qa_cons (qe_lc (own := [("letter", 4)]) (qi_e qe_var) (blkOk_by (N := N_fits_letters) (sc := defScope s_fits_letters) (by decide +kernel)) (fun _ _ _ _ _ => qg_name) (fun _ _ _ _ _ => qts_nil) (fun _ _ _ _ _ => (qe_cmp (ok_in (u65 hr)) qe_var (qe_slice (qe_gstr m_LETTERS) qo_none (qo_some qe_var))))) qa_nil)))))))
theorem c_fits_letters {x : Str} {f : Addr} {fd : FuncData} (fr : ∀ x ∈ bn, mg x = none) (m_LETTERS : ∃ t, mg "LETTERS" = some (.str (⟨#[97, 98, 99, 100]⟩) t)) (FD : FunD K "fits_letters" "fits_letters" (defArgs s_fits_letters) (defBody s_fits_letters) (defScope s_fits_letters) [] [] f fd) (mf : mg x = some (.ref f)) : Cal P w K mg base x 1 4 F_fits_letters :=
  ⟨f, fd, P_fits_letters, fn_ok FD sc_fits_letters (fun cdv A outer s H E B hB hr => q_fits_letters fr m_LETTERS hB hr), mf, FD.kp, FD.bindsN fun _ _ _ _ _ _ us hl => match us, hl with | [_, _, _, _], _ => rfl⟩
theorem sc_fits_rule : FnScope N_fits_rule P_fits_rule (defScope s_fits_rule) := ⟨rfl, rfl, rfl, by decide +kernel, rfl, by decide +kernel, by decide +kernel⟩
theorem q_fits_rule {f : Addr} {cdv : Value} {A : Around} {outer : List Env} {s : Shared} {H : Hp} {E : XK} {B : Wd} (fr : ∀ x ∈ bn, mg x = none) (m_SIDE : ∃ t, mg "SIDE" = some (.int (6) t)) (C_is_tuple_of : Cal P w K mg base "is_tuple_of" 1 3 F_is_tuple_of) (C_fits_letters : Cal P w K mg base "fits_letters" 1 4 F_fits_letters) (hB : GoodB B) (hr : Room 1 (A.deeper (envOfC "fits_rule" (defScope s_fits_rule) s.heap.objs.size f cdv))) :
    QSs (XX P w K mg base N_fits_rule "fits_rule" s_fits_rule f cdv A outer s H E) (WWE E) B (defBody s_fits_rule) (d_fits_rule) := by
  have tk : ∀ σ, PassesAt (L2.CX P w) (XX P w K mg base N_fits_rule "fits_rule" s_fits_rule f cdv A outer s H E) σ (WE (WWE E) σ) := passAt (takes_of rfl rfl rfl rfl)
  have hp : PassesOwn (model P w) (XX P w K mg base N_fits_rule "fits_rule" s_fits_rule f cdv A outer s H E).A (XX P w K mg base N_fits_rule "fits_rule" s_fits_rule f cdv A outer s H E).env (XX P w K mg base N_fits_rule "fits_rule" s_fits_rule f cdv A outer s H E).xe := passes_of rfl
  have hN : (XX P w K mg base N_fits_rule "fits_rule" s_fits_rule f cdv A outer s H E).N.Nodup := sc_fits_rule.nd
  exact (qss_cons (qs_if (QW.qt (qw_or (qt_not (qt_val (qe_call C_is_tuple_of (hr.mono (by decide)) tk (qa_cons qe_var (qa_cons qe_int (qa_cons qe_int qa_nil)))))) (qw_or1 (qt_not (qt_val (qe_call C_fits_letters (hr.mono (by decide)) tk (qa_cons (qe_ix qe_var qe_int) (qa_cons qe_var (qa_cons qe_int (qa_cons (qe_gint m_SIDE) qa_nil)))))))))) (qss_one (qs_ret qe_bool)) qss_nil)
    (qss_one (qs_ret (qe_and (qe_call C_fits_letters (hr.mono (by decide)) tk (qa_cons (qe_ix qe_var qe_int) (qa_cons qe_var (qa_cons qe_int (qa_cons (qe_gint m_SIDE) qa_nil))))) (qe_one (qe_cmp (ok_ne (u64 hr)) (qe_ix qe_var qe_int) (qe_ix qe_var qe_int)))))))
theorem c_fits_rule {x : Str} {f : Addr} {fd : FuncData} (fr : ∀ x ∈ bn, mg x = none) (m_SIDE : ∃ t, mg "SIDE" = some (.int (6) t)) (C_is_tuple_of : Cal P w K mg base "is_tuple_of" 1 3 F_is_tuple_of) (C_fits_letters : Cal P w K mg base "fits_letters" 1 4 F_fits_letters) (FD : FunD K "fits_rule" "fits_rule" (defArgs s_fits_rule) (defBody s_fits_rule) (defScope s_fits_rule) [] [] f fd) (mf : mg x = some (.ref f)) : Cal P w K mg base x 2 2 F_fits_rule :=
  ⟨f, fd, P_fits_rule, fn_ok FD sc_fits_rule (fun cdv A outer s H E B hB hr => q_fits_rule fr m_SIDE C_is_tuple_of C_fits_letters hB hr), mf, FD.kp, FD.bindsN fun _ _ _ _ _ _ us hl => match us, hl with | [_, _], _ => rfl⟩
theorem sc_fits_system : FnScope N_fits_system P_fits_system (defScope s_fits_system) := ⟨rfl, rfl, rfl, by decide +kernel, rfl, by decide +kernel, by decide +kernel⟩
theorem q_fits_system {f : Addr} {cdv : Value} {A : Around} {outer : List Env} {s : Shared} {H : Hp} {E : XK} {B : Wd} (fr : ∀ x ∈ bn, mg x = none) (m_LETTERS : ∃ t, mg "LETTERS" = some (.str (⟨#[97, 98, 99, 100]⟩) t)) (m_MOST_RULES : ∃ t, mg "MOST_RULES" = some (.int (8) t)) (m_SIZE : ∃ t, mg "SIZE" = some (.int (0) t)) (C_is_tuple_of : Cal P w K mg base "is_tuple_of" 1 3 F_is_tuple_of) (C_fits_whole : Cal P w K mg base "fits_whole" 1 3 F_fits_whole) (C_fits_rule : Cal P w K mg base "fits_rule" 2 2 F_fits_rule) (hB : GoodB B) (hr : Room 2 (A.deeper (envOfC "fits_system" (defScope s_fits_system) s.heap.objs.size f cdv))) :
    QSs (XX P w K mg base N_fits_system "fits_system" s_fits_system f cdv A outer s H E) (WWE E) B (defBody s_fits_system) (d_fits_system) := by
  have tk : ∀ σ, PassesAt (L2.CX P w) (XX P w K mg base N_fits_system "fits_system" s_fits_system f cdv A outer s H E) σ (WE (WWE E) σ) := passAt (takes_of rfl rfl rfl rfl)
  have hp : PassesOwn (model P w) (XX P w K mg base N_fits_system "fits_system" s_fits_system f cdv A outer s H E).A (XX P w K mg base N_fits_system "fits_system" s_fits_system f cdv A outer s H E).env (XX P w K mg base N_fits_system "fits_system" s_fits_system f cdv A outer s H E).xe := passes_of rfl
  have hN : (XX P w K mg base N_fits_system "fits_system" s_fits_system f cdv A outer s H E).N.Nodup := sc_fits_system.nd
  exact (qss_cons (qs_if (QW.qt (qw_or (qt_not (qt_val (qe_call C_is_tuple_of (hr.mono (by decide)) tk (qa_cons qe_var (qa_cons qe_int (qa_cons qe_int qa_nil)))))) (qw_or1 (qt_not (qt_val (qe_call C_fits_whole (hr.mono (by decide)) tk (qa_cons (qe_ix qe_var (qe_gint m_SIZE)) (qa_cons qe_int (qa_cons (qe_callB ok_len rfl (fr "len" (by decide)) (by decide +kernel) (qa_cons (qe_gstr m_LETTERS) qa_nil)) qa_nil))))))))) (qss_one (qs_ret qe_bool)) qss_nil)
    (qss_cons (qs_unp qe_var (qg_tup (qgs_cons qg_name (qgs_cons qg_name qgs_nil))))
    (qss_cons (qs_if (QW.qt (qw_or (qt_not (qt_val (qe_call C_is_tuple_of (hr.mono (by decide)) tk (qa_cons qe_var (qa_cons qe_int (qa_cons (qe_gint m_MOST_RULES) qa_nil)))))) (qw_or1 (qt_not (qt_val (qe_callB (ok_all rfl) rfl (fr "all" (by decide)) (by decide +kernel) (qa_cons (qe_lc (own := [("rule", 3)]) (qi_e qe_var) (blkOk_by (N := N_fits_system) (sc := defScope s_fits_system) (by decide +kernel)) (fun _ _ _ _ _ => qg_name) (fun _ _ _ _ _ => qts_nil) (fun _ _ _ _ _ => (qe_call C_fits_rule (hr.mono (by decide)) passAt0 (qa_cons qe_var (qa_cons qe_var qa_nil))))) qa_nil))))))) (qss_one (qs_ret qe_bool)) qss_nil)
    (qss_one (qs_ret (qe_cmp (ok_eq (u64 hr)) (qe_lenSet rfl (u64 hr) (fr "len" (by decide)) (fr "set" (by decide)) qe_var) (qe_callB ok_len rfl (fr "len" (by decide)) (by decide +kernel) (qa_cons qe_var qa_nil))))))))
theorem c_fits_system {x : Str} {f : Addr} {fd : FuncData} (fr : ∀ x ∈ bn, mg x = none) (m_LETTERS : ∃ t, mg "LETTERS" = some (.str (⟨#[97, 98, 99, 100]⟩) t)) (m_MOST_RULES : ∃ t, mg "MOST_RULES" = some (.int (8) t)) (m_SIZE : ∃ t, mg "SIZE" = some (.int (0) t)) (C_is_tuple_of : Cal P w K mg base "is_tuple_of" 1 3 F_is_tuple_of) (C_fits_whole : Cal P w K mg base "fits_whole" 1 3 F_fits_whole) (C_fits_rule : Cal P w K mg base "fits_rule" 2 2 F_fits_rule) (FD : FunD K "fits_system" "fits_system" (defArgs s_fits_system) (defBody s_fits_system) (defScope s_fits_system) [] [] f fd) (mf : mg x = some (.ref f)) : Cal P w K mg base x 3 1 F_fits_system :=
  ⟨f, fd, P_fits_system, fn_ok FD sc_fits_system (fun cdv A outer s H E B hB hr => q_fits_system fr m_LETTERS m_MOST_RULES m_SIZE C_is_tuple_of C_fits_whole C_fits_rule hB hr), mf, FD.kp, FD.bindsN fun _ _ _ _ _ _ us hl => match us, hl with | [_], _ => rfl⟩
theorem sc_need_system : FnScope N_need_system P_need_system (defScope s_need_system) := ⟨rfl, rfl, rfl, by decide +kernel, rfl, by decide +kernel, by decide +kernel⟩
theorem q_need_system {f : Addr} {cdv : Value} {A : Around} {outer : List Env} {s : Shared} {H : Hp} {E : XK} {B : Wd} (fr : ∀ x ∈ bn, mg x = none) (C_fits_system : Cal P w K mg base "fits_system" 3 1 F_fits_system) (hB : GoodB B) (hr : Room 3 (A.deeper (envOfC "need_system" (defScope s_need_system) s.heap.objs.size f cdv))) :
    QSs (XX P w K mg base N_need_system "need_system" s_need_system f cdv A outer s H E) (WWE E) B (defBody s_need_system) (d_need_system) := by
  have tk : ∀ σ, PassesAt (L2.CX P w) (XX P w K mg base N_need_system "need_system" s_need_system f cdv A outer s H E) σ (WE (WWE E) σ) := passAt (takes_of rfl rfl rfl rfl)
  have hp : PassesOwn (model P w) (XX P w K mg base N_need_system "need_system" s_need_system f cdv A outer s H E).A (XX P w K mg base N_need_system "need_system" s_need_system f cdv A outer s H E).env (XX P w K mg base N_need_system "need_system" s_need_system f cdv A outer s H E).xe := passes_of rfl
  have hN : (XX P w K mg base N_need_system "need_system" s_need_system f cdv A outer s H E).N.Nodup := sc_need_system.nd
  exact (qss_one (qs_if (qt_not (qt_val (qe_call C_fits_system (hr.mono (by decide)) tk (qa_cons qe_var qa_nil)))) (qss_one qs_bad) qss_nil))
theorem c_need_system {x : Str} {f : Addr} {fd : FuncData} (fr : ∀ x ∈ bn, mg x = none) (C_fits_system : Cal P w K mg base "fits_system" 3 1 F_fits_system) (FD : FunD K "need_system" "need_system" (defArgs s_need_system) (defBody s_need_system) (defScope s_need_system) [] [] f fd) (mf : mg x = some (.ref f)) : Cal P w K mg base x 4 1 F_need_system :=
  ⟨f, fd, P_need_system, fn_ok FD sc_need_system (fun cdv A outer s H E B hB hr => q_need_system fr C_fits_system hB hr), mf, FD.kp, FD.bindsN fun _ _ _ _ _ _ us hl => match us, hl with | [_], _ => rfl⟩
theorem sc_key_of : FnScope N_key_of P_key_of (defScope s_key_of) := ⟨rfl, rfl, rfl, by decide +kernel, rfl, by decide +kernel, by decide +kernel⟩
theorem q_key_of {f : Addr} {cdv : Value} {A : Around} {outer : List Env} {s : Shared} {H : Hp} {E : XK} {B : Wd} (fr : ∀ x ∈ bn, mg x = none) (hB : GoodB B) (hr : Room 0 (A.deeper (envOfC "key_of" (defScope s_key_of) s.heap.objs.size f cdv))) :
    QSs (XX P w K mg base N_key_of "key_of" s_key_of f cdv A outer s H E) (WWE E) B (defBody s_key_of) (d_key_of) := by
  have tk : ∀ σ, PassesAt (L2.CX P w) (XX P w K mg base N_key_of "key_of" s_key_of f cdv A outer s H E) σ (WE (WWE E) σ) := passAt (takes_of rfl rfl rfl rfl)
  have hp : PassesOwn (model P w) (XX P w K mg base N_key_of "key_of" s_key_of f cdv A outer s H E).A (XX P w K mg base N_key_of "key_of" s_key_of f cdv A outer s H E).env (XX P w K mg base N_key_of "key_of" s_key_of f cdv A outer s H E).xe := passes_of rfl
  have hN : (XX P w K mg base N_key_of "key_of" s_key_of f cdv A outer s H E).N.Nodup := sc_key_of.nd
  exact (qss_one (qs_ret (qe_tup (qa_cons (qe_callB ok_len rfl (fr "len" (by decide)) (by decide +kernel) (qa_cons qe_var qa_nil)) (qa_cons qe_var qa_nil)))))
theorem c_key_of {x : Str} {f : Addr} {fd : FuncData} (fr : ∀ x ∈ bn, mg x = none) (FD : FunD K "key_of" "key_of" (defArgs s_key_of) (defBody s_key_of) (defScope s_key_of) [] [] f fd) (mf : mg x = some (.ref f)) : Cal P w K mg base x 1 1 F_key_of :=
  ⟨f, fd, P_key_of, fn_ok FD sc_key_of (fun cdv A outer s H E B hB hr => q_key_of fr hB hr), mf, FD.kp, FD.bindsN fun _ _ _ _ _ _ us hl => match us, hl with | [_], _ => rfl⟩
theorem sc_directed_in : FnScope N_directed_in P_directed_in (defScope s_directed_in) := ⟨rfl, rfl, rfl, by decide +kernel, rfl, by decide +kernel, by decide +kernel⟩
theorem q_directed_in {f : Addr} {cdv : Value} {A : Around} {outer : List Env} {s : Shared} {H : Hp} {E : XK} {B : Wd} (fr : ∀ x ∈ bn, mg x = none) (m_RULES : ∃ t, mg "RULES" = some (.int (1) t)) (C_key_of : Cal P w K mg base "key_of" 1 1 F_key_of) (hB : GoodB B) (hr : Room 1 (A.deeper (envOfC "directed_in" (defScope s_directed_in) s.heap.objs.size f cdv))) :
    QSs (XX P w K mg base N_directed_in "directed_in" s_directed_in f cdv A outer s H E) (WWE E) B (defBody s_directed_in) (d_directed_in) := by
  have tk : ∀ σ, PassesAt (L2.CX P w) (XX P w K mg base N_directed_in "directed_in" s_directed_in f cdv A outer s H E) σ (WE (WWE E) σ) := passAt (takes_of rfl rfl rfl rfl)
  have hp : PassesOwn (model P w) (XX P w K mg base N_directed_in "directed_in" s_directed_in f cdv A outer s H E).A (XX P w K mg base N_directed_in "directed_in" s_directed_in f cdv A outer s H E).env (XX P w K mg base N_directed_in "directed_in" s_directed_in f cdv A outer s H E).xe := passes_of rfl
  have hN : (XX P w K mg base N_directed_in "directed_in" s_directed_in f cdv A outer s H E).N.Nodup := sc_directed_in.nd
  exact (qss_one (qs_ret (qe_callB (ok_all rfl) rfl (fr "all" (by decide)) (by decide +kernel) (qa_cons (qe_lc (own := [("left", 1), ("right", 2)]) (qi_e (qe_ix qe_var (qe_gint m_RULES))) (blkOk_by (N := N_directed_in) (sc := defScope s_directed_in) (by decide +kernel)) (fun _ _ _ _ _ => (qg_tup (qgs_cons qg_name (qgs_cons qg_name qgs_nil)))) (fun _ _ _ _ _ => qts_nil) (fun _ _ _ _ _ => (qe_cmp (ok_gt (u64 hr)) (qe_call C_key_of (hr.mono (by decide)) passAt0 (qa_cons qe_var qa_nil)) (qe_call C_key_of (hr.mono (by decide)) passAt0 (qa_cons qe_var qa_nil))))) qa_nil))))
theorem c_directed_in {x : Str} {f : Addr} {fd : FuncData} (fr : ∀ x ∈ bn, mg x = none) (m_RULES : ∃ t, mg "RULES" = some (.int (1) t)) (C_key_of : Cal P w K mg base "key_of" 1 1 F_key_of) (FD : FunD K "directed_in" "directed_in" (defArgs s_directed_in) (defBody s_directed_in) (defScope s_directed_in) [] [] f fd) (mf : mg x = some (.ref f)) : Cal P w K mg base x 2 1 F_directed_in :=
  ⟨f, fd, P_directed_in, fn_ok FD sc_directed_in (fun cdv A outer s H E B hB hr => q_directed_in fr m_RULES C_key_of hB hr), mf, FD.kp, FD.bindsN fun _ _ _ _ _ _ us hl => match us, hl with | [_], _ => rfl⟩
theorem sc_reduced_in : FnScope N_reduced_in P_reduced_in (defScope s_reduced_in) := ⟨rfl, rfl, rfl, by decide +kernel, rfl, by decide +kernel, by decide +kernel⟩
theorem q_reduced_in {f : Addr} {cdv : Value} {A : Around} {outer : List Env} {s : Shared} {H : Hp} {E : XK} {B : Wd} (fr : ∀ x ∈ bn, mg x = none) (m_RULES : ∃ t, mg "RULES" = some (.int (1) t)) (hB : GoodB B) (hr : Room 0 (A.deeper (envOfC "reduced_in" (defScope s_reduced_in) s.heap.objs.size f cdv))) :
    QSs (XX P w K mg base N_reduced_in "reduced_in" s_reduced_in f cdv A outer s H E) (WWE E) B (defBody s_reduced_in) (d_reduced_in) := by
  have tk : ∀ σ, PassesAt (L2.CX P w) (XX P w K mg base N_reduced_in "reduced_in" s_reduced_in f cdv A outer s H E) σ (WE (WWE E) σ) := passAt (takes_of rfl rfl rfl rfl)
  have hp : PassesOwn (model P w) (XX P w K mg base N_reduced_in "reduced_in" s_reduced_in f cdv A outer s H E).A (XX P w K mg base N_reduced_in "reduced_in" s_reduced_in f cdv A outer s H E).env (XX P w K mg base N_reduced_in "reduced_in" s_reduced_in f cdv A outer s H E).xe := passes_of rfl
  have hN : (XX P w K mg base N_reduced_in "reduced_in" s_reduced_in f cdv A outer s H E).N.Nodup := sc_reduced_in.nd
  exact (qss_cons (qs_asg hB (qe_lc (own := [("left", 2), ("right", 3)]) (qi_e (qe_ix qe_var (qe_gint m_RULES))) (blkOk_by (N := N_reduced_in) (sc := defScope s_reduced_in) (by decide +kernel)) (fun _ _ _ _ _ => (qg_tup (qgs_cons qg_name (qgs_cons qg_name qgs_nil)))) (fun _ _ _ _ _ => qts_nil) (fun _ _ _ _ _ => qe_var)))
    (qss_cons (qs_if (qt_val (qe_callB (ok_any rfl) rfl (fr "any" (by decide)) (by decide +kernel) (qa_cons (qe_lc2 (own := [("at", 4), ("left", 2), ("there", 5), ("other", 6)]) [5, 6] (qi_enum rfl (fr "enumerate" (by decide)) qe_var) (blkOk_by (N := N_reduced_in) (sc := defScope s_reduced_in) (by decide +kernel)) (fun _ _ _ _ _ => (qg_tup (qgs_cons qg_name (qgs_cons qg_name qgs_nil)))) (fun _ _ _ _ _ => qts_nil) (fun _ _ _ _ _ => (qi_enum rfl (fr "enumerate" (by decide)) qe_var)) (fun _ _ _ _ _ => (qg_tup (qgs_cons qg_name (qgs_cons qg_name qgs_nil)))) (fun _ _ _ _ _ => (qts_one (qt_cmp (ok_ne (u64 hr)) qe_var qe_var))) (fun _ _ _ _ _ => (qe_cmp (ok_in (u65 hr)) qe_var qe_var))) qa_nil))) (qss_one (qs_ret qe_bool)) qss_nil)
    (qss_one (qs_ret (qe_not (qe_callB (ok_any rfl) rfl (fr "any" (by decide)) (by decide +kernel) (qa_cons (qe_lc2 (own := [("left", 2), ("own", 7), ("right", 3)]) [7, 3] (qi_e qe_var) (blkOk_by (N := N_reduced_in) (sc := defScope s_reduced_in) (by decide +kernel)) (fun _ _ _ _ _ => qg_name) (fun _ _ _ _ _ => qts_nil) (fun _ _ _ _ _ => (qi_e (qe_ix qe_var (qe_gint m_RULES)))) (fun _ _ _ _ _ => (qg_tup (qgs_cons qg_name (qgs_cons qg_name qgs_nil)))) (fun _ _ _ _ _ => qts_nil) (fun _ _ _ _ _ => (qe_cmp (ok_in (u65 hr)) qe_var qe_var))) qa_nil)))))))
theorem c_reduced_in {x : Str} {f : Addr} {fd : FuncData} (fr : ∀ x ∈ bn, mg x = none) (m_RULES : ∃ t, mg "RULES" = some (.int (1) t)) (FD : FunD K "reduced_in" "reduced_in" (defArgs s_reduced_in) (defBody s_reduced_in) (defScope s_reduced_in) [] [] f fd) (mf : mg x = some (.ref f)) : Cal P w K mg base x 1 1 F_reduced_in :=
  ⟨f, fd, P_reduced_in, fn_ok FD sc_reduced_in (fun cdv A outer s H E B hB hr => q_reduced_in fr m_RULES hB hr), mf, FD.kp, FD.bindsN fun _ _ _ _ _ _ us hl => match us, hl with | [_], _ => rfl⟩
theorem sc_agrees : FnScope N_agrees P_agrees (defScope s_agrees) := ⟨rfl, rfl, rfl, by decide +kernel, rfl, by decide +kernel, by decide +kernel⟩
theorem q_agrees {f : Addr} {cdv : Value} {A : Around} {outer : List Env} {s : Shared} {H : Hp} {E : XK} {B : Wd} (fr : ∀ x ∈ bn, mg x = none) (hB : GoodB B) (hr : Room 0 (A.deeper (envOfC "agrees" (defScope s_agrees) s.heap.objs.size f cdv))) :
    QSs (XX P w K mg base N_agrees "agrees" s_agrees f cdv A outer s H E) (WWE E) B (defBody s_agrees) (d_agrees) := by
  have tk : ∀ σ, PassesAt (L2.CX P w) (XX P w K mg base N_agrees "agrees" s_agrees f cdv A outer s H E) σ (WE (WWE E) σ) := passAt (takes_of rfl rfl rfl rfl)
  have hp : PassesOwn (model P w) (XX P w K mg base N_agrees "agrees" s_agrees f cdv A outer s H E).A (XX P w K mg base N_agrees "agrees" s_agrees f cdv A outer s H E).env (XX P w K mg base N_agrees "agrees" s_agrees f cdv A outer s H E).xe := passes_of rfl
  have hN : (XX P w K mg base N_agrees "agrees" s_agrees f cdv A outer s H E).N.Nodup := sc_agrees.nd
  exact (qss_one (qs_ret (qe_callB (ok_all rfl) rfl (fr "all" (by decide)) (by decide +kernel) (qa_cons (qe_lc (own := [("one", 3), ("two", 4)]) (qi_zip rfl (fr "zip" (by decide)) (qe_slice qe_var (qo_some qe_var) qo_none) qe_var) (blkOk_by (N := N_agrees) (sc := defScope s_agrees) (by decide +kernel)) (fun _ _ _ _ _ => (qg_tup (qgs_cons qg_name (qgs_cons qg_name qgs_nil)))) (fun _ _ _ _ _ => qts_nil) (fun _ _ _ _ _ => (qe_cmp (ok_eq (u64 hr)) qe_var qe_var))) qa_nil))))
theorem c_agrees {x : Str} {f : Addr} {fd : FuncData} (fr : ∀ x ∈ bn, mg x = none) (FD : FunD K "agrees" "agrees" (defArgs s_agrees) (defBody s_agrees) (defScope s_agrees) [] [] f fd) (mf : mg x = some (.ref f)) : Cal P w K mg base x 1 3 F_agrees :=
  ⟨f, fd, P_agrees, fn_ok FD sc_agrees (fun cdv A outer s H E B hB hr => q_agrees fr hB hr), mf, FD.kp, FD.bindsN fun _ _ _ _ _ _ us hl => match us, hl with | [_, _, _], _ => rfl⟩
theorem sc_overlaps_in : FnScope N_overlaps_in P_overlaps_in (defScope s_overlaps_in) := ⟨rfl, rfl, rfl, by decide +kernel, rfl, by decide +kernel, by decide +kernel⟩
theorem q_overlaps_in {f : Addr} {cdv : Value} {A : Around} {outer : List Env} {s : Shared} {H : Hp} {E : XK} {B : Wd} (fr : ∀ x ∈ bn, mg x = none) (m_RULES : ∃ t, mg "RULES" = some (.int (1) t)) (C_agrees : Cal P w K mg base "agrees" 1 3 F_agrees) (hB : GoodB B) (hr : Room 1 (A.deeper (envOfC "overlaps_in" (defScope s_overlaps_in) s.heap.objs.size f cdv))) :
    QSs (XX P w K mg base N_overlaps_in "overlaps_in" s_overlaps_in f cdv A outer s H E) (WWE E) B (defBody s_overlaps_in) (d_overlaps_in) := by
  have tk : ∀ σ, PassesAt (L2.CX P w) (XX P w K mg base N_overlaps_in "overlaps_in" s_overlaps_in f cdv A outer s H E) σ (WE (WWE E) σ) := passAt (takes_of rfl rfl rfl rfl)
  have hp : PassesOwn (model P w) (XX P w K mg base N_overlaps_in "overlaps_in" s_overlaps_in f cdv A outer s H E).A (XX P w K mg base N_overlaps_in "overlaps_in" s_overlaps_in f cdv A outer s H E).env (XX P w K mg base N_overlaps_in "overlaps_in" s_overlaps_in f cdv A outer s H E).xe := passes_of rfl
  have hN : (XX P w K mg base N_overlaps_in "overlaps_in" s_overlaps_in f cdv A outer s H E).N.Nodup := sc_overlaps_in.nd
  exact (qss_cons (qs_asgLc2 (hB := hB) (own := [("one", 3), ("left", 5), ("right", 9), ("other", 4), ("there", 6), ("back", 10)]) [4, 6, 10] (qi_enum rfl (fr "enumerate" (by decide)) (qe_ix qe_var (qe_gint m_RULES))) (blkOk_by (N := N_overlaps_in) (sc := defScope s_overlaps_in) (by decide +kernel)) (fun _ _ _ _ _ => (qg_tup (qgs_cons qg_name (qgs_cons (qg_tup (qgs_cons qg_name (qgs_cons qg_name qgs_nil))) qgs_nil)))) (fun _ _ _ _ _ => qts_nil) (fun _ _ _ _ _ => (qi_enum rfl (fr "enumerate" (by decide)) (qe_ix qe_var (qe_gint m_RULES)))) (fun _ _ _ _ _ => (qg_tup (qgs_cons qg_name (qgs_cons (qg_tup (qgs_cons qg_name (qgs_cons qg_name qgs_nil))) qgs_nil)))) (fun _ _ _ _ _ => qts_nil) (fun _ _ _ _ _ => (qe_tup (qa_cons qe_var (qa_cons qe_var (qa_cons qe_var (qa_cons qe_var qa_nil)))))))
    (qss_cons (qs_asg hB (qe_lst qa_nil))
    (qss_cons (qs_for hp (qi_e qe_var) (qg_tup (qgs_cons qg_name (qgs_cons qg_name (qgs_cons qg_name (qgs_cons qg_name qgs_nil))))) (qss_cons (qs_asg hB (qe_if (qt_cmp (ok_lt (u64 hr)) qe_var qe_var) qe_int qe_int))
    (qss_one (qs_extO (qe_lc (own := [("place", 8)]) (qi_range2 rfl (fr "range" (by decide)) qe_var (qe_callB ok_len rfl (fr "len" (by decide)) (by decide +kernel) (qa_cons qe_var qa_nil))) (blkOk_by (N := N_overlaps_in) (sc := defScope s_overlaps_in) (by decide +kernel)) (fun _ _ _ _ _ => qg_name) (fun _ _ _ _ _ => (qts_one (qt_val (qe_call C_agrees (hr.mono (by decide)) passAt0 (qa_cons qe_var (qa_cons qe_var (qa_cons qe_var qa_nil))))))) (fun _ _ _ _ _ => (qe_tup (qa_cons qe_var (qa_cons qe_var (qa_cons qe_var qa_nil))))))))))
    (qss_one qs_retO))))
theorem c_overlaps_in {x : Str} {f : Addr} {fd : FuncData} (fr : ∀ x ∈ bn, mg x = none) (m_RULES : ∃ t, mg "RULES" = some (.int (1) t)) (C_agrees : Cal P w K mg base "agrees" 1 3 F_agrees) (FD : FunD K "overlaps_in" "overlaps_in" (defArgs s_overlaps_in) (defBody s_overlaps_in) (defScope s_overlaps_in) [] [] f fd) (mf : mg x = some (.ref f)) : Cal P w K mg base x 2 1 F_overlaps_in :=
  ⟨f, fd, P_overlaps_in, fn_ok FD sc_overlaps_in (fun cdv A outer s H E B hB hr => q_overlaps_in fr m_RULES C_agrees hB hr), mf, FD.kp, FD.bindsN fun _ _ _ _ _ _ us hl => match us, hl with | [_], _ => rfl⟩
theorem sc_places_in : FnScope N_places_in P_places_in (defScope s_places_in) := ⟨rfl, rfl, rfl, by decide +kernel, rfl, by decide +kernel, by decide +kernel⟩
theorem q_places_in {f : Addr} {cdv : Value} {A : Around} {outer : List Env} {s : Shared} {H : Hp} {E : XK} {B : Wd} (fr : ∀ x ∈ bn, mg x = none) (hB : GoodB B) (hr : Room 0 (A.deeper (envOfC "places_in" (defScope s_places_in) s.heap.objs.size f cdv))) :
    QSs (XX P w K mg base N_places_in "places_in" s_places_in f cdv A outer s H E) (WWE E) B (defBody s_places_in) (d_places_in) := by
  have tk : ∀ σ, PassesAt (L2.CX P w) (XX P w K mg base N_places_in "places_in" s_places_in f cdv A outer s H E) σ (WE (WWE E) σ) := passAt (takes_of rfl rfl rfl rfl)
  have hp : PassesOwn (model P w) (XX P w K mg base N_places_in "places_in" s_places_in f cdv A outer s H E).A (XX P w K mg base N_places_in "places_in" s_places_in f cdv A outer s H E).env (XX P w K mg base N_places_in "places_in" s_places_in f cdv A outer s H E).xe := passes_of rfl
  have hN : (XX P w K mg base N_places_in "places_in" s_places_in f cdv A outer s H E).N.Nodup := sc_places_in.nd
  exact (qss_one (qs_ret (qe_lc (own := [("at", 2)]) (qi_range1 rfl (fr "range" (by decide)) (qe_bin ok_add (qe_bin ok_sub (qe_callB ok_len rfl (fr "len" (by decide)) (by decide +kernel) (qa_cons qe_var qa_nil)) (qe_callB ok_len rfl (fr "len" (by decide)) (by decide +kernel) (qa_cons qe_var qa_nil))) qe_int)) (blkOk_by (N := N_places_in) (sc := defScope s_places_in) (by decide +kernel)) (fun _ _ _ _ _ => qg_name) (fun _ _ _ _ _ => (qts_one (qt_cmp (ok_eq (u64 hr)) (qe_slice qe_var (qo_some qe_var) (qo_some (qe_bin ok_add qe_var (qe_callB ok_len rfl (fr "len" (by decide)) (by decide +kernel) (qa_cons qe_var qa_nil))))) qe_var))) (fun _ _ _ _ _ => qe_var))))
theorem c_places_in {x : Str} {f : Addr} {fd : FuncData} (fr : ∀ x ∈ bn, mg x = none) (FD : FunD K "places_in" "places_in" (defArgs s_places_in) (defBody s_places_in) (defScope s_places_in) [] [] f fd) (mf : mg x = some (.ref f)) : Cal P w K mg base x 1 2 F_places_in :=
  ⟨f, fd, P_places_in, fn_ok FD sc_places_in (fun cdv A outer s H E B hB hr => q_places_in fr hB hr), mf, FD.kp, FD.bindsN fun _ _ _ _ _ _ us hl => match us, hl with | [_, _], _ => rfl⟩
theorem sc_steps_in : FnScope N_steps_in P_steps_in (defScope s_steps_in) := ⟨rfl, rfl, rfl, by decide +kernel, rfl, by decide +kernel, by decide +kernel⟩
theorem q_steps_in {f : Addr} {cdv : Value} {A : Around} {outer : List Env} {s : Shared} {H : Hp} {E : XK} {B : Wd} (fr : ∀ x ∈ bn, mg x = none) (m_RULES : ∃ t, mg "RULES" = some (.int (1) t)) (C_places_in : Cal P w K mg base "places_in" 1 2 F_places_in) (hB : GoodB B) (hr : Room 1 (A.deeper (envOfC "steps_in" (defScope s_steps_in) s.heap.objs.size f cdv))) :
    QSs (XX P w K mg base N_steps_in "steps_in" s_steps_in f cdv A outer s H E) (WWE E) B (defBody s_steps_in) (d_steps_in) := by
  have tk : ∀ σ, PassesAt (L2.CX P w) (XX P w K mg base N_steps_in "steps_in" s_steps_in f cdv A outer s H E) σ (WE (WWE E) σ) := passAt (takes_of rfl rfl rfl rfl)
  have hp : PassesOwn (model P w) (XX P w K mg base N_steps_in "steps_in" s_steps_in f cdv A outer s H E).A (XX P w K mg base N_steps_in "steps_in" s_steps_in f cdv A outer s H E).env (XX P w K mg base N_steps_in "steps_in" s_steps_in f cdv A outer s H E).xe := passes_of rfl
  have hN : (XX P w K mg base N_steps_in "steps_in" s_steps_in f cdv A outer s H E).N.Nodup := sc_steps_in.nd
  exact (qss_cons (qs_asgLc2 (hB := hB) (own := [("number", 4), ("left", 5), ("right", 6), ("place", 3)]) [3] (qi_enum rfl (fr "enumerate" (by decide)) (qe_ix qe_var (qe_gint m_RULES))) (blkOk_by (N := N_steps_in) (sc := defScope s_steps_in) (by decide +kernel)) (fun _ _ _ _ _ => (qg_tup (qgs_cons qg_name (qgs_cons (qg_tup (qgs_cons qg_name (qgs_cons qg_name qgs_nil))) qgs_nil)))) (fun _ _ _ _ _ => qts_nil) (fun _ _ _ _ _ => (qi_e (qe_call C_places_in (hr.mono (by decide)) passAt0 (qa_cons qe_var (qa_cons qe_var qa_nil))))) (fun _ _ _ _ _ => qg_name) (fun _ _ _ _ _ => qts_nil) (fun _ _ _ _ _ => (qe_tup (qa_cons qe_var (qa_cons qe_var qa_nil)))))
    (qss_one (qs_ret (qe_callB (ok_sorted (u64 hr)) rfl (fr "sorted" (by decide)) (by decide +kernel) (qa_cons qe_var qa_nil)))))
theorem c_steps_in {x : Str} {f : Addr} {fd : FuncData} (fr : ∀ x ∈ bn, mg x = none) (m_RULES : ∃ t, mg "RULES" = some (.int (1) t)) (C_places_in : Cal P w K mg base "places_in" 1 2 F_places_in) (FD : FunD K "steps_in" "steps_in" (defArgs s_steps_in) (defBody s_steps_in) (defScope s_steps_in) [] [] f fd) (mf : mg x = some (.ref f)) : Cal P w K mg base x 2 2 F_steps_in :=
  ⟨f, fd, P_steps_in, fn_ok FD sc_steps_in (fun cdv A outer s H E B hB hr => q_steps_in fr m_RULES C_places_in hB hr), mf, FD.kp, FD.bindsN fun _ _ _ _ _ _ us hl => match us, hl with | [_, _], _ => rfl⟩
theorem sc_first_in : FnScope N_first_in P_first_in (defScope s_first_in) := ⟨rfl, rfl, rfl, by decide +kernel, rfl, by decide +kernel, by decide +kernel⟩
theorem q_first_in {f : Addr} {cdv : Value} {A : Around} {outer : List Env} {s : Shared} {H : Hp} {E : XK} {B : Wd} (fr : ∀ x ∈ bn, mg x = none) (C_steps_in : Cal P w K mg base "steps_in" 2 2 F_steps_in) (hB : GoodB B) (hr : Room 2 (A.deeper (envOfC "first_in" (defScope s_first_in) s.heap.objs.size f cdv))) :
    QSs (XX P w K mg base N_first_in "first_in" s_first_in f cdv A outer s H E) (WWE E) B (defBody s_first_in) (d_first_in) := by
  have tk : ∀ σ, PassesAt (L2.CX P w) (XX P w K mg base N_first_in "first_in" s_first_in f cdv A outer s H E) σ (WE (WWE E) σ) := passAt (takes_of rfl rfl rfl rfl)
  have hp : PassesOwn (model P w) (XX P w K mg base N_first_in "first_in" s_first_in f cdv A outer s H E).A (XX P w K mg base N_first_in "first_in" s_first_in f cdv A outer s H E).env (XX P w K mg base N_first_in "first_in" s_first_in f cdv A outer s H E).xe := passes_of rfl
  have hN : (XX P w K mg base N_first_in "first_in" s_first_in f cdv A outer s H E).N.Nodup := sc_first_in.nd
  exact (qss_cons (qs_asg hB (qe_call C_steps_in (hr.mono (by decide)) tk (qa_cons qe_var (qa_cons qe_var qa_nil))))
    (qss_one (qs_ret (qe_if (qt_cmp (ok_ne (u64 hr)) qe_var (qe_lst qa_nil)) (qe_ix qe_var qe_int) qe_none))))
theorem c_first_in {x : Str} {f : Addr} {fd : FuncData} (fr : ∀ x ∈ bn, mg x = none) (C_steps_in : Cal P w K mg base "steps_in" 2 2 F_steps_in) (FD : FunD K "first_in" "first_in" (defArgs s_first_in) (defBody s_first_in) (defScope s_first_in) [] [] f fd) (mf : mg x = some (.ref f)) : Cal P w K mg base x 3 2 F_first_in :=
  ⟨f, fd, P_first_in, fn_ok FD sc_first_in (fun cdv A outer s H E B hB hr => q_first_in fr C_steps_in hB hr), mf, FD.kp, FD.bindsN fun _ _ _ _ _ _ us hl => match us, hl with | [_, _], _ => rfl⟩
theorem sc_behind_in : FnScope N_behind_in P_behind_in (defScope s_behind_in) := ⟨rfl, rfl, rfl, by decide +kernel, rfl, by decide +kernel, by decide +kernel⟩
theorem q_behind_in {f : Addr} {cdv : Value} {A : Around} {outer : List Env} {s : Shared} {H : Hp} {E : XK} {B : Wd} (fr : ∀ x ∈ bn, mg x = none) (m_PLACE : ∃ t, mg "PLACE" = some (.int (0) t)) (m_RULE : ∃ t, mg "RULE" = some (.int (1) t)) (m_RULES : ∃ t, mg "RULES" = some (.int (1) t)) (hB : GoodB B) (hr : Room 0 (A.deeper (envOfC "behind_in" (defScope s_behind_in) s.heap.objs.size f cdv))) :
    QSs (XX P w K mg base N_behind_in "behind_in" s_behind_in f cdv A outer s H E) (WWE E) B (defBody s_behind_in) (d_behind_in) := by
  have tk : ∀ σ, PassesAt (L2.CX P w) (XX P w K mg base N_behind_in "behind_in" s_behind_in f cdv A outer s H E) σ (WE (WWE E) σ) := passAt (takes_of rfl rfl rfl rfl)
  have hp : PassesOwn (model P w) (XX P w K mg base N_behind_in "behind_in" s_behind_in f cdv A outer s H E).A (XX P w K mg base N_behind_in "behind_in" s_behind_in f cdv A outer s H E).env (XX P w K mg base N_behind_in "behind_in" s_behind_in f cdv A outer s H E).xe := passes_of rfl
  have hN : (XX P w K mg base N_behind_in "behind_in" s_behind_in f cdv A outer s H E).N.Nodup := sc_behind_in.nd
  exact (qss_cons (qs_unp (qe_ix (qe_ix qe_var (qe_gint m_RULES)) (qe_ix qe_var (qe_gint m_RULE))) (qg_tup (qgs_cons qg_name (qgs_cons qg_name qgs_nil))))
    (qss_one (qs_ret (qe_bin ok_add (qe_bin ok_add (qe_slice qe_var qo_none (qo_some (qe_ix qe_var (qe_gint m_PLACE)))) qe_var) (qe_slice qe_var (qo_some (qe_bin ok_add (qe_ix qe_var (qe_gint m_PLACE)) (qe_callB ok_len rfl (fr "len" (by decide)) (by decide +kernel) (qa_cons qe_var qa_nil)))) qo_none)))))
theorem c_behind_in {x : Str} {f : Addr} {fd : FuncData} (fr : ∀ x ∈ bn, mg x = none) (m_PLACE : ∃ t, mg "PLACE" = some (.int (0) t)) (m_RULE : ∃ t, mg "RULE" = some (.int (1) t)) (m_RULES : ∃ t, mg "RULES" = some (.int (1) t)) (FD : FunD K "behind_in" "behind_in" (defArgs s_behind_in) (defBody s_behind_in) (defScope s_behind_in) [] [] f fd) (mf : mg x = some (.ref f)) : Cal P w K mg base x 1 3 F_behind_in :=
  ⟨f, fd, P_behind_in, fn_ok FD sc_behind_in (fun cdv A outer s H E B hB hr => q_behind_in fr m_PLACE m_RULE m_RULES hB hr), mf, FD.kp, FD.bindsN fun _ _ _ _ _ _ us hl => match us, hl with | [_, _, _], _ => rfl⟩
theorem sc_rest_in : FnScope N_rest_in P_rest_in (defScope s_rest_in) := ⟨rfl, rfl, rfl, by decide +kernel, rfl, by decide +kernel, by decide +kernel⟩
theorem q_rest_in {f : Addr} {cdv : Value} {A : Around} {outer : List Env} {s : Shared} {H : Hp} {E : XK} {B : Wd} (fr : ∀ x ∈ bn, mg x = none) (m_GROWN : ∃ t, mg "GROWN" = some (.int (200) t)) (m_REST : ∃ t, mg "REST" = some (.int (500) t)) (C_first_in : Cal P w K mg base "first_in" 3 2 F_first_in) (C_behind_in : Cal P w K mg base "behind_in" 1 3 F_behind_in) (hB : GoodB B) (hr : Room 3 (A.deeper (envOfC "rest_in" (defScope s_rest_in) s.heap.objs.size f cdv))) :
    QSs (XX P w K mg base N_rest_in "rest_in" s_rest_in f cdv A outer s H E) (WWE E) B (defBody s_rest_in) (d_rest_in) := by
  have tk : ∀ σ, PassesAt (L2.CX P w) (XX P w K mg base N_rest_in "rest_in" s_rest_in f cdv A outer s H E) σ (WE (WWE E) σ) := passAt (takes_of rfl rfl rfl rfl)
  have hp : PassesOwn (model P w) (XX P w K mg base N_rest_in "rest_in" s_rest_in f cdv A outer s H E).A (XX P w K mg base N_rest_in "rest_in" s_rest_in f cdv A outer s H E).env (XX P w K mg base N_rest_in "rest_in" s_rest_in f cdv A outer s H E).xe := passes_of rfl
  have hN : (XX P w K mg base N_rest_in "rest_in" s_rest_in f cdv A outer s H E).N.Nodup := sc_rest_in.nd
  exact (qss_cons (qs_par hB (qa_cons (qe_lst qa_nil) (qa_cons (qe_call C_first_in (hr.mono (by decide)) tk (qa_cons qe_var (qa_cons qe_var qa_nil))) qa_nil)))
    (qss_cons (qs_while 3000 hp (qt_notN qe_var) (qss_cons (qs_asg hB (qe_call C_behind_in (hr.mono (by decide)) tk (qa_cons qe_var (qa_cons qe_var (qa_cons qe_var qa_nil)))))
    (qss_cons (qs_appO qe_var)
    (qss_cons (qs_if (QW.qt (qw_or (qt_cmp (ok_gt (u64 hr)) (qe_callB ok_len rfl (fr "len" (by decide)) (by decide +kernel) (qa_cons qe_var qa_nil)) (qe_gint m_REST)) (qw_or1 (qt_cmp (ok_gt (u64 hr)) (qe_callB ok_len rfl (fr "len" (by decide)) (by decide +kernel) (qa_cons qe_var qa_nil)) (qe_gint m_GROWN))))) (qss_one qs_bad) qss_nil)
    (qss_one (qs_asg hB (qe_call C_first_in (hr.mono (by decide)) tk (qa_cons qe_var (qa_cons qe_var qa_nil)))))))))
    (qss_one (qs_frz hB (qs_ret (qe_tup (qa_cons qe_var (qa_cons qe_var qa_nil))))))))
theorem c_rest_in {x : Str} {f : Addr} {fd : FuncData} (fr : ∀ x ∈ bn, mg x = none) (m_GROWN : ∃ t, mg "GROWN" = some (.int (200) t)) (m_REST : ∃ t, mg "REST" = some (.int (500) t)) (C_first_in : Cal P w K mg base "first_in" 3 2 F_first_in) (C_behind_in : Cal P w K mg base "behind_in" 1 3 F_behind_in) (FD : FunD K "rest_in" "rest_in" (defArgs s_rest_in) (defBody s_rest_in) (defScope s_rest_in) [] [] f fd) (mf : mg x = some (.ref f)) : Cal P w K mg base x 4 2 F_rest_in :=
  ⟨f, fd, P_rest_in, fn_ok FD sc_rest_in (fun cdv A outer s H E B hB hr => q_rest_in fr m_GROWN m_REST C_first_in C_behind_in hB hr), mf, FD.kp, FD.bindsN fun _ _ _ _ _ _ us hl => match us, hl with | [_, _], _ => rfl⟩
theorem sc_word_in : FnScope N_word_in P_word_in (defScope s_word_in) := ⟨rfl, rfl, rfl, by decide +kernel, rfl, by decide +kernel, by decide +kernel⟩
theorem q_word_in {f : Addr} {cdv : Value} {A : Around} {outer : List Env} {s : Shared} {H : Hp} {E : XK} {B : Wd} (fr : ∀ x ∈ bn, mg x = none) (m_BEGIN : ∃ t, mg "BEGIN" = some (.int (2) t)) (m_ONE_overlaps : ∃ t, mg "ONE_overlaps" = some (.int (0) t)) (m_OTHER : ∃ t, mg "OTHER" = some (.int (1) t)) (m_RULES : ∃ t, mg "RULES" = some (.int (1) t)) (hB : GoodB B) (hr : Room 0 (A.deeper (envOfC "word_in" (defScope s_word_in) s.heap.objs.size f cdv))) :
    QSs (XX P w K mg base N_word_in "word_in" s_word_in f cdv A outer s H E) (WWE E) B (defBody s_word_in) (d_word_in) := by
  have tk : ∀ σ, PassesAt (L2.CX P w) (XX P w K mg base N_word_in "word_in" s_word_in f cdv A outer s H E) σ (WE (WWE E) σ) := passAt (takes_of rfl rfl rfl rfl)
  have hp : PassesOwn (model P w) (XX P w K mg base N_word_in "word_in" s_word_in f cdv A outer s H E).A (XX P w K mg base N_word_in "word_in" s_word_in f cdv A outer s H E).env (XX P w K mg base N_word_in "word_in" s_word_in f cdv A outer s H E).xe := passes_of rfl
  have hN : (XX P w K mg base N_word_in "word_in" s_word_in f cdv A outer s H E).N.Nodup := sc_word_in.nd
  exact (qss_cons (qs_par hB (qa_cons (qe_ix (qe_ix (qe_ix qe_var (qe_gint m_RULES)) (qe_ix qe_var (qe_gint m_ONE_overlaps))) qe_int) (qa_cons (qe_ix (qe_ix (qe_ix qe_var (qe_gint m_RULES)) (qe_ix qe_var (qe_gint m_OTHER))) qe_int) qa_nil)))
    (qss_one (qs_ret (qe_bin ok_add qe_var (qe_slice qe_var (qo_some (qe_bin ok_sub (qe_callB ok_len rfl (fr "len" (by decide)) (by decide +kernel) (qa_cons qe_var qa_nil)) (qe_ix qe_var (qe_gint m_BEGIN)))) qo_none)))))
theorem c_word_in {x : Str} {f : Addr} {fd : FuncData} (fr : ∀ x ∈ bn, mg x = none) (m_BEGIN : ∃ t, mg "BEGIN" = some (.int (2) t)) (m_ONE_overlaps : ∃ t, mg "ONE_overlaps" = some (.int (0) t)) (m_OTHER : ∃ t, mg "OTHER" = some (.int (1) t)) (m_RULES : ∃ t, mg "RULES" = some (.int (1) t)) (FD : FunD K "word_in" "word_in" (defArgs s_word_in) (defBody s_word_in) (defScope s_word_in) [] [] f fd) (mf : mg x = some (.ref f)) : Cal P w K mg base x 1 2 F_word_in :=
  ⟨f, fd, P_word_in, fn_ok FD sc_word_in (fun cdv A outer s H E B hB hr => q_word_in fr m_BEGIN m_ONE_overlaps m_OTHER m_RULES hB hr), mf, FD.kp, FD.bindsN fun _ _ _ _ _ _ us hl => match us, hl with | [_, _], _ => rfl⟩
theorem sc_sides_in : FnScope N_sides_in P_sides_in (defScope s_sides_in) := ⟨rfl, rfl, rfl, by decide +kernel, rfl, by decide +kernel, by decide +kernel⟩
theorem q_sides_in {f : Addr} {cdv : Value} {A : Around} {outer : List Env} {s : Shared} {H : Hp} {E : XK} {B : Wd} (fr : ∀ x ∈ bn, mg x = none) (m_BEGIN : ∃ t, mg "BEGIN" = some (.int (2) t)) (m_ONE_overlaps : ∃ t, mg "ONE_overlaps" = some (.int (0) t)) (m_OTHER : ∃ t, mg "OTHER" = some (.int (1) t)) (C_word_in : Cal P w K mg base "word_in" 1 2 F_word_in) (C_behind_in : Cal P w K mg base "behind_in" 1 3 F_behind_in) (hB : GoodB B) (hr : Room 1 (A.deeper (envOfC "sides_in" (defScope s_sides_in) s.heap.objs.size f cdv))) :
    QSs (XX P w K mg base N_sides_in "sides_in" s_sides_in f cdv A outer s H E) (WWE E) B (defBody s_sides_in) (d_sides_in) := by
  have tk : ∀ σ, PassesAt (L2.CX P w) (XX P w K mg base N_sides_in "sides_in" s_sides_in f cdv A outer s H E) σ (WE (WWE E) σ) := passAt (takes_of rfl rfl rfl rfl)
  have hp : PassesOwn (model P w) (XX P w K mg base N_sides_in "sides_in" s_sides_in f cdv A outer s H E).A (XX P w K mg base N_sides_in "sides_in" s_sides_in f cdv A outer s H E).env (XX P w K mg base N_sides_in "sides_in" s_sides_in f cdv A outer s H E).xe := passes_of rfl
  have hN : (XX P w K mg base N_sides_in "sides_in" s_sides_in f cdv A outer s H E).N.Nodup := sc_sides_in.nd
  exact (qss_cons (qs_asg hB (qe_call C_word_in (hr.mono (by decide)) tk (qa_cons qe_var (qa_cons qe_var qa_nil))))
    (qss_one (qs_ret (qe_tup (qa_cons (qe_call C_behind_in (hr.mono (by decide)) tk (qa_cons qe_var (qa_cons qe_var (qa_cons (qe_tup (qa_cons qe_int (qa_cons (qe_ix qe_var (qe_gint m_ONE_overlaps)) qa_nil))) qa_nil)))) (qa_cons (qe_call C_behind_in (hr.mono (by decide)) tk (qa_cons qe_var (qa_cons qe_var (qa_cons (qe_tup (qa_cons (qe_ix qe_var (qe_gint m_BEGIN)) (qa_cons (qe_ix qe_var (qe_gint m_OTHER)) qa_nil))) qa_nil)))) qa_nil))))))
theorem c_sides_in {x : Str} {f : Addr} {fd : FuncData} (fr : ∀ x ∈ bn, mg x = none) (m_BEGIN : ∃ t, mg "BEGIN" = some (.int (2) t)) (m_ONE_overlaps : ∃ t, mg "ONE_overlaps" = some (.int (0) t)) (m_OTHER : ∃ t, mg "OTHER" = some (.int (1) t)) (C_word_in : Cal P w K mg base "word_in" 1 2 F_word_in) (C_behind_in : Cal P w K mg base "behind_in" 1 3 F_behind_in) (FD : FunD K "sides_in" "sides_in" (defArgs s_sides_in) (defBody s_sides_in) (defScope s_sides_in) [] [] f fd) (mf : mg x = some (.ref f)) : Cal P w K mg base x 2 2 F_sides_in :=
  ⟨f, fd, P_sides_in, fn_ok FD sc_sides_in (fun cdv A outer s H E B hB hr => q_sides_in fr m_BEGIN m_ONE_overlaps m_OTHER C_word_in C_behind_in hB hr), mf, FD.kp, FD.bindsN fun _ _ _ _ _ _ us hl => match us, hl with | [_, _], _ => rfl⟩
theorem sc_rests_in_overlaps : FnScope N_rests_in_overlaps P_rests_in_overlaps (defScope s_rests_in_overlaps) := ⟨rfl, rfl, rfl, by decide +kernel, rfl, by decide +kernel, by decide +kernel⟩
theorem q_rests_in_overlaps {f : Addr} {cdv : Value} {A : Around} {outer : List Env} {s : Shared} {H : Hp} {E : XK} {B : Wd} (fr : ∀ x ∈ bn, mg x = none) (C_sides_in : Cal P w K mg base "sides_in" 2 2 F_sides_in) (C_rest_in : Cal P w K mg base "rest_in" 4 2 F_rest_in) (hB : GoodB B) (hr : Room 4 (A.deeper (envOfC "rests_in" (defScope s_rests_in_overlaps) s.heap.objs.size f cdv))) :
    QSs (XX P w K mg base N_rests_in_overlaps "rests_in" s_rests_in_overlaps f cdv A outer s H E) (WWE E) B (defBody s_rests_in_overlaps) (d_rests_in_overlaps) := by
  have tk : ∀ σ, PassesAt (L2.CX P w) (XX P w K mg base N_rests_in_overlaps "rests_in" s_rests_in_overlaps f cdv A outer s H E) σ (WE (WWE E) σ) := passAt (takes_of rfl rfl rfl rfl)
  have hp : PassesOwn (model P w) (XX P w K mg base N_rests_in_overlaps "rests_in" s_rests_in_overlaps f cdv A outer s H E).A (XX P w K mg base N_rests_in_overlaps "rests_in" s_rests_in_overlaps f cdv A outer s H E).env (XX P w K mg base N_rests_in_overlaps "rests_in" s_rests_in_overlaps f cdv A outer s H E).xe := passes_of rfl
  have hN : (XX P w K mg base N_rests_in_overlaps "rests_in" s_rests_in_overlaps f cdv A outer s H E).N.Nodup := sc_rests_in_overlaps.nd
  exact (qss_one (qs_ret (qe_callTy ok_tuple rfl (fr "tuple" (by decide)) (by decide +kernel) (qa_cons (qe_lc (own := [("side", 2)]) (qi_e (qe_call C_sides_in (hr.mono (by decide)) tk (qa_cons qe_var (qa_cons qe_var qa_nil)))) (blkOk_by (N := N_rests_in_overlaps) (sc := defScope s_rests_in_overlaps) (by decide +kernel)) (fun _ _ _ _ _ => qg_name) (fun _ _ _ _ _ => qts_nil) (fun _ _ _ _ _ => (qe_ix (qe_call C_rest_in (hr.mono (by decide)) passAt0 (qa_cons qe_var (qa_cons qe_var qa_nil))) qe_int))) qa_nil))))
theorem c_rests_in_overlaps {x : Str} {f : Addr} {fd : FuncData} (fr : ∀ x ∈ bn, mg x = none) (C_sides_in : Cal P w K mg base "sides_in" 2 2 F_sides_in) (C_rest_in : Cal P w K mg base "rest_in" 4 2 F_rest_in) (FD : FunD K "rests_in" "rests_in" (defArgs s_rests_in_overlaps) (defBody s_rests_in_overlaps) (defScope s_rests_in_overlaps) [] [] f fd) (mf : mg x = some (.ref f)) : Cal P w K mg base x 5 2 F_rests_in_overlaps :=
  ⟨f, fd, P_rests_in_overlaps, fn_ok FD sc_rests_in_overlaps (fun cdv A outer s H E B hB hr => q_rests_in_overlaps fr C_sides_in C_rest_in hB hr), mf, FD.kp, FD.bindsN fun _ _ _ _ _ _ us hl => match us, hl with | [_, _], _ => rfl⟩
theorem sc_open_in : FnScope N_open_in P_open_in (defScope s_open_in) := ⟨rfl, rfl, rfl, by decide +kernel, rfl, by decide +kernel, by decide +kernel⟩
theorem q_open_in {f : Addr} {cdv : Value} {A : Around} {outer : List Env} {s : Shared} {H : Hp} {E : XK} {B : Wd} (fr : ∀ x ∈ bn, mg x = none) (C_overlaps_in : Cal P w K mg base "overlaps_in" 2 1 F_overlaps_in) (C_rests_in_overlaps : Cal P w K mg base "rests_in_overlaps" 5 2 F_rests_in_overlaps) (hB : GoodB B) (hr : Room 5 (A.deeper (envOfC "open_in" (defScope s_open_in) s.heap.objs.size f cdv))) :
    QSs (XX P w K mg base N_open_in "open_in" s_open_in f cdv A outer s H E) (WWE E) B (defBody s_open_in) (d_open_in) := by
  have tk : ∀ σ, PassesAt (L2.CX P w) (XX P w K mg base N_open_in "open_in" s_open_in f cdv A outer s H E) σ (WE (WWE E) σ) := passAt (takes_of rfl rfl rfl rfl)
  have hp : PassesOwn (model P w) (XX P w K mg base N_open_in "open_in" s_open_in f cdv A outer s H E).A (XX P w K mg base N_open_in "open_in" s_open_in f cdv A outer s H E).env (XX P w K mg base N_open_in "open_in" s_open_in f cdv A outer s H E).xe := passes_of rfl
  have hN : (XX P w K mg base N_open_in "open_in" s_open_in f cdv A outer s H E).N.Nodup := sc_open_in.nd
  exact (qss_one (qs_ret (qe_lc (own := [("own", 1)]) (qi_e (qe_call C_overlaps_in (hr.mono (by decide)) tk (qa_cons qe_var qa_nil))) (blkOk_by (N := N_open_in) (sc := defScope s_open_in) (by decide +kernel)) (fun _ _ _ _ _ => qg_name) (fun _ _ _ _ _ => (qts_one (qt_cmp (ok_gt (u64 hr)) (qe_lenSet rfl (u64 hr) (fr "len" (by decide)) (fr "set" (by decide)) (qe_call C_rests_in_overlaps (hr.mono (by decide)) passAt0 (qa_cons qe_var (qa_cons qe_var qa_nil)))) qe_int))) (fun _ _ _ _ _ => qe_var))))
theorem c_open_in {x : Str} {f : Addr} {fd : FuncData} (fr : ∀ x ∈ bn, mg x = none) (C_overlaps_in : Cal P w K mg base "overlaps_in" 2 1 F_overlaps_in) (C_rests_in_overlaps : Cal P w K mg base "rests_in_overlaps" 5 2 F_rests_in_overlaps) (FD : FunD K "open_in" "open_in" (defArgs s_open_in) (defBody s_open_in) (defScope s_open_in) [] [] f fd) (mf : mg x = some (.ref f)) : Cal P w K mg base x 6 1 F_open_in :=
  ⟨f, fd, P_open_in, fn_ok FD sc_open_in (fun cdv A outer s H E B hB hr => q_open_in fr C_overlaps_in C_rests_in_overlaps hB hr), mf, FD.kp, FD.bindsN fun _ _ _ _ _ _ us hl => match us, hl with | [_], _ => rfl⟩
theorem sc_complete_in : FnScope N_complete_in P_complete_in (defScope s_complete_in) := ⟨rfl, rfl, rfl, by decide +kernel, rfl, by decide +kernel, by decide +kernel⟩
theorem q_complete_in {f : Addr} {cdv : Value} {A : Around} {outer : List Env} {s : Shared} {H : Hp} {E : XK} {B : Wd} (fr : ∀ x ∈ bn, mg x = none) (C_directed_in : Cal P w K mg base "directed_in" 2 1 F_directed_in) (C_reduced_in : Cal P w K mg base "reduced_in" 1 1 F_reduced_in) (C_open_in : Cal P w K mg base "open_in" 6 1 F_open_in) (hB : GoodB B) (hr : Room 6 (A.deeper (envOfC "complete_in" (defScope s_complete_in) s.heap.objs.size f cdv))) :
    QSs (XX P w K mg base N_complete_in "complete_in" s_complete_in f cdv A outer s H E) (WWE E) B (defBody s_complete_in) (d_complete_in) := by
  have tk : ∀ σ, PassesAt (L2.CX P w) (XX P w K mg base N_complete_in "complete_in" s_complete_in f cdv A outer s H E) σ (WE (WWE E) σ) := passAt (takes_of rfl rfl rfl rfl)
  have hp : PassesOwn (model P w) (XX P w K mg base N_complete_in "complete_in" s_complete_in f cdv A outer s H E).A (XX P w K mg base N_complete_in "complete_in" s_complete_in f cdv A outer s H E).env (XX P w K mg base N_complete_in "complete_in" s_complete_in f cdv A outer s H E).xe := passes_of rfl
  have hN : (XX P w K mg base N_complete_in "complete_in" s_complete_in f cdv A outer s H E).N.Nodup := sc_complete_in.nd
  exact (qss_one (qs_ret (qe_and (qe_call C_directed_in (hr.mono (by decide)) tk (qa_cons qe_var qa_nil)) (qe_and (qe_call C_reduced_in (hr.mono (by decide)) tk (qa_cons qe_var qa_nil)) (qe_one (qe_cmp (ok_eq (u64 hr)) (qe_call C_open_in (hr.mono (by decide)) tk (qa_cons qe_var qa_nil)) (qe_lst qa_nil)))))))
theorem c_complete_in {x : Str} {f : Addr} {fd : FuncData} (fr : ∀ x ∈ bn, mg x = none) (C_directed_in : Cal P w K mg base "directed_in" 2 1 F_directed_in) (C_reduced_in : Cal P w K mg base "reduced_in" 1 1 F_reduced_in) (C_open_in : Cal P w K mg base "open_in" 6 1 F_open_in) (FD : FunD K "complete_in" "complete_in" (defArgs s_complete_in) (defBody s_complete_in) (defScope s_complete_in) [] [] f fd) (mf : mg x = some (.ref f)) : Cal P w K mg base x 7 1 F_complete_in :=
  ⟨f, fd, P_complete_in, fn_ok FD sc_complete_in (fun cdv A outer s H E B hB hr => q_complete_in fr C_directed_in C_reduced_in C_open_in hB hr), mf, FD.kp, FD.bindsN fun _ _ _ _ _ _ us hl => match us, hl with | [_], _ => rfl⟩
theorem sc_rests_in : FnScope N_rests_in P_rests_in (defScope s_rests_in) := ⟨rfl, rfl, rfl, by decide +kernel, rfl, by decide +kernel, by decide +kernel⟩
theorem q_rests_in {f : Addr} {cdv : Value} {A : Around} {outer : List Env} {s : Shared} {H : Hp} {E : XK} {B : Wd} (fr : ∀ x ∈ bn, mg x = none) (m_LETTERS : ∃ t, mg "LETTERS" = some (.str (⟨#[97, 98, 99, 100]⟩) t)) (m_MOST : ∃ t, mg "MOST" = some (.int (24) t)) (m_RULES : ∃ t, mg "RULES" = some (.int (1) t)) (m_SIZE : ∃ t, mg "SIZE" = some (.int (0) t)) (hB : GoodB B) (hr : Room 0 (A.deeper (envOfC "rests_in" (defScope s_rests_in) s.heap.objs.size f cdv))) :
    QSs (XX P w K mg base N_rests_in "rests_in" s_rests_in f cdv A outer s H E) (WWE E) B (defBody s_rests_in) (d_rests_in) := by
  have tk : ∀ σ, PassesAt (L2.CX P w) (XX P w K mg base N_rests_in "rests_in" s_rests_in f cdv A outer s H E) σ (WE (WWE E) σ) := passAt (takes_of rfl rfl rfl rfl)
  have hp : PassesOwn (model P w) (XX P w K mg base N_rests_in "rests_in" s_rests_in f cdv A outer s H E).A (XX P w K mg base N_rests_in "rests_in" s_rests_in f cdv A outer s H E).env (XX P w K mg base N_rests_in "rests_in" s_rests_in f cdv A outer s H E).xe := passes_of rfl
  have hN : (XX P w K mg base N_rests_in "rests_in" s_rests_in f cdv A outer s H E).N.Nodup := sc_rests_in.nd
  exact (qss_cons (qs_par hB (qa_cons (qe_lst (qa_cons (qe_str (by rfl)) qa_nil)) (qa_cons (qe_lst (qa_cons (qe_str (by rfl)) qa_nil)) qa_nil)))
    (qss_cons (qs_while 3000 hp (qt_cmp (ok_ne (u64 hr)) qe_var (qe_lst qa_nil)) (qss_cons (qs_asgLc2 (hB := hB) (own := [("word", 4), ("letter", 5)]) [5] (qi_e qe_var) (blkOk_by (N := N_rests_in) (sc := defScope s_rests_in) (by decide +kernel)) (fun _ _ _ _ _ => qg_name) (fun _ _ _ _ _ => qts_nil) (fun _ _ _ _ _ => (qi_e (qe_slice (qe_gstr m_LETTERS) qo_none (qo_some (qe_ix qe_var (qe_gint m_SIZE)))))) (fun _ _ _ _ _ => qg_name) (fun _ _ _ _ _ => qts_nil) (fun _ _ _ _ _ => (qe_bin ok_add qe_var qe_var)))
    (qss_cons (qs_asgLc (hB := hB) (own := [("word", 4)]) (qi_e qe_var) (blkOk_by (N := N_rests_in) (sc := defScope s_rests_in) (by decide +kernel)) (fun _ _ _ _ _ => qg_name) (fun _ _ _ _ _ => (qts_one (qt_not (qt_val (qe_callB (ok_any rfl) rfl (fr "any" (by decide)) (by decide +kernel) (qa_cons (qe_lc (own := [("left", 6), ("right", 7)]) (qi_e (qe_ix qe_var (qe_gint m_RULES))) (by refine blkOk_by (N := N_rests_in) (?_ : blkC _ _ _ _ = true); exact (by kernel_rfl)) (fun _ _ _ _ _ => (qg_tup (qgs_cons qg_name (qgs_cons qg_name qgs_nil)))) (fun _ _ _ _ _ => qts_nil) (fun _ _ _ _ _ => (qe_cmp (ok_in (u65 hr)) qe_var qe_var))) qa_nil)))))) (fun _ _ _ _ _ => qe_var) )
    (qss_cons (qs_extO qe_var)
    (qss_one (qs_if (qt_cmp (ok_gt (u64 hr)) (qe_callB ok_len rfl (fr "len" (by decide)) (by decide +kernel) (qa_cons qe_var qa_nil)) (qe_gint m_MOST)) (qss_one (qs_ret qe_none)) qss_nil))))))
    (qss_one qs_retO)))
theorem c_rests_in {x : Str} {f : Addr} {fd : FuncData} (fr : ∀ x ∈ bn, mg x = none) (m_LETTERS : ∃ t, mg "LETTERS" = some (.str (⟨#[97, 98, 99, 100]⟩) t)) (m_MOST : ∃ t, mg "MOST" = some (.int (24) t)) (m_RULES : ∃ t, mg "RULES" = some (.int (1) t)) (m_SIZE : ∃ t, mg "SIZE" = some (.int (0) t)) (FD : FunD K "rests_in" "rests_in" (defArgs s_rests_in) (defBody s_rests_in) (defScope s_rests_in) [] [] f fd) (mf : mg x = some (.ref f)) : Cal P w K mg base x 1 1 F_rests_in :=
  ⟨f, fd, P_rests_in, fn_ok FD sc_rests_in (fun cdv A outer s H E B hB hr => q_rests_in fr m_LETTERS m_MOST m_RULES m_SIZE hB hr), mf, FD.kp, FD.bindsN fun _ _ _ _ _ _ us hl => match us, hl with | [_], _ => rfl⟩
theorem sc_finite_in : FnScope N_finite_in P_finite_in (defScope s_finite_in) := ⟨rfl, rfl, rfl, by decide +kernel, rfl, by decide +kernel, by decide +kernel⟩
theorem q_finite_in {f : Addr} {cdv : Value} {A : Around} {outer : List Env} {s : Shared} {H : Hp} {E : XK} {B : Wd} (fr : ∀ x ∈ bn, mg x = none) (C_complete_in : Cal P w K mg base "complete_in" 7 1 F_complete_in) (C_rests_in_monoids : Cal P w K mg base "rests_in_monoids" 1 1 F_rests_in) (hB : GoodB B) (hr : Room 7 (A.deeper (envOfC "finite_in" (defScope s_finite_in) s.heap.objs.size f cdv))) :
    QSs (XX P w K mg base N_finite_in "finite_in" s_finite_in f cdv A outer s H E) (WWE E) B (defBody s_finite_in) (d_finite_in) := by
  have tk : ∀ σ, PassesAt (L2.CX P w) (XX P w K mg base N_finite_in "finite_in" s_finite_in f cdv A outer s H E) σ (WE (WWE E) σ) := passAt (takes_of rfl rfl rfl rfl)
  have hp : PassesOwn (model P w) (XX P w K mg base N_finite_in "finite_in" s_finite_in f cdv A outer s H E).A (XX P w K mg base N_finite_in "finite_in" s_finite_in f cdv A outer s H E).env (XX P w K mg base N_finite_in "finite_in" s_finite_in f cdv A outer s H E).xe := passes_of rfl
  have hN : (XX P w K mg base N_finite_in "finite_in" s_finite_in f cdv A outer s H E).N.Nodup := sc_finite_in.nd
  exact (qss_one (qs_ret (qe_and (qe_call C_complete_in (hr.mono (by decide)) tk (qa_cons qe_var qa_nil)) (qe_one (qe_notN (qe_call C_rests_in_monoids (hr.mono (by decide)) tk (qa_cons qe_var qa_nil)))))))
theorem c_finite_in {x : Str} {f : Addr} {fd : FuncData} (fr : ∀ x ∈ bn, mg x = none) (C_complete_in : Cal P w K mg base "complete_in" 7 1 F_complete_in) (C_rests_in_monoids : Cal P w K mg base "rests_in_monoids" 1 1 F_rests_in) (FD : FunD K "finite_in" "finite_in" (defArgs s_finite_in) (defBody s_finite_in) (defScope s_finite_in) [] [] f fd) (mf : mg x = some (.ref f)) : Cal P w K mg base x 8 1 F_finite_in :=
  ⟨f, fd, P_finite_in, fn_ok FD sc_finite_in (fun cdv A outer s H E B hB hr => q_finite_in fr C_complete_in C_rests_in_monoids hB hr), mf, FD.kp, FD.bindsN fun _ _ _ _ _ _ us hl => match us, hl with | [_], _ => rfl⟩
theorem sc_need_finite : FnScope N_need_finite P_need_finite (defScope s_need_finite) := ⟨rfl, rfl, rfl, by decide +kernel, rfl, by decide +kernel, by decide +kernel⟩
theorem q_need_finite {f : Addr} {cdv : Value} {A : Around} {outer : List Env} {s : Shared} {H : Hp} {E : XK} {B : Wd} (fr : ∀ x ∈ bn, mg x = none) (C_need_system : Cal P w K mg base "need_system" 4 1 F_need_system) (C_finite_in : Cal P w K mg base "finite_in" 8 1 F_finite_in) (hB : GoodB B) (hr : Room 8 (A.deeper (envOfC "need_finite" (defScope s_need_finite) s.heap.objs.size f cdv))) :
    QSs (XX P w K mg base N_need_finite "need_finite" s_need_finite f cdv A outer s H E) (WWE E) B (defBody s_need_finite) (d_need_finite) := by
  have tk : ∀ σ, PassesAt (L2.CX P w) (XX P w K mg base N_need_finite "need_finite" s_need_finite f cdv A outer s H E) σ (WE (WWE E) σ) := passAt (takes_of rfl rfl rfl rfl)
  have hp : PassesOwn (model P w) (XX P w K mg base N_need_finite "need_finite" s_need_finite f cdv A outer s H E).A (XX P w K mg base N_need_finite "need_finite" s_need_finite f cdv A outer s H E).env (XX P w K mg base N_need_finite "need_finite" s_need_finite f cdv A outer s H E).xe := passes_of rfl
  have hN : (XX P w K mg base N_need_finite "need_finite" s_need_finite f cdv A outer s H E).N.Nodup := sc_need_finite.nd
  exact (qss_cons (qs_expr (qe_call C_need_system (hr.mono (by decide)) tk (qa_cons qe_var qa_nil)))
    (qss_one (qs_if (qt_not (qt_val (qe_call C_finite_in (hr.mono (by decide)) tk (qa_cons qe_var qa_nil)))) (qss_one qs_bad) qss_nil)))
theorem c_need_finite {x : Str} {f : Addr} {fd : FuncData} (fr : ∀ x ∈ bn, mg x = none) (C_need_system : Cal P w K mg base "need_system" 4 1 F_need_system) (C_finite_in : Cal P w K mg base "finite_in" 8 1 F_finite_in) (FD : FunD K "need_finite" "need_finite" (defArgs s_need_finite) (defBody s_need_finite) (defScope s_need_finite) [] [] f fd) (mf : mg x = some (.ref f)) : Cal P w K mg base x 9 1 F_need_finite :=
  ⟨f, fd, P_need_finite, fn_ok FD sc_need_finite (fun cdv A outer s H E B hB hr => q_need_finite fr C_need_system C_finite_in hB hr), mf, FD.kp, FD.bindsN fun _ _ _ _ _ _ us hl => match us, hl with | [_], _ => rfl⟩
theorem sc_need_element : FnScope N_need_element P_need_element (defScope s_need_element) := ⟨rfl, rfl, rfl, by decide +kernel, rfl, by decide +kernel, by decide +kernel⟩
theorem q_need_element {f : Addr} {cdv : Value} {A : Around} {outer : List Env} {s : Shared} {H : Hp} {E : XK} {B : Wd} (fr : ∀ x ∈ bn, mg x = none) (C_fits_whole : Cal P w K mg base "fits_whole" 1 3 F_fits_whole) (C_rests_in_monoids : Cal P w K mg base "rests_in_monoids" 1 1 F_rests_in) (hB : GoodB B) (hr : Room 1 (A.deeper (envOfC "need_element" (defScope s_need_element) s.heap.objs.size f cdv))) :
    QSs (XX P w K mg base N_need_element "need_element" s_need_element f cdv A outer s H E) (WWE E) B (defBody s_need_element) (d_need_element) := by
  have tk : ∀ σ, PassesAt (L2.CX P w) (XX P w K mg base N_need_element "need_element" s_need_element f cdv A outer s H E) σ (WE (WWE E) σ) := passAt (takes_of rfl rfl rfl rfl)
  have hp : PassesOwn (model P w) (XX P w K mg base N_need_element "need_element" s_need_element f cdv A outer s H E).A (XX P w K mg base N_need_element "need_element" s_need_element f cdv A outer s H E).env (XX P w K mg base N_need_element "need_element" s_need_element f cdv A outer s H E).xe := passes_of rfl
  have hN : (XX P w K mg base N_need_element "need_element" s_need_element f cdv A outer s H E).N.Nodup := sc_need_element.nd
  exact (qss_one (qs_if (qt_not (qt_val (qe_call C_fits_whole (hr.mono (by decide)) tk (qa_cons qe_var (qa_cons qe_int (qa_cons (qe_bin ok_sub (qe_callB ok_len rfl (fr "len" (by decide)) (by decide +kernel) (qa_cons (qe_call C_rests_in_monoids (hr.mono (by decide)) tk (qa_cons qe_var qa_nil)) qa_nil)) qe_int) qa_nil)))))) (qss_one qs_bad) qss_nil))
theorem c_need_element {x : Str} {f : Addr} {fd : FuncData} (fr : ∀ x ∈ bn, mg x = none) (C_fits_whole : Cal P w K mg base "fits_whole" 1 3 F_fits_whole) (C_rests_in_monoids : Cal P w K mg base "rests_in_monoids" 1 1 F_rests_in) (FD : FunD K "need_element" "need_element" (defArgs s_need_element) (defBody s_need_element) (defScope s_need_element) [] [] f fd) (mf : mg x = some (.ref f)) : Cal P w K mg base x 2 2 F_need_element :=
  ⟨f, fd, P_need_element, fn_ok FD sc_need_element (fun cdv A outer s H E B hB hr => q_need_element fr C_fits_whole C_rests_in_monoids hB hr), mf, FD.kp, FD.bindsN fun _ _ _ _ _ _ us hl => match us, hl with | [_, _], _ => rfl⟩
theorem sc_powers_in : FnScope N_powers_in P_powers_in (defScope s_powers_in) := ⟨rfl, rfl, rfl, by decide +kernel, rfl, by decide +kernel, by decide +kernel⟩
theorem q_powers_in {f : Addr} {cdv : Value} {A : Around} {outer : List Env} {s : Shared} {H : Hp} {E : XK} {B : Wd} (fr : ∀ x ∈ bn, mg x = none) (m_ONE_monoids : ∃ t, mg "ONE_monoids" = some (.int (0) t)) (hB : GoodB B) (hr : Room 0 (A.deeper (envOfC "powers_in" (defScope s_powers_in) s.heap.objs.size f cdv))) :
    QSs (XX P w K mg base N_powers_in "powers_in" s_powers_in f cdv A outer s H E) (WWE E) B (defBody s_powers_in) (d_powers_in) := by
  have tk : ∀ σ, PassesAt (L2.CX P w) (XX P w K mg base N_powers_in "powers_in" s_powers_in f cdv A outer s H E) σ (WE (WWE E) σ) := passAt (takes_of rfl rfl rfl rfl)
  have hp : PassesOwn (model P w) (XX P w K mg base N_powers_in "powers_in" s_powers_in f cdv A outer s H E).A (XX P w K mg base N_powers_in "powers_in" s_powers_in f cdv A outer s H E).env (XX P w K mg base N_powers_in "powers_in" s_powers_in f cdv A outer s H E).xe := passes_of rfl
  have hN : (XX P w K mg base N_powers_in "powers_in" s_powers_in f cdv A outer s H E).N.Nodup := sc_powers_in.nd
  exact (qss_cons (qs_par hB (qa_cons (qe_lst qa_nil) (qa_cons (qe_gint m_ONE_monoids) qa_nil)))
    (qss_cons (qs_while 3000 hp (qt_cmp (ok_notIn (u65 hr)) qe_var qe_var) (qss_cons (qs_appO qe_var)
    (qss_one (qs_asg hB (qe_ix (qe_ix qe_var qe_var) qe_var)))))
    (qss_one qs_retO)))
theorem c_powers_in {x : Str} {f : Addr} {fd : FuncData} (fr : ∀ x ∈ bn, mg x = none) (m_ONE_monoids : ∃ t, mg "ONE_monoids" = some (.int (0) t)) (FD : FunD K "powers_in" "powers_in" (defArgs s_powers_in) (defBody s_powers_in) (defScope s_powers_in) [] [] f fd) (mf : mg x = some (.ref f)) : Cal P w K mg base x 1 2 F_powers_in :=
  ⟨f, fd, P_powers_in, fn_ok FD sc_powers_in (fun cdv A outer s H E B hB hr => q_powers_in fr m_ONE_monoids hB hr), mf, FD.kp, FD.bindsN fun _ _ _ _ _ _ us hl => match us, hl with | [_, _], _ => rfl⟩
theorem sc_cycle_in : FnScope N_cycle_in P_cycle_in (defScope s_cycle_in) := ⟨rfl, rfl, rfl, by decide +kernel, rfl, by decide +kernel, by decide +kernel⟩
theorem q_cycle_in {f : Addr} {cdv : Value} {A : Around} {outer : List Env} {s : Shared} {H : Hp} {E : XK} {B : Wd} (fr : ∀ x ∈ bn, mg x = none) (C_powers_in : Cal P w K mg base "powers_in" 1 2 F_powers_in) (hB : GoodB B) (hr : Room 1 (A.deeper (envOfC "cycle_in" (defScope s_cycle_in) s.heap.objs.size f cdv))) :
    QSs (XX P w K mg base N_cycle_in "cycle_in" s_cycle_in f cdv A outer s H E) (WWE E) B (defBody s_cycle_in) (d_cycle_in) := by
  have tk : ∀ σ, PassesAt (L2.CX P w) (XX P w K mg base N_cycle_in "cycle_in" s_cycle_in f cdv A outer s H E) σ (WE (WWE E) σ) := passAt (takes_of rfl rfl rfl rfl)
  have hp : PassesOwn (model P w) (XX P w K mg base N_cycle_in "cycle_in" s_cycle_in f cdv A outer s H E).A (XX P w K mg base N_cycle_in "cycle_in" s_cycle_in f cdv A outer s H E).env (XX P w K mg base N_cycle_in "cycle_in" s_cycle_in f cdv A outer s H E).xe := passes_of rfl
  have hN : (XX P w K mg base N_cycle_in "cycle_in" s_cycle_in f cdv A outer s H E).N.Nodup := sc_cycle_in.nd
  exact (qss_cons (qs_asg hB (qe_call C_powers_in (hr.mono (by decide)) tk (qa_cons qe_var (qa_cons qe_var qa_nil))))
    (qss_cons (qs_asg hB (qe_index (u65 hr) qe_var (qe_ix (qe_ix qe_var (qe_ix qe_var (qe_neg qe_int))) qe_var)))
    (qss_one (qs_ret (qe_tup (qa_cons qe_var (qa_cons (qe_bin ok_sub (qe_callB ok_len rfl (fr "len" (by decide)) (by decide +kernel) (qa_cons qe_var qa_nil)) qe_var) qa_nil)))))))
theorem c_cycle_in {x : Str} {f : Addr} {fd : FuncData} (fr : ∀ x ∈ bn, mg x = none) (C_powers_in : Cal P w K mg base "powers_in" 1 2 F_powers_in) (FD : FunD K "cycle_in" "cycle_in" (defArgs s_cycle_in) (defBody s_cycle_in) (defScope s_cycle_in) [] [] f fd) (mf : mg x = some (.ref f)) : Cal P w K mg base x 2 2 F_cycle_in :=
  ⟨f, fd, P_cycle_in, fn_ok FD sc_cycle_in (fun cdv A outer s H E B hB hr => q_cycle_in fr C_powers_in hB hr), mf, FD.kp, FD.bindsN fun _ _ _ _ _ _ us hl => match us, hl with | [_, _], _ => rfl⟩
theorem sc_table_in : FnScope N_table_in P_table_in (defScope s_table_in) := ⟨rfl, rfl, rfl, by decide +kernel, rfl, by decide +kernel, by decide +kernel⟩
theorem q_table_in {f : Addr} {cdv : Value} {A : Around} {outer : List Env} {s : Shared} {H : Hp} {E : XK} {B : Wd} (fr : ∀ x ∈ bn, mg x = none) (C_rests_in_monoids : Cal P w K mg base "rests_in_monoids" 1 1 F_rests_in) (C_rest_in : Cal P w K mg base "rest_in" 4 2 F_rest_in) (hB : GoodB B) (hr : Room 4 (A.deeper (envOfC "table_in" (defScope s_table_in) s.heap.objs.size f cdv))) :
    QSs (XX P w K mg base N_table_in "table_in" s_table_in f cdv A outer s H E) (WWE E) B (defBody s_table_in) (d_table_in) := by
  have tk : ∀ σ, PassesAt (L2.CX P w) (XX P w K mg base N_table_in "table_in" s_table_in f cdv A outer s H E) σ (WE (WWE E) σ) := passAt (takes_of rfl rfl rfl rfl)
  have hp : PassesOwn (model P w) (XX P w K mg base N_table_in "table_in" s_table_in f cdv A outer s H E).A (XX P w K mg base N_table_in "table_in" s_table_in f cdv A outer s H E).env (XX P w K mg base N_table_in "table_in" s_table_in f cdv A outer s H E).xe := passes_of rfl
  have hN : (XX P w K mg base N_table_in "table_in" s_table_in f cdv A outer s H E).N.Nodup := sc_table_in.nd
  exact (qss_cons (qs_asg hB (qe_call C_rests_in_monoids (hr.mono (by decide)) tk (qa_cons qe_var qa_nil)))
    (qss_one (qs_ret (qe_callTy ok_tuple rfl (fr "tuple" (by decide)) (by decide +kernel) (qa_cons (qe_lc (own := [("one", 2)]) (qi_e qe_var) (blkOk_by (N := N_table_in) (sc := defScope s_table_in) (by decide +kernel)) (fun _ _ _ _ _ => qg_name) (fun _ _ _ _ _ => qts_nil) (fun _ _ _ _ _ => (qe_callTy ok_tuple rfl (fr "tuple" (by decide)) (by decide +kernel) (qa_cons (qe_lc (own := [("other", 3)]) (qi_e qe_var) (by refine blkOk_by (N := N_table_in) (?_ : blkC _ _ _ _ = true); exact (by kernel_rfl)) (fun _ _ _ _ _ => qg_name) (fun _ _ _ _ _ => qts_nil) (fun _ _ _ _ _ => (qe_index (u65 hr) qe_var (qe_ix (qe_call C_rest_in (hr.mono (by decide)) passAt0 (qa_cons qe_var (qa_cons (qe_bin ok_add qe_var qe_var) qa_nil))) qe_int)))) qa_nil)))) qa_nil)))))
theorem c_table_in {x : Str} {f : Addr} {fd : FuncData} (fr : ∀ x ∈ bn, mg x = none) (C_rests_in_monoids : Cal P w K mg base "rests_in_monoids" 1 1 F_rests_in) (C_rest_in : Cal P w K mg base "rest_in" 4 2 F_rest_in) (FD : FunD K "table_in" "table_in" (defArgs s_table_in) (defBody s_table_in) (defScope s_table_in) [] [] f fd) (mf : mg x = some (.ref f)) : Cal P w K mg base x 5 1 F_table_in :=
  ⟨f, fd, P_table_in, fn_ok FD sc_table_in (fun cdv A outer s H E B hB hr => q_table_in fr C_rests_in_monoids C_rest_in hB hr), mf, FD.kp, FD.bindsN fun _ _ _ _ _ _ us hl => match us, hl with | [_], _ => rfl⟩
theorem sc_cycle_of : FnScope N_cycle_of P_cycle_of (defScope s_cycle_of) := ⟨rfl, rfl, rfl, by decide +kernel, rfl, by decide +kernel, by decide +kernel⟩
theorem q_cycle_of {f : Addr} {cdv : Value} {A : Around} {outer : List Env} {s : Shared} {H : Hp} {E : XK} {B : Wd} (fr : ∀ x ∈ bn, mg x = none) (C_need_finite : Cal P w K mg base "need_finite" 9 1 F_need_finite) (C_need_element : Cal P w K mg base "need_element" 2 2 F_need_element) (C_cycle_in : Cal P w K mg base "cycle_in" 2 2 F_cycle_in) (C_table_in : Cal P w K mg base "table_in" 5 1 F_table_in) (hB : GoodB B) (hr : Room 9 (A.deeper (envOfC "cycle_of" (defScope s_cycle_of) s.heap.objs.size f cdv))) :
    QSs (XX P w K mg base N_cycle_of "cycle_of" s_cycle_of f cdv A outer s H E) (WWE E) B (defBody s_cycle_of) (d_cycle_of) := by
  have tk : ∀ σ, PassesAt (L2.CX P w) (XX P w K mg base N_cycle_of "cycle_of" s_cycle_of f cdv A outer s H E) σ (WE (WWE E) σ) := passAt (takes_of rfl rfl rfl rfl)
  have hp : PassesOwn (model P w) (XX P w K mg base N_cycle_of "cycle_of" s_cycle_of f cdv A outer s H E).A (XX P w K mg base N_cycle_of "cycle_of" s_cycle_of f cdv A outer s H E).env (XX P w K mg base N_cycle_of "cycle_of" s_cycle_of f cdv A outer s H E).xe := passes_of rfl
  have hN : (XX P w K mg base N_cycle_of "cycle_of" s_cycle_of f cdv A outer s H E).N.Nodup := sc_cycle_of.nd
  exact (qss_cons (qs_expr (qe_call C_need_finite (hr.mono (by decide)) tk (qa_cons qe_var qa_nil)))
    (qss_cons (qs_expr (qe_call C_need_element (hr.mono (by decide)) tk (qa_cons qe_var (qa_cons qe_var qa_nil))))
    (qss_one (qs_ret (qe_call C_cycle_in (hr.mono (by decide)) tk (qa_cons (qe_call C_table_in (hr.mono (by decide)) tk (qa_cons qe_var qa_nil)) (qa_cons qe_var qa_nil)))))))
theorem c_cycle_of {x : Str} {f : Addr} {fd : FuncData} (fr : ∀ x ∈ bn, mg x = none) (C_need_finite : Cal P w K mg base "need_finite" 9 1 F_need_finite) (C_need_element : Cal P w K mg base "need_element" 2 2 F_need_element) (C_cycle_in : Cal P w K mg base "cycle_in" 2 2 F_cycle_in) (C_table_in : Cal P w K mg base "table_in" 5 1 F_table_in) (FD : FunD K "cycle_of" "cycle_of" (defArgs s_cycle_of) (defBody s_cycle_of) (defScope s_cycle_of) [] [] f fd) (mf : mg x = some (.ref f)) : Cal P w K mg base x 10 2 F_cycle_of :=
  ⟨f, fd, P_cycle_of, fn_ok FD sc_cycle_of (fun cdv A outer s H E B hB hr => q_cycle_of fr C_need_finite C_need_element C_cycle_in C_table_in hB hr), mf, FD.kp, FD.bindsN fun _ _ _ _ _ _ us hl => match us, hl with | [_, _], _ => rfl⟩
theorem sc_power_of : FnScope N_power_of P_power_of (defScope s_power_of) := ⟨rfl, rfl, rfl, by decide +kernel, rfl, by decide +kernel, by decide +kernel⟩
theorem q_power_of {f : Addr} {cdv : Value} {A : Around} {outer : List Env} {s : Shared} {H : Hp} {E : XK} {B : Wd} (fr : ∀ x ∈ bn, mg x = none) (m_OFTEN : ∃ t, mg "OFTEN" = some (.int (1000) t)) (C_need_finite : Cal P w K mg base "need_finite" 9 1 F_need_finite) (C_need_element : Cal P w K mg base "need_element" 2 2 F_need_element) (C_fits_whole : Cal P w K mg base "fits_whole" 1 3 F_fits_whole) (C_table_in : Cal P w K mg base "table_in" 5 1 F_table_in) (C_powers_in : Cal P w K mg base "powers_in" 1 2 F_powers_in) (C_cycle_in : Cal P w K mg base "cycle_in" 2 2 F_cycle_in) (hB : GoodB B) (hr : Room 9 (A.deeper (envOfC "power_of" (defScope s_power_of) s.heap.objs.size f cdv))) :
    QSs (XX P w K mg base N_power_of "power_of" s_power_of f cdv A outer s H E) (WWE E) B (defBody s_power_of) (d_power_of) := by
  have tk : ∀ σ, PassesAt (L2.CX P w) (XX P w K mg base N_power_of "power_of" s_power_of f cdv A outer s H E) σ (WE (WWE E) σ) := passAt (takes_of rfl rfl rfl rfl)
  have hp : PassesOwn (model P w) (XX P w K mg base N_power_of "power_of" s_power_of f cdv A outer s H E).A (XX P w K mg base N_power_of "power_of" s_power_of f cdv A outer s H E).env (XX P w K mg base N_power_of "power_of" s_power_of f cdv A outer s H E).xe := passes_of rfl
  have hN : (XX P w K mg base N_power_of "power_of" s_power_of f cdv A outer s H E).N.Nodup := sc_power_of.nd
  exact (qss_cons (qs_expr (qe_call C_need_finite (hr.mono (by decide)) tk (qa_cons qe_var qa_nil)))
    (qss_cons (qs_expr (qe_call C_need_element (hr.mono (by decide)) tk (qa_cons qe_var (qa_cons qe_var qa_nil))))
    (qss_cons (qs_if (qt_not (qt_val (qe_call C_fits_whole (hr.mono (by decide)) tk (qa_cons qe_var (qa_cons qe_int (qa_cons (qe_gint m_OFTEN) qa_nil)))))) (qss_one qs_bad) qss_nil)
    (qss_cons (qs_asg hB (qe_call C_table_in (hr.mono (by decide)) tk (qa_cons qe_var qa_nil)))
    (qss_cons (qs_unp (qe_tup (qa_cons (qe_call C_powers_in (hr.mono (by decide)) tk (qa_cons qe_var (qa_cons qe_var qa_nil))) (qa_cons (qe_call C_cycle_in (hr.mono (by decide)) tk (qa_cons qe_var (qa_cons qe_var qa_nil))) qa_nil))) (qg_tup (qgs_cons qg_name (qgs_cons (qg_tup (qgs_cons qg_name (qgs_cons qg_name qgs_nil))) qgs_nil))))
    (qss_one (qs_ret (qe_if (qt_cmp (ok_lt (u64 hr)) qe_var (qe_callB ok_len rfl (fr "len" (by decide)) (by decide +kernel) (qa_cons qe_var qa_nil))) (qe_ix qe_var qe_var) (qe_ix qe_var (qe_bin ok_add qe_var (qe_bin ok_mod (qe_bin ok_sub qe_var qe_var) qe_var)))))))))))
theorem c_power_of {x : Str} {f : Addr} {fd : FuncData} (fr : ∀ x ∈ bn, mg x = none) (m_OFTEN : ∃ t, mg "OFTEN" = some (.int (1000) t)) (C_need_finite : Cal P w K mg base "need_finite" 9 1 F_need_finite) (C_need_element : Cal P w K mg base "need_element" 2 2 F_need_element) (C_fits_whole : Cal P w K mg base "fits_whole" 1 3 F_fits_whole) (C_table_in : Cal P w K mg base "table_in" 5 1 F_table_in) (C_powers_in : Cal P w K mg base "powers_in" 1 2 F_powers_in) (C_cycle_in : Cal P w K mg base "cycle_in" 2 2 F_cycle_in) (FD : FunD K "power_of" "power_of" (defArgs s_power_of) (defBody s_power_of) (defScope s_power_of) [] [] f fd) (mf : mg x = some (.ref f)) : Cal P w K mg base x 10 3 F_power_of :=
  ⟨f, fd, P_power_of, fn_ok FD sc_power_of (fun cdv A outer s H E B hB hr => q_power_of fr m_OFTEN C_need_finite C_need_element C_fits_whole C_table_in C_powers_in C_cycle_in hB hr), mf, FD.kp, FD.bindsN fun _ _ _ _ _ _ us hl => match us, hl with | [_, _, _], _ => rfl⟩
theorem sc__law_same : FnScope N__law_same P__law_same (defScope s__law_same) := ⟨rfl, rfl, rfl, by decide +kernel, rfl, by decide +kernel, by decide +kernel⟩
theorem q__law_same {f : Addr} {cdv : Value} {A : Around} {outer : List Env} {s : Shared} {H : Hp} {E : XK} {B : Wd} (fr : ∀ x ∈ bn, mg x = none) {m : Nat} {FF : Fd} (C__law_same : Cal P w K mg base "_law_same" (0 + m) 2 FF) (hB : GoodB B) (hr : Room (0 + m) (A.deeper (envOfC "_law_same" (defScope s__law_same) s.heap.objs.size f cdv))) :
    QSs (XX P w K mg base N__law_same "_law_same" s__law_same f cdv A outer s H E) (WWE E) B (defBody s__law_same) (d__law_same FF) := by
  have tk : ∀ σ, PassesAt (L2.CX P w) (XX P w K mg base N__law_same "_law_same" s__law_same f cdv A outer s H E) σ (WE (WWE E) σ) := passAt (takes_of rfl rfl rfl rfl)
  have hp : PassesOwn (model P w) (XX P w K mg base N__law_same "_law_same" s__law_same f cdv A outer s H E).A (XX P w K mg base N__law_same "_law_same" s__law_same f cdv A outer s H E).env (XX P w K mg base N__law_same "_law_same" s__law_same f cdv A outer s H E).xe := passes_of rfl
  have hN : (XX P w K mg base N__law_same "_law_same" s__law_same f cdv A outer s H E).N.Nodup := sc__law_same.nd
  exact (qss_cons (qs_if (qt_val (qe_isi (T := .tup) rfl rfl (fr "isinstance" (by decide)) rfl (fr "tuple" (by decide)) (by decide +kernel) qe_var)) (qss_cons (qs_if (QW.qt (qw_or (qt_not (qt_val (qe_isi (T := .tup) rfl rfl (fr "isinstance" (by decide)) rfl (fr "tuple" (by decide)) (by decide +kernel) qe_var))) (qw_or1 (qt_cmp (ok_ne (u64 hr)) (qe_callB ok_len rfl (fr "len" (by decide)) (by decide +kernel) (qa_cons qe_var qa_nil)) (qe_callB ok_len rfl (fr "len" (by decide)) (by decide +kernel) (qa_cons qe_var qa_nil)))))) (qss_one (qs_ret qe_bool)) qss_nil)
    (qss_one (qs_ret (qe_callB (ok_all rfl) rfl (fr "all" (by decide)) (by decide +kernel) (qa_cons (qe_lc (own := [("at", 2)]) (qi_range1 rfl (fr "range" (by decide)) (qe_callB ok_len rfl (fr "len" (by decide)) (by decide +kernel) (qa_cons qe_var qa_nil))) (blkOk_by (N := N__law_same) (sc := defScope s__law_same) (by decide +kernel)) (fun _ _ _ _ _ => qg_name) (fun _ _ _ _ _ => qts_nil) (fun _ _ _ _ _ => (qe_call C__law_same (hr.mono (by omega)) passAt0 (qa_cons (qe_ix qe_var qe_var) (qa_cons (qe_ix qe_var qe_var) qa_nil))))) qa_nil))))) qss_nil)
    (qss_cons (qs_if (qt_isN qe_var) (qss_one (qs_ret (qe_isN qe_var))) qss_nil)
    (qss_cons (qs_if (qt_val (qe_isi (T := .bool) rfl rfl (fr "isinstance" (by decide)) rfl (fr "bool" (by decide)) (by decide +kernel) qe_var)) (qss_one (qs_ret (qe_if (qt_val qe_var) (qe_cmp ok_is qe_var qe_bool) (qe_cmp ok_is qe_var qe_bool)))) qss_nil)
    (qss_cons (qs_if (qt_val (qe_isi (T := .int) rfl rfl (fr "isinstance" (by decide)) rfl (fr "int" (by decide)) (by decide +kernel) qe_var)) (qss_one (qs_ret (qe_and (qe_isi (T := .int) rfl rfl (fr "isinstance" (by decide)) rfl (fr "int" (by decide)) (by decide +kernel) qe_var) (qe_and (qe_not (qe_isi (T := .bool) rfl rfl (fr "isinstance" (by decide)) rfl (fr "bool" (by decide)) (by decide +kernel) qe_var)) (qe_one (qe_cmp (ok_eq (u64 hr)) (qe_callTy ok_int rfl (fr "int" (by decide)) (by decide +kernel) (qa_cons qe_var qa_nil)) qe_var)))))) qss_nil)
    (qss_one (qs_ret (qe_and (qe_isi (T := .str) rfl rfl (fr "isinstance" (by decide)) rfl (fr "str" (by decide)) (by decide +kernel) qe_var) (qe_one (qe_cmp (ok_eq (u64 hr)) (qe_callTy ok_str rfl (fr "str" (by decide)) (by decide +kernel) (qa_cons qe_var qa_nil)) qe_var)))))))))
theorem cr__law_same {f : Addr} {fd : FuncData} (fr : ∀ x ∈ bn, mg x = none) (FD : FunD K "_law_same" "_law_same" (defArgs s__law_same) (defBody s__law_same) (defScope s__law_same) [] [] f fd) (mf : mg "_law_same" = some (.ref f)) : ∀ m, Cal P w K mg base "_law_same" (0 + m + 1) 2 (FR__law_same m)
  | 0 => ⟨f, fd, P__law_same, fn_bad FD sc__law_same, mf, FD.kp, FD.bindsN fun _ _ _ _ _ _ us hl => match us, hl with | [_, _], _ => rfl⟩
  | m + 1 => ⟨f, fd, P__law_same, fn_ok FD sc__law_same (fun cdv A outer s H E B hB hr => q__law_same fr (m := m + 1) (cr__law_same fr FD mf m) hB hr), mf, FD.kp, FD.bindsN fun _ _ _ _ _ _ us hl => match us, hl with | [_, _], _ => rfl⟩
theorem c__law_same {f : Addr} {fd : FuncData} (fr : ∀ x ∈ bn, mg x = none) (FD : FunD K "_law_same" "_law_same" (defArgs s__law_same) (defBody s__law_same) (defScope s__law_same) [] [] f fd) (mf : mg "_law_same" = some (.ref f)) : Cal P w K mg base "_law_same" 9 2 F__law_same := cr__law_same fr FD mf 8
theorem sc_still_elements : FnScope N_still_elements P_still_elements (defScope s_still_elements) := ⟨rfl, rfl, rfl, by decide +kernel, rfl, by decide +kernel, by decide +kernel⟩
theorem q_still_elements {f : Addr} {cdv : Value} {A : Around} {outer : List Env} {s : Shared} {H : Hp} {E : XK} {B : Wd} (fr : ∀ x ∈ bn, mg x = none) (C_need_finite : Cal P w K mg base "need_finite" 9 1 F_need_finite) (C_table_in : Cal P w K mg base "table_in" 5 1 F_table_in) (hB : GoodB B) (hr : Room 9 (A.deeper (envOfC "still_elements" (defScope s_still_elements) s.heap.objs.size f cdv))) :
    QSs (XX P w K mg base N_still_elements "still_elements" s_still_elements f cdv A outer s H E) (WWE E) B (defBody s_still_elements) (d_still_elements) := by
  have tk : ∀ σ, PassesAt (L2.CX P w) (XX P w K mg base N_still_elements "still_elements" s_still_elements f cdv A outer s H E) σ (WE (WWE E) σ) := passAt (takes_of rfl rfl rfl rfl)
  have hp : PassesOwn (model P w) (XX P w K mg base N_still_elements "still_elements" s_still_elements f cdv A outer s H E).A (XX P w K mg base N_still_elements "still_elements" s_still_elements f cdv A outer s H E).env (XX P w K mg base N_still_elements "still_elements" s_still_elements f cdv A outer s H E).xe := passes_of rfl
  have hN : (XX P w K mg base N_still_elements "still_elements" s_still_elements f cdv A outer s H E).N.Nodup := sc_still_elements.nd
  exact (qss_cons (qs_expr (qe_call C_need_finite (hr.mono (by decide)) tk (qa_cons qe_var qa_nil)))
    (qss_one (qs_ret (qe_callTy ok_tuple rfl (fr "tuple" (by decide)) (by decide +kernel) (qa_cons (qe_lc (own := [("at", 1), ("row", 2)]) (qi_enum rfl (fr "enumerate" (by decide)) (qe_call C_table_in (hr.mono (by decide)) tk (qa_cons qe_var qa_nil))) (blkOk_by (N := N_still_elements) (sc := defScope s_still_elements) (by decide +kernel)) (fun _ _ _ _ _ => (qg_tup (qgs_cons qg_name (qgs_cons qg_name qgs_nil)))) (fun _ _ _ _ _ => (qts_one (qt_cmp (ok_eq (u64 hr)) (qe_ix qe_var qe_var) qe_var))) (fun _ _ _ _ _ => qe_var)) qa_nil)))))
theorem c_still_elements {x : Str} {f : Addr} {fd : FuncData} (fr : ∀ x ∈ bn, mg x = none) (C_need_finite : Cal P w K mg base "need_finite" 9 1 F_need_finite) (C_table_in : Cal P w K mg base "table_in" 5 1 F_table_in) (FD : FunD K "still_elements" "still_elements" (defArgs s_still_elements) (defBody s_still_elements) (defScope s_still_elements) [] [] f fd) (mf : mg x = some (.ref f)) : Cal P w K mg base x 10 1 F_still_elements :=
  ⟨f, fd, P_still_elements, fn_ok FD sc_still_elements (fun cdv A outer s H E B hB hr => q_still_elements fr C_need_finite C_table_in hB hr), mf, FD.kp, FD.bindsN fun _ _ _ _ _ _ us hl => match us, hl with | [_], _ => rfl⟩
theorem sc__law_steps : FnScope N__law_steps P__law_steps (defScope s__law_steps) := ⟨rfl, rfl, rfl, by decide +kernel, rfl, by decide +kernel, by decide +kernel⟩
theorem q__law_steps {f : Addr} {cdv : Value} {A : Around} {outer : List Env} {s : Shared} {H : Hp} {E : XK} {B : Wd} (fr : ∀ x ∈ bn, mg x = none) (hB : GoodB B) (hr : Room 0 (A.deeper (envOfC "_law_steps" (defScope s__law_steps) s.heap.objs.size f cdv))) :
    QSs (XX P w K mg base N__law_steps "_law_steps" s__law_steps f cdv A outer s H E) (WWE E) B (defBody s__law_steps) (d__law_steps) := by
  have tk : ∀ σ, PassesAt (L2.CX P w) (XX P w K mg base N__law_steps "_law_steps" s__law_steps f cdv A outer s H E) σ (WE (WWE E) σ) := passAt (takes_of rfl rfl rfl rfl)
  have hp : PassesOwn (model P w) (XX P w K mg base N__law_steps "_law_steps" s__law_steps f cdv A outer s H E).A (XX P w K mg base N__law_steps "_law_steps" s__law_steps f cdv A outer s H E).env (XX P w K mg base N__law_steps "_law_steps" s__law_steps f cdv A outer s H E).xe := passes_of rfl
  have hN : (XX P w K mg base N__law_steps "_law_steps" s__law_steps f cdv A outer s H E).N.Nodup := sc__law_steps.nd
  exact (qss_cons (qs_asg hB (qe_lst qa_nil))
    (qss_cons (qs_for hp (qi_range1 rfl (fr "range" (by decide)) (qe_callB ok_len rfl (fr "len" (by decide)) (by decide +kernel) (qa_cons qe_var qa_nil))) qg_name (qss_one (qs_asg hB (qe_bin ok_add qe_var (qe_lc (own := [("at", 4)]) (qi_range1 rfl (fr "range" (by decide)) (qe_callB ok_len rfl (fr "len" (by decide)) (by decide +kernel) (qa_cons (qe_ix qe_var qe_int) qa_nil))) (blkOk_by (N := N__law_steps) (sc := defScope s__law_steps) (by decide +kernel)) (fun _ _ _ _ _ => qg_name) (fun _ _ _ _ _ => (qts_one (qt_val (qe_m1 PySem.F.slot_str_startswith PySem.F.type_str_startswith ok_starts (qe_slice qe_var (qo_some qe_var) qo_none) (qe_ix (qe_ix (qe_ix qe_var qe_int) qe_var) qe_int))))) (fun _ _ _ _ _ => (qe_tup (qa_cons qe_var (qa_cons qe_var qa_nil)))))))))
    (qss_one (qs_ret qe_var))))
theorem c__law_steps {x : Str} {f : Addr} {fd : FuncData} (fr : ∀ x ∈ bn, mg x = none) (FD : FunD K "_law_steps" "_law_steps" (defArgs s__law_steps) (defBody s__law_steps) (defScope s__law_steps) [] [] f fd) (mf : mg x = some (.ref f)) : Cal P w K mg base x 1 2 F__law_steps :=
  ⟨f, fd, P__law_steps, fn_ok FD sc__law_steps (fun cdv A outer s H E B hB hr => q__law_steps fr hB hr), mf, FD.kp, FD.bindsN fun _ _ _ _ _ _ us hl => match us, hl with | [_, _], _ => rfl⟩
theorem sc__law_rests : FnScope N__law_rests P__law_rests (defScope s__law_rests) := ⟨rfl, rfl, rfl, by decide +kernel, rfl, by decide +kernel, by decide +kernel⟩
theorem q__law_rests {f : Addr} {cdv : Value} {A : Around} {outer : List Env} {s : Shared} {H : Hp} {E : XK} {B : Wd} (fr : ∀ x ∈ bn, mg x = none) (C__law_steps : Cal P w K mg base "_law_steps" 1 2 F__law_steps) (hB : GoodB B) (hr : Room 1 (A.deeper (envOfC "_law_rests" (defScope s__law_rests) s.heap.objs.size f cdv))) :
    QSs (XX P w K mg base N__law_rests "_law_rests" s__law_rests f cdv A outer s H E) (WWE E) B (defBody s__law_rests) (d__law_rests) := by
  have tk : ∀ σ, PassesAt (L2.CX P w) (XX P w K mg base N__law_rests "_law_rests" s__law_rests f cdv A outer s H E) σ (WE (WWE E) σ) := passAt (takes_of rfl rfl rfl rfl)
  have hp : PassesOwn (model P w) (XX P w K mg base N__law_rests "_law_rests" s__law_rests f cdv A outer s H E).A (XX P w K mg base N__law_rests "_law_rests" s__law_rests f cdv A outer s H E).env (XX P w K mg base N__law_rests "_law_rests" s__law_rests f cdv A outer s H E).xe := passes_of rfl
  have hN : (XX P w K mg base N__law_rests "_law_rests" s__law_rests f cdv A outer s H E).N.Nodup := sc__law_rests.nd
  exact (qss_cons (qs_par hB (qa_cons (qe_lst (qa_cons (qe_str (by rfl)) qa_nil)) (qa_cons (qe_lst (qa_cons (qe_str (by rfl)) qa_nil)) qa_nil)))
    (qss_cons (qs_while 3000 hp (qt_cmp (ok_ne (u64 hr)) qe_var (qe_lst qa_nil)) (qss_cons (qs_asg hB (qe_lst qa_nil))
    (qss_cons (qs_for hp (qi_e qe_var) qg_name (qss_one (qs_asg hB (qe_bin ok_add qe_var (qe_lc (own := [("letter", 5)]) (qi_e (qe_slice (qe_str (by rfl)) qo_none (qo_some (qe_ix qe_var qe_int)))) (blkOk_by (N := N__law_rests) (sc := defScope s__law_rests) (by decide +kernel)) (fun _ _ _ _ _ => qg_name) (fun _ _ _ _ _ => (qts_one (qt_cmp (ok_eq (u64 hr)) (qe_call C__law_steps (hr.mono (by decide)) passAt0 (qa_cons qe_var (qa_cons (qe_bin ok_add qe_var qe_var) qa_nil))) (qe_lst qa_nil)))) (fun _ _ _ _ _ => (qe_bin ok_add qe_var qe_var)))))))
    (qss_one (qs_par hB (qa_cons (qe_bin ok_add qe_var qe_var) (qa_cons qe_var qa_nil)))))))
    (qss_one (qs_ret qe_var))))
theorem c__law_rests {x : Str} {f : Addr} {fd : FuncData} (fr : ∀ x ∈ bn, mg x = none) (C__law_steps : Cal P w K mg base "_law_steps" 1 2 F__law_steps) (FD : FunD K "_law_rests" "_law_rests" (defArgs s__law_rests) (defBody s__law_rests) (defScope s__law_rests) [] [] f fd) (mf : mg x = some (.ref f)) : Cal P w K mg base x 2 1 F__law_rests :=
  ⟨f, fd, P__law_rests, fn_ok FD sc__law_rests (fun cdv A outer s H E B hB hr => q__law_rests fr C__law_steps hB hr), mf, FD.kp, FD.bindsN fun _ _ _ _ _ _ us hl => match us, hl with | [_], _ => rfl⟩
theorem sc__law_behind : FnScope N__law_behind P__law_behind (defScope s__law_behind) := ⟨rfl, rfl, rfl, by decide +kernel, rfl, by decide +kernel, by decide +kernel⟩
theorem q__law_behind {f : Addr} {cdv : Value} {A : Around} {outer : List Env} {s : Shared} {H : Hp} {E : XK} {B : Wd} (fr : ∀ x ∈ bn, mg x = none) (hB : GoodB B) (hr : Room 0 (A.deeper (envOfC "_law_behind" (defScope s__law_behind) s.heap.objs.size f cdv))) :
    QSs (XX P w K mg base N__law_behind "_law_behind" s__law_behind f cdv A outer s H E) (WWE E) B (defBody s__law_behind) (d__law_behind) := by
  have tk : ∀ σ, PassesAt (L2.CX P w) (XX P w K mg base N__law_behind "_law_behind" s__law_behind f cdv A outer s H E) σ (WE (WWE E) σ) := passAt (takes_of rfl rfl rfl rfl)
  have hp : PassesOwn (model P w) (XX P w K mg base N__law_behind "_law_behind" s__law_behind f cdv A outer s H E).A (XX P w K mg base N__law_behind "_law_behind" s__law_behind f cdv A outer s H E).env (XX P w K mg base N__law_behind "_law_behind" s__law_behind f cdv A outer s H E).xe := passes_of rfl
  have hN : (XX P w K mg base N__law_behind "_law_behind" s__law_behind f cdv A outer s H E).N.Nodup := sc__law_behind.nd
  exact (qss_cons (qs_unp (qe_ix (qe_ix qe_var qe_int) (qe_ix qe_var qe_int)) (qg_tup (qgs_cons qg_name (qgs_cons qg_name qgs_nil))))
    (qss_one (qs_ret (qe_bin ok_add (qe_bin ok_add (qe_slice qe_var qo_none (qo_some (qe_ix qe_var qe_int))) qe_var) (qe_slice qe_var (qo_some (qe_bin ok_add (qe_ix qe_var qe_int) (qe_callB ok_len rfl (fr "len" (by decide)) (by decide +kernel) (qa_cons qe_var qa_nil)))) qo_none)))))
theorem c__law_behind {x : Str} {f : Addr} {fd : FuncData} (fr : ∀ x ∈ bn, mg x = none) (FD : FunD K "_law_behind" "_law_behind" (defArgs s__law_behind) (defBody s__law_behind) (defScope s__law_behind) [] [] f fd) (mf : mg x = some (.ref f)) : Cal P w K mg base x 1 3 F__law_behind :=
  ⟨f, fd, P__law_behind, fn_ok FD sc__law_behind (fun cdv A outer s H E B hB hr => q__law_behind fr hB hr), mf, FD.kp, FD.bindsN fun _ _ _ _ _ _ us hl => match us, hl with | [_, _, _], _ => rfl⟩
theorem sc__law_end : FnScope N__law_end P__law_end (defScope s__law_end) := ⟨rfl, rfl, rfl, by decide +kernel, rfl, by decide +kernel, by decide +kernel⟩
theorem q__law_end {f : Addr} {cdv : Value} {A : Around} {outer : List Env} {s : Shared} {H : Hp} {E : XK} {B : Wd} (fr : ∀ x ∈ bn, mg x = none) (C__law_steps : Cal P w K mg base "_law_steps" 1 2 F__law_steps) (C__law_behind : Cal P w K mg base "_law_behind" 1 3 F__law_behind) (hB : GoodB B) (hr : Room 1 (A.deeper (envOfC "_law_end" (defScope s__law_end) s.heap.objs.size f cdv))) :
    QSs (XX P w K mg base N__law_end "_law_end" s__law_end f cdv A outer s H E) (WWE E) B (defBody s__law_end) (d__law_end) := by
  have tk : ∀ σ, PassesAt (L2.CX P w) (XX P w K mg base N__law_end "_law_end" s__law_end f cdv A outer s H E) σ (WE (WWE E) σ) := passAt (takes_of rfl rfl rfl rfl)
  have hp : PassesOwn (model P w) (XX P w K mg base N__law_end "_law_end" s__law_end f cdv A outer s H E).A (XX P w K mg base N__law_end "_law_end" s__law_end f cdv A outer s H E).env (XX P w K mg base N__law_end "_law_end" s__law_end f cdv A outer s H E).xe := passes_of rfl
  have hN : (XX P w K mg base N__law_end "_law_end" s__law_end f cdv A outer s H E).N.Nodup := sc__law_end.nd
  exact (qss_cons (qs_for hp (qi_range1 rfl (fr "range" (by decide)) qe_int) qg_name (qss_cons (qs_asg hB (qe_call C__law_steps (hr.mono (by decide)) tk (qa_cons qe_var (qa_cons qe_var qa_nil))))
    (qss_cons (qs_if (qt_cmp (ok_eq (u64 hr)) qe_var (qe_lst qa_nil)) (qss_one (qs_ret qe_var)) qss_nil)
    (qss_one (qs_asg hB (qe_call C__law_behind (hr.mono (by decide)) tk (qa_cons qe_var (qa_cons qe_var (qa_cons (qe_ix qe_var qe_int) qa_nil)))))))))
    (qss_one (qs_ret qe_none)))
theorem c__law_end {x : Str} {f : Addr} {fd : FuncData} (fr : ∀ x ∈ bn, mg x = none) (C__law_steps : Cal P w K mg base "_law_steps" 1 2 F__law_steps) (C__law_behind : Cal P w K mg base "_law_behind" 1 3 F__law_behind) (FD : FunD K "_law_end" "_law_end" (defArgs s__law_end) (defBody s__law_end) (defScope s__law_end) [] [] f fd) (mf : mg x = some (.ref f)) : Cal P w K mg base x 2 2 F__law_end :=
  ⟨f, fd, P__law_end, fn_ok FD sc__law_end (fun cdv A outer s H E B hB hr => q__law_end fr C__law_steps C__law_behind hB hr), mf, FD.kp, FD.bindsN fun _ _ _ _ _ _ us hl => match us, hl with | [_, _], _ => rfl⟩
theorem sc__law_table : FnScope N__law_table P__law_table (defScope s__law_table) := ⟨rfl, rfl, rfl, by decide +kernel, rfl, by decide +kernel, by decide +kernel⟩
theorem q__law_table {f : Addr} {cdv : Value} {A : Around} {outer : List Env} {s : Shared} {H : Hp} {E : XK} {B : Wd} (fr : ∀ x ∈ bn, mg x = none) (C__law_rests : Cal P w K mg base "_law_rests" 2 1 F__law_rests) (C__law_end : Cal P w K mg base "_law_end" 2 2 F__law_end) (hB : GoodB B) (hr : Room 2 (A.deeper (envOfC "_law_table" (defScope s__law_table) s.heap.objs.size f cdv))) :
    QSs (XX P w K mg base N__law_table "_law_table" s__law_table f cdv A outer s H E) (WWE E) B (defBody s__law_table) (d__law_table) := by
  have tk : ∀ σ, PassesAt (L2.CX P w) (XX P w K mg base N__law_table "_law_table" s__law_table f cdv A outer s H E) σ (WE (WWE E) σ) := passAt (takes_of rfl rfl rfl rfl)
  have hp : PassesOwn (model P w) (XX P w K mg base N__law_table "_law_table" s__law_table f cdv A outer s H E).A (XX P w K mg base N__law_table "_law_table" s__law_table f cdv A outer s H E).env (XX P w K mg base N__law_table "_law_table" s__law_table f cdv A outer s H E).xe := passes_of rfl
  have hN : (XX P w K mg base N__law_table "_law_table" s__law_table f cdv A outer s H E).N.Nodup := sc__law_table.nd
  exact (qss_cons (qs_asg hB (qe_call C__law_rests (hr.mono (by decide)) tk (qa_cons qe_var qa_nil)))
    (qss_one (qs_ret (qe_callTy ok_tuple rfl (fr "tuple" (by decide)) (by decide +kernel) (qa_cons (qe_lc (own := [("one", 2)]) (qi_e qe_var) (blkOk_by (N := N__law_table) (sc := defScope s__law_table) (by decide +kernel)) (fun _ _ _ _ _ => qg_name) (fun _ _ _ _ _ => qts_nil) (fun _ _ _ _ _ => (qe_callTy ok_tuple rfl (fr "tuple" (by decide)) (by decide +kernel) (qa_cons (qe_lc (own := [("other", 3)]) (qi_e qe_var) (by refine blkOk_by (N := N__law_table) (?_ : blkC _ _ _ _ = true); exact (by kernel_rfl)) (fun _ _ _ _ _ => qg_name) (fun _ _ _ _ _ => qts_nil) (fun _ _ _ _ _ => (qe_index (u65 hr) qe_var (qe_call C__law_end (hr.mono (by decide)) passAt0 (qa_cons qe_var (qa_cons (qe_bin ok_add qe_var qe_var) qa_nil)))))) qa_nil)))) qa_nil)))))
theorem c__law_table {x : Str} {f : Addr} {fd : FuncData} (fr : ∀ x ∈ bn, mg x = none) (C__law_rests : Cal P w K mg base "_law_rests" 2 1 F__law_rests) (C__law_end : Cal P w K mg base "_law_end" 2 2 F__law_end) (FD : FunD K "_law_table" "_law_table" (defArgs s__law_table) (defBody s__law_table) (defScope s__law_table) [] [] f fd) (mf : mg x = some (.ref f)) : Cal P w K mg base x 3 1 F__law_table :=
  ⟨f, fd, P__law_table, fn_ok FD sc__law_table (fun cdv A outer s H E B hB hr => q__law_table fr C__law_rests C__law_end hB hr), mf, FD.kp, FD.bindsN fun _ _ _ _ _ _ us hl => match us, hl with | [_], _ => rfl⟩
theorem sc__law_roll : FnScope N__law_roll P__law_roll (defScope s__law_roll) := ⟨rfl, rfl, rfl, by decide +kernel, rfl, by decide +kernel, by decide +kernel⟩
theorem q__law_roll {f : Addr} {cdv : Value} {A : Around} {outer : List Env} {s : Shared} {H : Hp} {E : XK} {B : Wd} (fr : ∀ x ∈ bn, mg x = none) (hB : GoodB B) (hr : Room 0 (A.deeper (envOfC "_law_roll" (defScope s__law_roll) s.heap.objs.size f cdv))) :
    QSs (XX P w K mg base N__law_roll "_law_roll" s__law_roll f cdv A outer s H E) (WWE E) B (defBody s__law_roll) (d__law_roll) := by
  have tk : ∀ σ, PassesAt (L2.CX P w) (XX P w K mg base N__law_roll "_law_roll" s__law_roll f cdv A outer s H E) σ (WE (WWE E) σ) := passAt (takes_of rfl rfl rfl rfl)
  have hp : PassesOwn (model P w) (XX P w K mg base N__law_roll "_law_roll" s__law_roll f cdv A outer s H E).A (XX P w K mg base N__law_roll "_law_roll" s__law_roll f cdv A outer s H E).env (XX P w K mg base N__law_roll "_law_roll" s__law_roll f cdv A outer s H E).xe := passes_of rfl
  have hN : (XX P w K mg base N__law_roll "_law_roll" s__law_roll f cdv A outer s H E).N.Nodup := sc__law_roll.nd
  exact (qss_cons (qs_if (qt_cmp (ok_gt (u64 hr)) (qe_ix qe_var qe_int) qe_int) (qss_cons (qs_asg hB (qe_bin ok_mod (qe_callTy ok_int rfl (fr "int" (by decide)) (by decide +kernel) (qa_cons (qe_ix qe_var qe_int) qa_nil)) qe_var))
    (qss_cons (qs_setC (qe_bin ok_fdiv (qe_ix qe_var qe_int) qe_var) qe_var qe_int)
    (qss_one (qs_ret qe_var)))) qss_nil)
    (qss_cons (qs_setC (qe_bin ok_mod (qe_callTy ok_int rfl (fr "int" (by decide)) (by decide +kernel) (qa_cons (qe_bin ok_add (qe_bin ok_mul (qe_ix qe_var qe_int) qe_int) qe_int) qa_nil)) qe_int) qe_var qe_int)
    (qss_cons (qs_asg hB (qe_bin ok_mod (qe_callTy ok_int rfl (fr "int" (by decide)) (by decide +kernel) (qa_cons (qe_bin ok_mul (qe_ix qe_var qe_int) (qe_bin ok_add (qe_ix qe_var qe_int) qe_int)) qa_nil)) qe_int))
    (qss_one (qs_ret (qe_bin ok_mod (qe_callTy ok_int rfl (fr "int" (by decide)) (by decide +kernel) (qa_cons (qe_bin ok_fdiv qe_var qe_int) qa_nil)) qe_var))))))
theorem c__law_roll {x : Str} {f : Addr} {fd : FuncData} (fr : ∀ x ∈ bn, mg x = none) (FD : FunD K "_law_roll" "_law_roll" (defArgs s__law_roll) (defBody s__law_roll) (defScope s__law_roll) [] [] f fd) (mf : mg x = some (.ref f)) : Cal P w K mg base x 1 2 F__law_roll :=
  ⟨f, fd, P__law_roll, fn_ok FD sc__law_roll (fun cdv A outer s H E B hB hr => q__law_roll fr hB hr), mf, FD.kp, FD.bindsN fun _ _ _ _ _ _ us hl => match us, hl with | [_, _], _ => rfl⟩
theorem sc_product_of : FnScope N_product_of P_product_of (defScope s_product_of) := ⟨rfl, rfl, rfl, by decide +kernel, rfl, by decide +kernel, by decide +kernel⟩
theorem q_product_of {f : Addr} {cdv : Value} {A : Around} {outer : List Env} {s : Shared} {H : Hp} {E : XK} {B : Wd} (fr : ∀ x ∈ bn, mg x = none) (C_need_finite : Cal P w K mg base "need_finite" 9 1 F_need_finite) (C_need_element : Cal P w K mg base "need_element" 2 2 F_need_element) (C_table_in : Cal P w K mg base "table_in" 5 1 F_table_in) (hB : GoodB B) (hr : Room 9 (A.deeper (envOfC "product_of" (defScope s_product_of) s.heap.objs.size f cdv))) :
    QSs (XX P w K mg base N_product_of "product_of" s_product_of f cdv A outer s H E) (WWE E) B (defBody s_product_of) (d_product_of) := by
  have tk : ∀ σ, PassesAt (L2.CX P w) (XX P w K mg base N_product_of "product_of" s_product_of f cdv A outer s H E) σ (WE (WWE E) σ) := passAt (takes_of rfl rfl rfl rfl)
  have hp : PassesOwn (model P w) (XX P w K mg base N_product_of "product_of" s_product_of f cdv A outer s H E).A (XX P w K mg base N_product_of "product_of" s_product_of f cdv A outer s H E).env (XX P w K mg base N_product_of "product_of" s_product_of f cdv A outer s H E).xe := passes_of rfl
  have hN : (XX P w K mg base N_product_of "product_of" s_product_of f cdv A outer s H E).N.Nodup := sc_product_of.nd
  exact (qss_cons (qs_expr (qe_call C_need_finite (hr.mono (by decide)) tk (qa_cons qe_var qa_nil)))
    (qss_cons (qs_expr (qe_call C_need_element (hr.mono (by decide)) tk (qa_cons qe_var (qa_cons qe_var qa_nil))))
    (qss_cons (qs_expr (qe_call C_need_element (hr.mono (by decide)) tk (qa_cons qe_var (qa_cons qe_var qa_nil))))
    (qss_one (qs_ret (qe_ix (qe_ix (qe_call C_table_in (hr.mono (by decide)) tk (qa_cons qe_var qa_nil)) qe_var) qe_var))))))
theorem c_product_of {x : Str} {f : Addr} {fd : FuncData} (fr : ∀ x ∈ bn, mg x = none) (C_need_finite : Cal P w K mg base "need_finite" 9 1 F_need_finite) (C_need_element : Cal P w K mg base "need_element" 2 2 F_need_element) (C_table_in : Cal P w K mg base "table_in" 5 1 F_table_in) (FD : FunD K "product_of" "product_of" (defArgs s_product_of) (defBody s_product_of) (defScope s_product_of) [] [] f fd) (mf : mg x = some (.ref f)) : Cal P w K mg base x 10 3 F_product_of :=
  ⟨f, fd, P_product_of, fn_ok FD sc_product_of (fun cdv A outer s H E B hB hr => q_product_of fr C_need_finite C_need_element C_table_in hB hr), mf, FD.kp, FD.bindsN fun _ _ _ _ _ _ us hl => match us, hl with | [_, _, _], _ => rfl⟩
theorem sc__law_right : FnScope N__law_right P__law_right (defScope s__law_right) := ⟨rfl, rfl, rfl, by decide +kernel, rfl, by decide +kernel, by decide +kernel⟩
theorem q__law_right {f : Addr} {cdv : Value} {A : Around} {outer : List Env} {s : Shared} {H : Hp} {E : XK} {B : Wd} (fr : ∀ x ∈ bn, mg x = none) (C__law_table : Cal P w K mg base "_law_table" 3 1 F__law_table) (C__law_roll : Cal P w K mg base "_law_roll" 1 2 F__law_roll) (C__law_same : Cal P w K mg base "_law_same" 9 2 F__law_same) (C_cycle_of : Cal P w K mg base "cycle_of" 10 2 F_cycle_of) (C_power_of : Cal P w K mg base "power_of" 10 3 F_power_of) (C_product_of : Cal P w K mg base "product_of" 10 3 F_product_of) (C_still_elements : Cal P w K mg base "still_elements" 10 1 F_still_elements) (hB : GoodB B) (hr : Room 10 (A.deeper (envOfC "_law_right" (defScope s__law_right) s.heap.objs.size f cdv))) :
    QSs (XX P w K mg base N__law_right "_law_right" s__law_right f cdv A outer s H E) (WWE E) B (defBody s__law_right) (d__law_right) := by
  have tk : ∀ σ, PassesAt (L2.CX P w) (XX P w K mg base N__law_right "_law_right" s__law_right f cdv A outer s H E) σ (WE (WWE E) σ) := passAt (takes_of rfl rfl rfl rfl)
  have hp : PassesOwn (model P w) (XX P w K mg base N__law_right "_law_right" s__law_right f cdv A outer s H E).A (XX P w K mg base N__law_right "_law_right" s__law_right f cdv A outer s H E).env (XX P w K mg base N__law_right "_law_right" s__law_right f cdv A outer s H E).xe := passes_of rfl
  have hN : (XX P w K mg base N__law_right "_law_right" s__law_right f cdv A outer s H E).N.Nodup := sc__law_right.nd
  exact (qss_cons (qs_asg hB (qe_call C__law_table (hr.mono (by decide)) tk (qa_cons qe_var qa_nil)))
    (qss_cons (qs_for hp (qi_range1 rfl (fr "range" (by decide)) qe_int) qg_name (qss_cons (qs_parT hB (gn_cons (gn_cons gn_nil)) (qa_cons (qe_call C__law_roll (hr.mono (by decide)) tk (qa_cons qe_var (qa_cons (qe_callB ok_len rfl (fr "len" (by decide)) (by decide +kernel) (qa_cons qe_var qa_nil)) qa_nil))) (qa_cons (qe_lst (qa_cons qe_int qa_nil)) qa_nil)))
    (qss_cons (qs_for hp (qi_range1 rfl (fr "range" (by decide)) (qe_bin ok_add (qe_bin ok_mul qe_int (qe_callB ok_len rfl (fr "len" (by decide)) (by decide +kernel) (qa_cons qe_var qa_nil))) qe_int)) qg_name (qss_one (qs_appO (qe_ix (qe_ix qe_var (qe_ix qe_var (qe_neg qe_int))) qe_var))))
    (qss_cons (qs_asg hB (qe_ix (qe_lc (own := [("own", 12)]) (qi_range1 rfl (fr "range" (by decide)) (qe_callB ok_len rfl (fr "len" (by decide)) (by decide +kernel) (qa_cons qe_var qa_nil))) (blkOk_by (N := N__law_right) (sc := defScope s__law_right) (by decide +kernel)) (fun _ _ _ _ _ => qg_name) (fun _ _ _ _ _ => (qts_one (qt_cmp (ok_in (u65 hr)) (qe_ix qe_var qe_var) (qe_slice qe_var (qo_some (qe_bin ok_add qe_var qe_int)) qo_none)))) (fun _ _ _ _ _ => qe_var)) qe_int))
    (qss_cons (qs_asg hB (qe_bin ok_add (qe_index (u65 hr) (qe_slice qe_var (qo_some (qe_bin ok_add qe_var qe_int)) qo_none) (qe_ix qe_var qe_var)) qe_int))
    (qss_cons (qs_asg hB (qe_call C__law_roll (hr.mono (by decide)) tk (qa_cons qe_var (qa_cons qe_int qa_nil))))
    (qss_cons (qs_asg hB (qe_if (qt_cmp (ok_lt (u64 hr)) qe_var qe_var) (qe_ix qe_var qe_var) (qe_ix qe_var (qe_bin ok_add qe_var (qe_bin ok_mod (qe_callTy ok_int rfl (fr "int" (by decide)) (by decide +kernel) (qa_cons (qe_bin ok_sub qe_var qe_var) qa_nil)) qe_var)))))
    (qss_cons (qs_if (qt_not (qt_val (qe_call C__law_same (hr.mono (by decide)) tk (qa_cons (qe_tup (qa_cons (qe_call C_cycle_of (hr.mono (by decide)) tk (qa_cons qe_var (qa_cons qe_var qa_nil))) (qa_cons (qe_call C_power_of (hr.mono (by decide)) tk (qa_cons qe_var (qa_cons qe_var (qa_cons qe_var qa_nil)))) (qa_cons (qe_call C_power_of (hr.mono (by decide)) tk (qa_cons qe_var (qa_cons qe_var (qa_cons qe_int qa_nil)))) qa_nil)))) (qa_cons (qe_tup (qa_cons (qe_tup (qa_cons qe_var (qa_cons qe_var qa_nil))) (qa_cons qe_var (qa_cons qe_var qa_nil)))) qa_nil))))) (qss_one (qs_ret qe_bool)) qss_nil)
    (qss_cons (qs_asg hB (qe_call C_power_of (hr.mono (by decide)) tk (qa_cons qe_var (qa_cons qe_var (qa_cons (qe_if (qt_cmp (ok_gt (u64 hr)) qe_var qe_int) (qe_bin ok_sub qe_var qe_int) qe_int) qa_nil)))))
    (qss_one (qs_if (qt_not (qt_val (qe_call C__law_same (hr.mono (by decide)) tk (qa_cons (qe_call C_product_of (hr.mono (by decide)) tk (qa_cons qe_var (qa_cons qe_var (qa_cons qe_var qa_nil)))) (qa_cons (qe_if (qt_cmp (ok_gt (u64 hr)) qe_var qe_int) qe_var qe_var) qa_nil))))) (qss_one (qs_ret qe_bool)) qss_nil)))))))))))
    (qss_one (qs_ret (qe_call C__law_same (hr.mono (by decide)) tk (qa_cons (qe_call C_still_elements (hr.mono (by decide)) tk (qa_cons qe_var qa_nil)) (qa_cons (qe_callTy ok_tuple rfl (fr "tuple" (by decide)) (by decide +kernel) (qa_cons (qe_lc (own := [("at", 10)]) (qi_range1 rfl (fr "range" (by decide)) (qe_callB ok_len rfl (fr "len" (by decide)) (by decide +kernel) (qa_cons qe_var qa_nil))) (blkOk_by (N := N__law_right) (sc := defScope s__law_right) (by decide +kernel)) (fun _ _ _ _ _ => qg_name) (fun _ _ _ _ _ => (qts_one (qt_cmp (ok_eq (u64 hr)) (qe_ix (qe_ix qe_var qe_var) qe_var) qe_var))) (fun _ _ _ _ _ => qe_var)) qa_nil)) qa_nil)))))))
theorem c__law_right {x : Str} {f : Addr} {fd : FuncData} (fr : ∀ x ∈ bn, mg x = none) (C__law_table : Cal P w K mg base "_law_table" 3 1 F__law_table) (C__law_roll : Cal P w K mg base "_law_roll" 1 2 F__law_roll) (C__law_same : Cal P w K mg base "_law_same" 9 2 F__law_same) (C_cycle_of : Cal P w K mg base "cycle_of" 10 2 F_cycle_of) (C_power_of : Cal P w K mg base "power_of" 10 3 F_power_of) (C_product_of : Cal P w K mg base "product_of" 10 3 F_product_of) (C_still_elements : Cal P w K mg base "still_elements" 10 1 F_still_elements) (FD : FunD K "_law_right" "_law_right" (defArgs s__law_right) (defBody s__law_right) (defScope s__law_right) [] [] f fd) (mf : mg x = some (.ref f)) : Cal P w K mg base x 11 2 F__law_right :=
  ⟨f, fd, P__law_right, fn_ok FD sc__law_right (fun cdv A outer s H E B hB hr => q__law_right fr C__law_table C__law_roll C__law_same C_cycle_of C_power_of C_product_of C_still_elements hB hr), mf, FD.kp, FD.bindsN fun _ _ _ _ _ _ us hl => match us, hl with | [_, _], _ => rfl⟩
theorem sc__law_some : FnScope N__law_some P__law_some (defScope s__law_some) := ⟨rfl, rfl, rfl, by decide +kernel, rfl, by decide +kernel, by decide +kernel⟩
theorem q__law_some {f : Addr} {cdv : Value} {A : Around} {outer : List Env} {s : Shared} {H : Hp} {E : XK} {B : Wd} (fr : ∀ x ∈ bn, mg x = none) (C__law_roll : Cal P w K mg base "_law_roll" 1 2 F__law_roll) (hB : GoodB B) (hr : Room 1 (A.deeper (envOfC "_law_some" (defScope s__law_some) s.heap.objs.size f cdv))) :
    QSs (XX P w K mg base N__law_some "_law_some" s__law_some f cdv A outer s H E) (WWE E) B (defBody s__law_some) (d__law_some) := by
  have tk : ∀ σ, PassesAt (L2.CX P w) (XX P w K mg base N__law_some "_law_some" s__law_some f cdv A outer s H E) σ (WE (WWE E) σ) := passAt (takes_of rfl rfl rfl rfl)
  have hp : PassesOwn (model P w) (XX P w K mg base N__law_some "_law_some" s__law_some f cdv A outer s H E).A (XX P w K mg base N__law_some "_law_some" s__law_some f cdv A outer s H E).env (XX P w K mg base N__law_some "_law_some" s__law_some f cdv A outer s H E).xe := passes_of rfl
  have hN : (XX P w K mg base N__law_some "_law_some" s__law_some f cdv A outer s H E).N.Nodup := sc__law_some.nd
  exact (qss_one (qs_ret (qe_ix qe_var (qe_call C__law_roll (hr.mono (by decide)) tk (qa_cons qe_var (qa_cons (qe_callB ok_len rfl (fr "len" (by decide)) (by decide +kernel) (qa_cons qe_var qa_nil)) qa_nil))))))
theorem c__law_some {x : Str} {f : Addr} {fd : FuncData} (fr : ∀ x ∈ bn, mg x = none) (C__law_roll : Cal P w K mg base "_law_roll" 1 2 F__law_roll) (FD : FunD K "_law_some" "_law_some" (defArgs s__law_some) (defBody s__law_some) (defScope s__law_some) [] [] f fd) (mf : mg x = some (.ref f)) : Cal P w K mg base x 2 2 F__law_some :=
  ⟨f, fd, P__law_some, fn_ok FD sc__law_some (fun cdv A outer s H E B hB hr => q__law_some fr C__law_roll hB hr), mf, FD.kp, FD.bindsN fun _ _ _ _ _ _ us hl => match us, hl with | [_, _], _ => rfl⟩
theorem sc__law_finite : FnScope N__law_finite P__law_finite (defScope s__law_finite) := ⟨rfl, rfl, rfl, by decide +kernel, rfl, by decide +kernel, by decide +kernel⟩
theorem q__law_finite {f : Addr} {cdv : Value} {A : Around} {outer : List Env} {s : Shared} {H : Hp} {E : XK} {B : Wd} (fr : ∀ x ∈ bn, mg x = none) (C__law_some : Cal P w K mg base "_law_some" 2 2 F__law_some) (hB : GoodB B) (hr : Room 2 (A.deeper (envOfC "_law_finite" (defScope s__law_finite) s.heap.objs.size f cdv))) :
    QSs (XX P w K mg base N__law_finite "_law_finite" s__law_finite f cdv A outer s H E) (WWE E) B (defBody s__law_finite) (d__law_finite) := by
  have tk : ∀ σ, PassesAt (L2.CX P w) (XX P w K mg base N__law_finite "_law_finite" s__law_finite f cdv A outer s H E) σ (WE (WWE E) σ) := passAt (takes_of rfl rfl rfl rfl)
  have hp : PassesOwn (model P w) (XX P w K mg base N__law_finite "_law_finite" s__law_finite f cdv A outer s H E).A (XX P w K mg base N__law_finite "_law_finite" s__law_finite f cdv A outer s H E).env (XX P w K mg base N__law_finite "_law_finite" s__law_finite f cdv A outer s H E).xe := passes_of rfl
  have hN : (XX P w K mg base N__law_finite "_law_finite" s__law_finite f cdv A outer s H E).N.Nodup := sc__law_finite.nd
  exact (qss_cons (qs_asg hB (qe_lst (qa_cons (qe_tup (qa_cons qe_int (qa_cons (qe_tup (qa_cons (qe_tup (qa_cons (qe_str (by rfl)) (qa_cons (qe_str (by rfl)) qa_nil))) qa_nil)) qa_nil))) (qa_cons (qe_tup (qa_cons qe_int (qa_cons (qe_tup (qa_cons (qe_tup (qa_cons (qe_str (by rfl)) (qa_cons (qe_str (by rfl)) qa_nil))) qa_nil)) qa_nil))) (qa_cons (qe_tup (qa_cons qe_int (qa_cons (qe_tup (qa_cons (qe_tup (qa_cons (qe_str (by rfl)) (qa_cons (qe_str (by rfl)) qa_nil))) (qa_cons (qe_tup (qa_cons (qe_str (by rfl)) (qa_cons (qe_str (by rfl)) qa_nil))) (qa_cons (qe_tup (qa_cons (qe_str (by rfl)) (qa_cons (qe_str (by rfl)) qa_nil))) qa_nil)))) qa_nil))) (qa_cons (qe_tup (qa_cons qe_int (qa_cons (qe_tup (qa_cons (qe_tup (qa_cons (qe_str (by rfl)) (qa_cons (qe_str (by rfl)) qa_nil))) qa_nil)) qa_nil))) qa_nil))))))
    (qss_cons (qs_asg hB (qe_bin ok_add qe_var (qe_lst (qa_cons (qe_tup (qa_cons qe_int (qa_cons (qe_tup (qa_cons (qe_tup (qa_cons (qe_str (by rfl)) (qa_cons (qe_str (by rfl)) qa_nil))) (qa_cons (qe_tup (qa_cons (qe_str (by rfl)) (qa_cons (qe_str (by rfl)) qa_nil))) (qa_cons (qe_tup (qa_cons (qe_str (by rfl)) (qa_cons (qe_str (by rfl)) qa_nil))) qa_nil)))) qa_nil))) (qa_cons (qe_tup (qa_cons qe_int (qa_cons (qe_tup (qa_cons (qe_tup (qa_cons (qe_str (by rfl)) (qa_cons (qe_str (by rfl)) qa_nil))) (qa_cons (qe_tup (qa_cons (qe_str (by rfl)) (qa_cons (qe_str (by rfl)) qa_nil))) (qa_cons (qe_tup (qa_cons (qe_str (by rfl)) (qa_cons (qe_str (by rfl)) qa_nil))) (qa_cons (qe_tup (qa_cons (qe_str (by rfl)) (qa_cons (qe_str (by rfl)) qa_nil))) qa_nil))))) qa_nil))) qa_nil)))))
    (qss_cons (qs_asg hB (qe_bin ok_add qe_var (qe_lst (qa_cons (qe_tup (qa_cons qe_int (qa_cons (qe_tup (qa_cons (qe_tup (qa_cons (qe_str (by rfl)) (qa_cons (qe_str (by rfl)) qa_nil))) (qa_cons (qe_tup (qa_cons (qe_str (by rfl)) (qa_cons (qe_str (by rfl)) qa_nil))) (qa_cons (qe_tup (qa_cons (qe_str (by rfl)) (qa_cons (qe_str (by rfl)) qa_nil))) (qa_cons (qe_tup (qa_cons (qe_str (by rfl)) (qa_cons (qe_str (by rfl)) qa_nil))) qa_nil))))) qa_nil))) (qa_cons (qe_tup (qa_cons qe_int (qa_cons (qe_tup (qa_cons (qe_tup (qa_cons (qe_str (by rfl)) (qa_cons (qe_str (by rfl)) qa_nil))) (qa_cons (qe_tup (qa_cons (qe_str (by rfl)) (qa_cons (qe_str (by rfl)) qa_nil))) qa_nil))) qa_nil))) qa_nil)))))
    (qss_cons (qs_asg hB (qe_bin ok_add qe_var (qe_lst (qa_cons (qe_tup (qa_cons qe_int (qa_cons (qe_tup (qa_cons (qe_tup (qa_cons (qe_str (by rfl)) (qa_cons (qe_str (by rfl)) qa_nil))) (qa_cons (qe_tup (qa_cons (qe_str (by rfl)) (qa_cons (qe_str (by rfl)) qa_nil))) (qa_cons (qe_tup (qa_cons (qe_str (by rfl)) (qa_cons (qe_str (by rfl)) qa_nil))) qa_nil)))) qa_nil))) (qa_cons (qe_tup (qa_cons qe_int (qa_cons (qe_tup (qa_cons (qe_tup (qa_cons (qe_str (by rfl)) (qa_cons (qe_str (by rfl)) qa_nil))) (qa_cons (qe_tup (qa_cons (qe_str (by rfl)) (qa_cons (qe_str (by rfl)) qa_nil))) (qa_cons (qe_tup (qa_cons (qe_str (by rfl)) (qa_cons (qe_str (by rfl)) qa_nil))) (qa_cons (qe_tup (qa_cons (qe_str (by rfl)) (qa_cons (qe_str (by rfl)) qa_nil))) qa_nil))))) qa_nil))) qa_nil)))))
    (qss_cons (qs_asg hB (qe_bin ok_add qe_var (qe_lst (qa_cons (qe_tup (qa_cons qe_int (qa_cons (qe_tup (qa_cons (qe_tup (qa_cons (qe_str (by rfl)) (qa_cons (qe_str (by rfl)) qa_nil))) (qa_cons (qe_tup (qa_cons (qe_str (by rfl)) (qa_cons (qe_str (by rfl)) qa_nil))) (qa_cons (qe_tup (qa_cons (qe_str (by rfl)) (qa_cons (qe_str (by rfl)) qa_nil))) qa_nil)))) qa_nil))) (qa_cons (qe_tup (qa_cons qe_int (qa_cons (qe_tup (qa_cons (qe_tup (qa_cons (qe_str (by rfl)) (qa_cons (qe_str (by rfl)) qa_nil))) qa_nil)) qa_nil))) qa_nil)))))
    (qss_one (qs_ret (qe_call C__law_some (hr.mono (by decide)) tk (qa_cons qe_var (qa_cons qe_var qa_nil))))))))))
theorem c__law_finite {x : Str} {f : Addr} {fd : FuncData} (fr : ∀ x ∈ bn, mg x = none) (C__law_some : Cal P w K mg base "_law_some" 2 2 F__law_some) (FD : FunD K "_law_finite" "_law_finite" (defArgs s__law_finite) (defBody s__law_finite) (defScope s__law_finite) [] [] f fd) (mf : mg x = some (.ref f)) : Cal P w K mg base x 3 1 F__law_finite :=
  ⟨f, fd, P__law_finite, fn_ok FD sc__law_finite (fun cdv A outer s H E B hB hr => q__law_finite fr C__law_some hB hr), mf, FD.kp, FD.bindsN fun _ _ _ _ _ _ us hl => match us, hl with | [_], _ => rfl⟩
theorem sc_law : FnScope N_law P_law (defScope s_law) := ⟨rfl, rfl, rfl, by decide +kernel, rfl, by decide +kernel, by decide +kernel⟩
theorem q_law {f : Addr} {cdv : Value} {A : Around} {outer : List Env} {s : Shared} {H : Hp} {E : XK} {B : Wd} (fr : ∀ x ∈ bn, mg x = none) (C__law_cup : Cal P w K mg base "_law_cup" 1 1 F__law_cup) (C_cycle_of : Cal P w K mg base "cycle_of" 10 2 F_cycle_of) (C_power_of : Cal P w K mg base "power_of" 10 3 F_power_of) (C__law_same : Cal P w K mg base "_law_same" 9 2 F__law_same) (C_still_elements : Cal P w K mg base "still_elements" 10 1 F_still_elements) (C__law_right : Cal P w K mg base "_law_right" 11 2 F__law_right) (C__law_finite : Cal P w K mg base "_law_finite" 3 1 F__law_finite) (hB : GoodB B) (hr : Room 11 (A.deeper (envOfC "law" (defScope s_law) s.heap.objs.size f cdv))) :
    QSs (XX P w K mg base N_law "law" s_law f cdv A outer s H E) (WWE E) B (defBody s_law) (d_law) := by
  have tk : ∀ σ, PassesAt (L2.CX P w) (XX P w K mg base N_law "law" s_law f cdv A outer s H E) σ (WE (WWE E) σ) := passAt (takes_of rfl rfl rfl rfl)
  have hp : PassesOwn (model P w) (XX P w K mg base N_law "law" s_law f cdv A outer s H E).A (XX P w K mg base N_law "law" s_law f cdv A outer s H E).env (XX P w K mg base N_law "law" s_law f cdv A outer s H E).xe := passes_of rfl
  have hN : (XX P w K mg base N_law "law" s_law f cdv A outer s H E).N.Nodup := sc_law.nd
  exact (qss_cons (qs_newC (qe_call C__law_cup (hr.mono (by decide)) tk (qa_cons qe_var qa_nil)))
    (qss_cons (qs_parT hB (gn_cons (gn_cons (gn_cons gn_nil))) (qa_cons (qe_tup (qa_cons qe_int (qa_cons (qe_tup (qa_cons (qe_tup (qa_cons (qe_str (by rfl)) (qa_cons (qe_str (by rfl)) qa_nil))) qa_nil)) qa_nil))) (qa_cons (qe_tup (qa_cons qe_int (qa_cons (qe_tup (qa_cons (qe_tup (qa_cons (qe_str (by rfl)) (qa_cons (qe_str (by rfl)) qa_nil))) qa_nil)) qa_nil))) (qa_cons (qe_tup (qa_cons qe_int (qa_cons (qe_tup (qa_cons (qe_tup (qa_cons (qe_str (by rfl)) (qa_cons (qe_str (by rfl)) qa_nil))) (qa_cons (qe_tup (qa_cons (qe_str (by rfl)) (qa_cons (qe_str (by rfl)) qa_nil))) (qa_cons (qe_tup (qa_cons (qe_str (by rfl)) (qa_cons (qe_str (by rfl)) qa_nil))) qa_nil)))) qa_nil))) qa_nil))))
    (qss_cons (qs_asg hB (qe_tup (qa_cons (qe_call C_cycle_of (hr.mono (by decide)) tk (qa_cons qe_var (qa_cons qe_int qa_nil))) (qa_cons (qe_call C_power_of (hr.mono (by decide)) tk (qa_cons qe_var (qa_cons qe_int (qa_cons qe_int qa_nil)))) (qa_cons (qe_call C_power_of (hr.mono (by decide)) tk (qa_cons qe_var (qa_cons qe_int (qa_cons qe_int qa_nil)))) (qa_cons (qe_call C_cycle_of (hr.mono (by decide)) tk (qa_cons qe_var (qa_cons qe_int qa_nil))) (qa_cons (qe_call C_power_of (hr.mono (by decide)) tk (qa_cons qe_var (qa_cons qe_int (qa_cons qe_int qa_nil)))) (qa_cons (qe_call C_power_of (hr.mono (by decide)) tk (qa_cons qe_var (qa_cons qe_int (qa_cons qe_int qa_nil)))) qa_nil))))))))
    (qss_cons (qs_if (qt_not (qt_val (qe_call C__law_same (hr.mono (by decide)) tk (qa_cons qe_var (qa_cons (qe_tup (qa_cons (qe_tup (qa_cons qe_int (qa_cons qe_int qa_nil))) (qa_cons qe_int (qa_cons qe_int (qa_cons (qe_tup (qa_cons qe_int (qa_cons qe_int qa_nil))) (qa_cons qe_int (qa_cons qe_int qa_nil))))))) qa_nil))))) (qss_one (qs_ret qe_bool)) qss_nil)
    (qss_cons (qs_asg hB (qe_tup (qa_cons (qe_call C_cycle_of (hr.mono (by decide)) tk (qa_cons qe_var (qa_cons qe_int qa_nil))) (qa_cons (qe_call C_power_of (hr.mono (by decide)) tk (qa_cons qe_var (qa_cons qe_int (qa_cons qe_int qa_nil)))) (qa_cons (qe_call C_power_of (hr.mono (by decide)) tk (qa_cons qe_var (qa_cons qe_int (qa_cons qe_int qa_nil)))) (qa_cons (qe_call C_cycle_of (hr.mono (by decide)) tk (qa_cons qe_var (qa_cons qe_int qa_nil))) (qa_cons (qe_call C_still_elements (hr.mono (by decide)) tk (qa_cons qe_var qa_nil)) (qa_cons (qe_call C_still_elements (hr.mono (by decide)) tk (qa_cons qe_var qa_nil)) qa_nil))))))))
    (qss_cons (qs_if (qt_not (qt_val (qe_call C__law_same (hr.mono (by decide)) tk (qa_cons qe_var (qa_cons (qe_tup (qa_cons (qe_tup (qa_cons qe_int (qa_cons qe_int qa_nil))) (qa_cons qe_int (qa_cons qe_int (qa_cons (qe_tup (qa_cons qe_int (qa_cons qe_int qa_nil))) (qa_cons (qe_tup (qa_cons qe_int qa_nil)) (qa_cons (qe_tup (qa_cons qe_int (qa_cons qe_int qa_nil))) qa_nil))))))) qa_nil))))) (qss_one (qs_ret qe_bool)) qss_nil)
    (qss_cons (qs_for hp (qi_range1 rfl (fr "range" (by decide)) qe_int) qg_name (qss_one (qs_if (qt_not (qt_val (qe_call C__law_right (hr.mono (by decide)) tk (qa_cons qe_var (qa_cons (qe_call C__law_finite (hr.mono (by decide)) tk (qa_cons qe_var qa_nil)) qa_nil))))) (qss_one (qs_ret qe_bool)) qss_nil)))
    (qss_one (qs_ret qe_bool)))))))))
theorem ok_law {f : Addr} {fd : FuncData} (fr : ∀ x ∈ bn, mg x = none) (C__law_cup : Cal P w K mg base "_law_cup" 1 1 F__law_cup) (C_cycle_of : Cal P w K mg base "cycle_of" 10 2 F_cycle_of) (C_power_of : Cal P w K mg base "power_of" 10 3 F_power_of) (C__law_same : Cal P w K mg base "_law_same" 9 2 F__law_same) (C_still_elements : Cal P w K mg base "still_elements" 10 1 F_still_elements) (C__law_right : Cal P w K mg base "_law_right" 11 2 F__law_right) (C__law_finite : Cal P w K mg base "_law_finite" 3 1 F__law_finite) (FD : FunD K "law" "law" (defArgs s_law) (defBody s_law) (defScope s_law) [] [] f fd) : FnOk P w K mg base (L2.CX P w) 12 f fd P_law (spD K mg 1 F_law) :=
  fn_ok FD sc_law (fun cdv A outer s H E B hB hr => q_law fr C__law_cup C_cycle_of C_power_of C__law_same C_still_elements C__law_right C__law_finite hB hr)
end
def D__law_cup : He.DefD := ⟨("_law_cup", none), "_law_cup", "_law_cup", defArgs s__law_cup, defBody s__law_cup, defScope s__law_cup, [], []⟩
def D_is_tuple_of : He.DefD := ⟨("is_tuple_of", none), "is_tuple_of", "is_tuple_of", defArgs s_is_tuple_of, defBody s_is_tuple_of, defScope s_is_tuple_of, [], []⟩
def D_fits_whole : He.DefD := ⟨("fits_whole", none), "fits_whole", "fits_whole", defArgs s_fits_whole, defBody s_fits_whole, defScope s_fits_whole, [], []⟩
def D_fits_letters : He.DefD := ⟨("fits_letters", none), "fits_letters", "fits_letters", defArgs s_fits_letters, defBody s_fits_letters, defScope s_fits_letters, [], []⟩
def D_fits_rule : He.DefD := ⟨("fits_rule", none), "fits_rule", "fits_rule", defArgs s_fits_rule, defBody s_fits_rule, defScope s_fits_rule, [], []⟩
def D_fits_system : He.DefD := ⟨("fits_system", none), "fits_system", "fits_system", defArgs s_fits_system, defBody s_fits_system, defScope s_fits_system, [], []⟩
def D_need_system : He.DefD := ⟨("need_system", none), "need_system", "need_system", defArgs s_need_system, defBody s_need_system, defScope s_need_system, [], []⟩
def D_key_of : He.DefD := ⟨("key_of", none), "key_of", "key_of", defArgs s_key_of, defBody s_key_of, defScope s_key_of, [], []⟩
def D_directed_in : He.DefD := ⟨("directed_in", none), "directed_in", "directed_in", defArgs s_directed_in, defBody s_directed_in, defScope s_directed_in, [], []⟩
def D_reduced_in : He.DefD := ⟨("reduced_in", none), "reduced_in", "reduced_in", defArgs s_reduced_in, defBody s_reduced_in, defScope s_reduced_in, [], []⟩
def D_agrees : He.DefD := ⟨("agrees", none), "agrees", "agrees", defArgs s_agrees, defBody s_agrees, defScope s_agrees, [], []⟩
def D_overlaps_in : He.DefD := ⟨("overlaps_in", none), "overlaps_in", "overlaps_in", defArgs s_overlaps_in, defBody s_overlaps_in, defScope s_overlaps_in, [], []⟩
def D_places_in : He.DefD := ⟨("places_in", none), "places_in", "places_in", defArgs s_places_in, defBody s_places_in, defScope s_places_in, [], []⟩
def D_steps_in : He.DefD := ⟨("steps_in", none), "steps_in", "steps_in", defArgs s_steps_in, defBody s_steps_in, defScope s_steps_in, [], []⟩
def D_first_in : He.DefD := ⟨("first_in", none), "first_in", "first_in", defArgs s_first_in, defBody s_first_in, defScope s_first_in, [], []⟩
def D_behind_in : He.DefD := ⟨("behind_in", none), "behind_in", "behind_in", defArgs s_behind_in, defBody s_behind_in, defScope s_behind_in, [], []⟩
def D_rest_in : He.DefD := ⟨("rest_in", none), "rest_in", "rest_in", defArgs s_rest_in, defBody s_rest_in, defScope s_rest_in, [], []⟩
def D_word_in : He.DefD := ⟨("word_in", none), "word_in", "word_in", defArgs s_word_in, defBody s_word_in, defScope s_word_in, [], []⟩
def D_sides_in : He.DefD := ⟨("sides_in", none), "sides_in", "sides_in", defArgs s_sides_in, defBody s_sides_in, defScope s_sides_in, [], []⟩
def D_rests_in_overlaps : He.DefD := ⟨("rests_in_overlaps", none), "rests_in", "rests_in", defArgs s_rests_in_overlaps, defBody s_rests_in_overlaps, defScope s_rests_in_overlaps, [], []⟩
def D_open_in : He.DefD := ⟨("open_in", none), "open_in", "open_in", defArgs s_open_in, defBody s_open_in, defScope s_open_in, [], []⟩
def D_complete_in : He.DefD := ⟨("complete_in", none), "complete_in", "complete_in", defArgs s_complete_in, defBody s_complete_in, defScope s_complete_in, [], []⟩
def D_rests_in_monoids : He.DefD := ⟨("rests_in_monoids", none), "rests_in", "rests_in", defArgs s_rests_in, defBody s_rests_in, defScope s_rests_in, [], []⟩
def D_finite_in : He.DefD := ⟨("finite_in", none), "finite_in", "finite_in", defArgs s_finite_in, defBody s_finite_in, defScope s_finite_in, [], []⟩
def D_need_finite : He.DefD := ⟨("need_finite", none), "need_finite", "need_finite", defArgs s_need_finite, defBody s_need_finite, defScope s_need_finite, [], []⟩
def D_need_element : He.DefD := ⟨("need_element", none), "need_element", "need_element", defArgs s_need_element, defBody s_need_element, defScope s_need_element, [], []⟩
def D_powers_in : He.DefD := ⟨("powers_in", none), "powers_in", "powers_in", defArgs s_powers_in, defBody s_powers_in, defScope s_powers_in, [], []⟩
def D_cycle_in : He.DefD := ⟨("cycle_in", none), "cycle_in", "cycle_in", defArgs s_cycle_in, defBody s_cycle_in, defScope s_cycle_in, [], []⟩
def D_table_in : He.DefD := ⟨("table_in", none), "table_in", "table_in", defArgs s_table_in, defBody s_table_in, defScope s_table_in, [], []⟩
def D_cycle_of : He.DefD := ⟨("cycle_of", none), "cycle_of", "cycle_of", defArgs s_cycle_of, defBody s_cycle_of, defScope s_cycle_of, [], []⟩
def D_power_of : He.DefD := ⟨("power_of", none), "power_of", "power_of", defArgs s_power_of, defBody s_power_of, defScope s_power_of, [], []⟩
def D__law_same : He.DefD := ⟨("_law_same", none), "_law_same", "_law_same", defArgs s__law_same, defBody s__law_same, defScope s__law_same, [], []⟩
def D_still_elements : He.DefD := ⟨("still_elements", none), "still_elements", "still_elements", defArgs s_still_elements, defBody s_still_elements, defScope s_still_elements, [], []⟩
def D__law_steps : He.DefD := ⟨("_law_steps", none), "_law_steps", "_law_steps", defArgs s__law_steps, defBody s__law_steps, defScope s__law_steps, [], []⟩
def D__law_rests : He.DefD := ⟨("_law_rests", none), "_law_rests", "_law_rests", defArgs s__law_rests, defBody s__law_rests, defScope s__law_rests, [], []⟩
def D__law_behind : He.DefD := ⟨("_law_behind", none), "_law_behind", "_law_behind", defArgs s__law_behind, defBody s__law_behind, defScope s__law_behind, [], []⟩
def D__law_end : He.DefD := ⟨("_law_end", none), "_law_end", "_law_end", defArgs s__law_end, defBody s__law_end, defScope s__law_end, [], []⟩
def D__law_table : He.DefD := ⟨("_law_table", none), "_law_table", "_law_table", defArgs s__law_table, defBody s__law_table, defScope s__law_table, [], []⟩
def D__law_roll : He.DefD := ⟨("_law_roll", none), "_law_roll", "_law_roll", defArgs s__law_roll, defBody s__law_roll, defScope s__law_roll, [], []⟩
def D_product_of : He.DefD := ⟨("product_of", none), "product_of", "product_of", defArgs s_product_of, defBody s_product_of, defScope s_product_of, [], []⟩
def D__law_right : He.DefD := ⟨("_law_right", none), "_law_right", "_law_right", defArgs s__law_right, defBody s__law_right, defScope s__law_right, [], []⟩
def D__law_some : He.DefD := ⟨("_law_some", none), "_law_some", "_law_some", defArgs s__law_some, defBody s__law_some, defScope s__law_some, [], []⟩
def D__law_finite : He.DefD := ⟨("_law_finite", none), "_law_finite", "_law_finite", defArgs s__law_finite, defBody s__law_finite, defScope s__law_finite, [], []⟩
def D_law : He.DefD := ⟨("law", none), "law", "law", defArgs s_law, defBody s_law, defScope s_law, [], []⟩
def fnl : List He.DefD := [D__law_cup, D_is_tuple_of, D_fits_whole, D_fits_letters, D_fits_rule, D_fits_system, D_need_system, D_key_of, D_directed_in, D_reduced_in, D_agrees, D_overlaps_in, D_places_in, D_steps_in, D_first_in, D_behind_in, D_rest_in, D_word_in, D_sides_in, D_rests_in_overlaps, D_open_in, D_complete_in, D_rests_in_monoids, D_finite_in, D_need_finite, D_need_element, D_powers_in, D_cycle_in, D_table_in, D_cycle_of, D_power_of, D__law_same, D_still_elements, D__law_steps, D__law_rests, D__law_behind, D__law_end, D__law_table, D__law_roll, D_product_of, D__law_right, D__law_some, D__law_finite, D_law]
def fac : List He.Fa := bn.map He.Fa.free ++ [.glo "_law_cup", .glo "is_tuple_of", .glo "fits_whole", .glo "fits_letters", .glo "fits_rule", .glo "fits_system", .glo "need_system", .glo "key_of", .glo "directed_in", .glo "reduced_in", .glo "agrees", .glo "overlaps_in", .glo "places_in", .glo "steps_in", .glo "first_in", .glo "behind_in", .glo "rest_in", .glo "word_in", .glo "sides_in", .glo "rests_in_overlaps", .glo "open_in", .glo "complete_in", .glo "rests_in_monoids", .glo "finite_in", .glo "need_finite", .glo "need_element", .glo "powers_in", .glo "cycle_in", .glo "table_in", .glo "cycle_of", .glo "power_of", .glo "_law_same", .glo "still_elements", .glo "_law_steps", .glo "_law_rests", .glo "_law_behind", .glo "_law_end", .glo "_law_table", .glo "_law_roll", .glo "product_of", .glo "_law_right", .glo "_law_some", .glo "_law_finite", .glo "law", .int "BEGIN" 2, .int "GROWN" 200, .str "LETTERS" ⟨#[97, 98, 99, 100]⟩, .int "MOST" 24, .int "MOST_RULES" 8, .int "OFTEN" 1000, .int "ONE_monoids" 0, .int "ONE_overlaps" 0, .int "OTHER" 1, .int "PLACE" 0, .int "REST" 500, .int "RULE" 1, .int "RULES" 1, .int "SIDE" 6, .int "SIZE" 0]
abbrev R : PySem.W.OpenRow := PySem.W.OpenLaw.row PySem.Challenge.rw_wordsrest_k52_whole_powers_of_elements
abbrev hk : PySem.W.Hook := He.hookD 4 fac fnl
def ob (s : PySem.W.SharedT) : He.AlD := He.obsDG 4 fac fnl (HandSHeadRun.getT s)
theorem ob_eq (s : PySem.W.SharedT) : ob s = hk.obs s.abs := He.obsDG_eq (HandSHeadRun.getT_eq s)
def loose0 : List Str := ["__name__", "RestError", "InvalidSystem", "InvalidNumber", "TooMany", "LETTERS", "SIZE", "RULES", "MOST_RULES", "SIDE", "is_tuple_of", "fits_whole", "fits_letters", "fits_rule", "fits_system", "places_in", "need_system", "PLACE", "RULE", "REST", "GROWN", "steps_in", "behind_in", "first_in", "rest_in", "ONE_overlaps", "OTHER", "BEGIN", "agrees", "overlaps_in"]
def loose1 : List Str := ["word_in", "sides_in", "rests_in", "rests_in_overlaps", "open_in", "key_of", "directed_in", "reduced_in", "complete_in", "MOST", "OFTEN", "ONE_monoids", "rests_in_monoids", "finite_in", "table_in", "powers_in", "cycle_in", "need_finite", "need_element", "product_of", "power_of", "cycle_of", "still_elements", "_law_cup", "_law_roll", "_law_some", "_law_same", "_law_steps", "_law_behind", "_law_end"]
def loose2 : List Str := ["_law_finite", "_law_rests", "_law_table", "_law_right"]
def loose : List Str := loose0 ++ loose1 ++ loose2
theorem run (w : World) : HandSHeadRun.RunEq R (PySem.W.view R.prog [71]) hk ob 8000 loose w := by
  intro os
  kernel_rfl
theorem facts {P : Program} {w : World} {K : PySem.W.Frag} {h : Heap} {mg : Str → Option Value} {f : Addr} (X : K.In h) (G : h.Ns mainGlobals mg) (hfa : mg ("law" : Str) = some (.ref f)) (c : He.SaysD fac fnl K) :
    ∃ fd : FuncData, (∀ (s : Shared) (v : Value), BindsTo s fd ⟨[v], []⟩ [("script", v)]) ∧ ∀ base : Heap, FnOk P w K mg base (L2.CX P w) 12 f fd P_law (spD K mg 1 F_law) := by
  have fr : ∀ x ∈ bn, mg x = none := fun x hx => He.free_ok X G (factM c (f := .free x) (List.mem_append_left _ (List.mem_map.mpr ⟨x, hx, rfl⟩)))
  have fx : ∀ {z : He.Fa} (i : Nat), fac[i]? = some z → z.ok K = true := fun i e => factM c (List.mem_of_getElem? e)
  have g__law_cup : mg "_law_cup" = some (.ref (He.ga K "_law_cup")) := He.glo_ok X G (fx 15 rfl)
  have g_is_tuple_of : mg "is_tuple_of" = some (.ref (He.ga K "is_tuple_of")) := He.glo_ok X G (fx 16 rfl)
  have g_fits_whole : mg "fits_whole" = some (.ref (He.ga K "fits_whole")) := He.glo_ok X G (fx 17 rfl)
  have g_fits_letters : mg "fits_letters" = some (.ref (He.ga K "fits_letters")) := He.glo_ok X G (fx 18 rfl)
  have g_fits_rule : mg "fits_rule" = some (.ref (He.ga K "fits_rule")) := He.glo_ok X G (fx 19 rfl)
  have g_fits_system : mg "fits_system" = some (.ref (He.ga K "fits_system")) := He.glo_ok X G (fx 20 rfl)
  have g_need_system : mg "need_system" = some (.ref (He.ga K "need_system")) := He.glo_ok X G (fx 21 rfl)
  have g_key_of : mg "key_of" = some (.ref (He.ga K "key_of")) := He.glo_ok X G (fx 22 rfl)
  have g_directed_in : mg "directed_in" = some (.ref (He.ga K "directed_in")) := He.glo_ok X G (fx 23 rfl)
  have g_reduced_in : mg "reduced_in" = some (.ref (He.ga K "reduced_in")) := He.glo_ok X G (fx 24 rfl)
  have g_agrees : mg "agrees" = some (.ref (He.ga K "agrees")) := He.glo_ok X G (fx 25 rfl)
  have g_overlaps_in : mg "overlaps_in" = some (.ref (He.ga K "overlaps_in")) := He.glo_ok X G (fx 26 rfl)
  have g_places_in : mg "places_in" = some (.ref (He.ga K "places_in")) := He.glo_ok X G (fx 27 rfl)
  have g_steps_in : mg "steps_in" = some (.ref (He.ga K "steps_in")) := He.glo_ok X G (fx 28 rfl)
  have g_first_in : mg "first_in" = some (.ref (He.ga K "first_in")) := He.glo_ok X G (fx 29 rfl)
  have g_behind_in : mg "behind_in" = some (.ref (He.ga K "behind_in")) := He.glo_ok X G (fx 30 rfl)
  have g_rest_in : mg "rest_in" = some (.ref (He.ga K "rest_in")) := He.glo_ok X G (fx 31 rfl)
  have g_word_in : mg "word_in" = some (.ref (He.ga K "word_in")) := He.glo_ok X G (fx 32 rfl)
  have g_sides_in : mg "sides_in" = some (.ref (He.ga K "sides_in")) := He.glo_ok X G (fx 33 rfl)
  have g_rests_in_overlaps : mg "rests_in_overlaps" = some (.ref (He.ga K "rests_in_overlaps")) := He.glo_ok X G (fx 34 rfl)
  have g_open_in : mg "open_in" = some (.ref (He.ga K "open_in")) := He.glo_ok X G (fx 35 rfl)
  have g_complete_in : mg "complete_in" = some (.ref (He.ga K "complete_in")) := He.glo_ok X G (fx 36 rfl)
  have g_rests_in_monoids : mg "rests_in_monoids" = some (.ref (He.ga K "rests_in_monoids")) := He.glo_ok X G (fx 37 rfl)
  have g_finite_in : mg "finite_in" = some (.ref (He.ga K "finite_in")) := He.glo_ok X G (fx 38 rfl)
  have g_need_finite : mg "need_finite" = some (.ref (He.ga K "need_finite")) := He.glo_ok X G (fx 39 rfl)
  have g_need_element : mg "need_element" = some (.ref (He.ga K "need_element")) := He.glo_ok X G (fx 40 rfl)
  have g_powers_in : mg "powers_in" = some (.ref (He.ga K "powers_in")) := He.glo_ok X G (fx 41 rfl)
  have g_cycle_in : mg "cycle_in" = some (.ref (He.ga K "cycle_in")) := He.glo_ok X G (fx 42 rfl)
  have g_table_in : mg "table_in" = some (.ref (He.ga K "table_in")) := He.glo_ok X G (fx 43 rfl)
  have g_cycle_of : mg "cycle_of" = some (.ref (He.ga K "cycle_of")) := He.glo_ok X G (fx 44 rfl)
  have g_power_of : mg "power_of" = some (.ref (He.ga K "power_of")) := He.glo_ok X G (fx 45 rfl)
  have g__law_same : mg "_law_same" = some (.ref (He.ga K "_law_same")) := He.glo_ok X G (fx 46 rfl)
  have g_still_elements : mg "still_elements" = some (.ref (He.ga K "still_elements")) := He.glo_ok X G (fx 47 rfl)
  have g__law_steps : mg "_law_steps" = some (.ref (He.ga K "_law_steps")) := He.glo_ok X G (fx 48 rfl)
  have g__law_rests : mg "_law_rests" = some (.ref (He.ga K "_law_rests")) := He.glo_ok X G (fx 49 rfl)
  have g__law_behind : mg "_law_behind" = some (.ref (He.ga K "_law_behind")) := He.glo_ok X G (fx 50 rfl)
  have g__law_end : mg "_law_end" = some (.ref (He.ga K "_law_end")) := He.glo_ok X G (fx 51 rfl)
  have g__law_table : mg "_law_table" = some (.ref (He.ga K "_law_table")) := He.glo_ok X G (fx 52 rfl)
  have g__law_roll : mg "_law_roll" = some (.ref (He.ga K "_law_roll")) := He.glo_ok X G (fx 53 rfl)
  have g_product_of : mg "product_of" = some (.ref (He.ga K "product_of")) := He.glo_ok X G (fx 54 rfl)
  have g__law_right : mg "_law_right" = some (.ref (He.ga K "_law_right")) := He.glo_ok X G (fx 55 rfl)
  have g__law_some : mg "_law_some" = some (.ref (He.ga K "_law_some")) := He.glo_ok X G (fx 56 rfl)
  have g__law_finite : mg "_law_finite" = some (.ref (He.ga K "_law_finite")) := He.glo_ok X G (fx 57 rfl)
  have g_law : mg "law" = some (.ref (He.ga K "law")) := He.glo_ok X G (fx 58 rfl)
  have m_BEGIN : ∃ t, mg "BEGIN" = some (.int (2) t) := He.int_ok X G (fx 59 rfl)
  have m_GROWN : ∃ t, mg "GROWN" = some (.int (200) t) := He.int_ok X G (fx 60 rfl)
  have m_LETTERS : ∃ t, mg "LETTERS" = some (.str (⟨#[97, 98, 99, 100]⟩) t) := He.str_ok X G (fx 61 rfl)
  have m_MOST : ∃ t, mg "MOST" = some (.int (24) t) := He.int_ok X G (fx 62 rfl)
  have m_MOST_RULES : ∃ t, mg "MOST_RULES" = some (.int (8) t) := He.int_ok X G (fx 63 rfl)
  have m_OFTEN : ∃ t, mg "OFTEN" = some (.int (1000) t) := He.int_ok X G (fx 64 rfl)
  have m_ONE_monoids : ∃ t, mg "ONE_monoids" = some (.int (0) t) := He.int_ok X G (fx 65 rfl)
  have m_ONE_overlaps : ∃ t, mg "ONE_overlaps" = some (.int (0) t) := He.int_ok X G (fx 66 rfl)
  have m_OTHER : ∃ t, mg "OTHER" = some (.int (1) t) := He.int_ok X G (fx 67 rfl)
  have m_PLACE : ∃ t, mg "PLACE" = some (.int (0) t) := He.int_ok X G (fx 68 rfl)
  have m_REST : ∃ t, mg "REST" = some (.int (500) t) := He.int_ok X G (fx 69 rfl)
  have m_RULE : ∃ t, mg "RULE" = some (.int (1) t) := He.int_ok X G (fx 70 rfl)
  have m_RULES : ∃ t, mg "RULES" = some (.int (1) t) := He.int_ok X G (fx 71 rfl)
  have m_SIDE : ∃ t, mg "SIDE" = some (.int (6) t) := He.int_ok X G (fx 72 rfl)
  have m_SIZE : ∃ t, mg "SIZE" = some (.int (0) t) := He.int_ok X G (fx 73 rfl)
  obtain ⟨fd__law_cup, FD__law_cup⟩ := c.def_ 0 (d := D__law_cup) rfl
  obtain ⟨fd_is_tuple_of, FD_is_tuple_of⟩ := c.def_ 1 (d := D_is_tuple_of) rfl
  obtain ⟨fd_fits_whole, FD_fits_whole⟩ := c.def_ 2 (d := D_fits_whole) rfl
  obtain ⟨fd_fits_letters, FD_fits_letters⟩ := c.def_ 3 (d := D_fits_letters) rfl
  obtain ⟨fd_fits_rule, FD_fits_rule⟩ := c.def_ 4 (d := D_fits_rule) rfl
  obtain ⟨fd_fits_system, FD_fits_system⟩ := c.def_ 5 (d := D_fits_system) rfl
  obtain ⟨fd_need_system, FD_need_system⟩ := c.def_ 6 (d := D_need_system) rfl
  obtain ⟨fd_key_of, FD_key_of⟩ := c.def_ 7 (d := D_key_of) rfl
  obtain ⟨fd_directed_in, FD_directed_in⟩ := c.def_ 8 (d := D_directed_in) rfl
  obtain ⟨fd_reduced_in, FD_reduced_in⟩ := c.def_ 9 (d := D_reduced_in) rfl
  obtain ⟨fd_agrees, FD_agrees⟩ := c.def_ 10 (d := D_agrees) rfl
  obtain ⟨fd_overlaps_in, FD_overlaps_in⟩ := c.def_ 11 (d := D_overlaps_in) rfl
  obtain ⟨fd_places_in, FD_places_in⟩ := c.def_ 12 (d := D_places_in) rfl
  obtain ⟨fd_steps_in, FD_steps_in⟩ := c.def_ 13 (d := D_steps_in) rfl
  obtain ⟨fd_first_in, FD_first_in⟩ := c.def_ 14 (d := D_first_in) rfl
  obtain ⟨fd_behind_in, FD_behind_in⟩ := c.def_ 15 (d := D_behind_in) rfl
  obtain ⟨fd_rest_in, FD_rest_in⟩ := c.def_ 16 (d := D_rest_in) rfl
  obtain ⟨fd_word_in, FD_word_in⟩ := c.def_ 17 (d := D_word_in) rfl
  obtain ⟨fd_sides_in, FD_sides_in⟩ := c.def_ 18 (d := D_sides_in) rfl
  obtain ⟨fd_rests_in_overlaps, FD_rests_in_overlaps⟩ := c.def_ 19 (d := D_rests_in_overlaps) rfl
  obtain ⟨fd_open_in, FD_open_in⟩ := c.def_ 20 (d := D_open_in) rfl
  obtain ⟨fd_complete_in, FD_complete_in⟩ := c.def_ 21 (d := D_complete_in) rfl
  obtain ⟨fd_rests_in_monoids, FD_rests_in_monoids⟩ := c.def_ 22 (d := D_rests_in_monoids) rfl
  obtain ⟨fd_finite_in, FD_finite_in⟩ := c.def_ 23 (d := D_finite_in) rfl
  obtain ⟨fd_need_finite, FD_need_finite⟩ := c.def_ 24 (d := D_need_finite) rfl
  obtain ⟨fd_need_element, FD_need_element⟩ := c.def_ 25 (d := D_need_element) rfl
  obtain ⟨fd_powers_in, FD_powers_in⟩ := c.def_ 26 (d := D_powers_in) rfl
  obtain ⟨fd_cycle_in, FD_cycle_in⟩ := c.def_ 27 (d := D_cycle_in) rfl
  obtain ⟨fd_table_in, FD_table_in⟩ := c.def_ 28 (d := D_table_in) rfl
  obtain ⟨fd_cycle_of, FD_cycle_of⟩ := c.def_ 29 (d := D_cycle_of) rfl
  obtain ⟨fd_power_of, FD_power_of⟩ := c.def_ 30 (d := D_power_of) rfl
  obtain ⟨fd__law_same, FD__law_same⟩ := c.def_ 31 (d := D__law_same) rfl
  obtain ⟨fd_still_elements, FD_still_elements⟩ := c.def_ 32 (d := D_still_elements) rfl
  obtain ⟨fd__law_steps, FD__law_steps⟩ := c.def_ 33 (d := D__law_steps) rfl
  obtain ⟨fd__law_rests, FD__law_rests⟩ := c.def_ 34 (d := D__law_rests) rfl
  obtain ⟨fd__law_behind, FD__law_behind⟩ := c.def_ 35 (d := D__law_behind) rfl
  obtain ⟨fd__law_end, FD__law_end⟩ := c.def_ 36 (d := D__law_end) rfl
  obtain ⟨fd__law_table, FD__law_table⟩ := c.def_ 37 (d := D__law_table) rfl
  obtain ⟨fd__law_roll, FD__law_roll⟩ := c.def_ 38 (d := D__law_roll) rfl
  obtain ⟨fd_product_of, FD_product_of⟩ := c.def_ 39 (d := D_product_of) rfl
  obtain ⟨fd__law_right, FD__law_right⟩ := c.def_ 40 (d := D__law_right) rfl
  obtain ⟨fd__law_some, FD__law_some⟩ := c.def_ 41 (d := D__law_some) rfl
  obtain ⟨fd__law_finite, FD__law_finite⟩ := c.def_ 42 (d := D__law_finite) rfl
  obtain ⟨fd_law, FD_law⟩ := c.def_ 43 (d := D_law) rfl
  have e := hfa.symm.trans g_law
  cases e
  have b := FunD.bindsA (ps := ["script"]) FD_law fun _ _ _ _ _ _ us hl => match us, hl with | [_], _ => rfl
  refine ⟨fd_law, fun s v => b s [v] rfl, fun base => ?_⟩
  have C__law_cup : Cal P w K mg base "_law_cup" 1 1 F__law_cup := c__law_cup fr FD__law_cup g__law_cup
  have C_is_tuple_of : Cal P w K mg base "is_tuple_of" 1 3 F_is_tuple_of := c_is_tuple_of fr FD_is_tuple_of g_is_tuple_of
  have C_fits_whole : Cal P w K mg base "fits_whole" 1 3 F_fits_whole := c_fits_whole fr FD_fits_whole g_fits_whole
  have C_fits_letters : Cal P w K mg base "fits_letters" 1 4 F_fits_letters := c_fits_letters fr m_LETTERS FD_fits_letters g_fits_letters
  have C_fits_rule : Cal P w K mg base "fits_rule" 2 2 F_fits_rule := c_fits_rule fr m_SIDE C_is_tuple_of C_fits_letters FD_fits_rule g_fits_rule
  have C_fits_system : Cal P w K mg base "fits_system" 3 1 F_fits_system := c_fits_system fr m_LETTERS m_MOST_RULES m_SIZE C_is_tuple_of C_fits_whole C_fits_rule FD_fits_system g_fits_system
  have C_need_system : Cal P w K mg base "need_system" 4 1 F_need_system := c_need_system fr C_fits_system FD_need_system g_need_system
  have C_key_of : Cal P w K mg base "key_of" 1 1 F_key_of := c_key_of fr FD_key_of g_key_of
  have C_directed_in : Cal P w K mg base "directed_in" 2 1 F_directed_in := c_directed_in fr m_RULES C_key_of FD_directed_in g_directed_in
  have C_reduced_in : Cal P w K mg base "reduced_in" 1 1 F_reduced_in := c_reduced_in fr m_RULES FD_reduced_in g_reduced_in
  have C_agrees : Cal P w K mg base "agrees" 1 3 F_agrees := c_agrees fr FD_agrees g_agrees
  have C_overlaps_in : Cal P w K mg base "overlaps_in" 2 1 F_overlaps_in := c_overlaps_in fr m_RULES C_agrees FD_overlaps_in g_overlaps_in
  have C_places_in : Cal P w K mg base "places_in" 1 2 F_places_in := c_places_in fr FD_places_in g_places_in
  have C_steps_in : Cal P w K mg base "steps_in" 2 2 F_steps_in := c_steps_in fr m_RULES C_places_in FD_steps_in g_steps_in
  have C_first_in : Cal P w K mg base "first_in" 3 2 F_first_in := c_first_in fr C_steps_in FD_first_in g_first_in
  have C_behind_in : Cal P w K mg base "behind_in" 1 3 F_behind_in := c_behind_in fr m_PLACE m_RULE m_RULES FD_behind_in g_behind_in
  have C_rest_in : Cal P w K mg base "rest_in" 4 2 F_rest_in := c_rest_in fr m_GROWN m_REST C_first_in C_behind_in FD_rest_in g_rest_in
  have C_word_in : Cal P w K mg base "word_in" 1 2 F_word_in := c_word_in fr m_BEGIN m_ONE_overlaps m_OTHER m_RULES FD_word_in g_word_in
  have C_sides_in : Cal P w K mg base "sides_in" 2 2 F_sides_in := c_sides_in fr m_BEGIN m_ONE_overlaps m_OTHER C_word_in C_behind_in FD_sides_in g_sides_in
  have C_rests_in_overlaps : Cal P w K mg base "rests_in_overlaps" 5 2 F_rests_in_overlaps := c_rests_in_overlaps fr C_sides_in C_rest_in FD_rests_in_overlaps g_rests_in_overlaps
  have C_open_in : Cal P w K mg base "open_in" 6 1 F_open_in := c_open_in fr C_overlaps_in C_rests_in_overlaps FD_open_in g_open_in
  have C_complete_in : Cal P w K mg base "complete_in" 7 1 F_complete_in := c_complete_in fr C_directed_in C_reduced_in C_open_in FD_complete_in g_complete_in
  have C_rests_in_monoids : Cal P w K mg base "rests_in_monoids" 1 1 F_rests_in := c_rests_in fr m_LETTERS m_MOST m_RULES m_SIZE FD_rests_in_monoids g_rests_in_monoids
  have C_finite_in : Cal P w K mg base "finite_in" 8 1 F_finite_in := c_finite_in fr C_complete_in C_rests_in_monoids FD_finite_in g_finite_in
  have C_need_finite : Cal P w K mg base "need_finite" 9 1 F_need_finite := c_need_finite fr C_need_system C_finite_in FD_need_finite g_need_finite
  have C_need_element : Cal P w K mg base "need_element" 2 2 F_need_element := c_need_element fr C_fits_whole C_rests_in_monoids FD_need_element g_need_element
  have C_powers_in : Cal P w K mg base "powers_in" 1 2 F_powers_in := c_powers_in fr m_ONE_monoids FD_powers_in g_powers_in
  have C_cycle_in : Cal P w K mg base "cycle_in" 2 2 F_cycle_in := c_cycle_in fr C_powers_in FD_cycle_in g_cycle_in
  have C_table_in : Cal P w K mg base "table_in" 5 1 F_table_in := c_table_in fr C_rests_in_monoids C_rest_in FD_table_in g_table_in
  have C_cycle_of : Cal P w K mg base "cycle_of" 10 2 F_cycle_of := c_cycle_of fr C_need_finite C_need_element C_cycle_in C_table_in FD_cycle_of g_cycle_of
  have C_power_of : Cal P w K mg base "power_of" 10 3 F_power_of := c_power_of fr m_OFTEN C_need_finite C_need_element C_fits_whole C_table_in C_powers_in C_cycle_in FD_power_of g_power_of
  have C__law_same : Cal P w K mg base "_law_same" 9 2 F__law_same := c__law_same fr FD__law_same g__law_same
  have C_still_elements : Cal P w K mg base "still_elements" 10 1 F_still_elements := c_still_elements fr C_need_finite C_table_in FD_still_elements g_still_elements
  have C__law_steps : Cal P w K mg base "_law_steps" 1 2 F__law_steps := c__law_steps fr FD__law_steps g__law_steps
  have C__law_rests : Cal P w K mg base "_law_rests" 2 1 F__law_rests := c__law_rests fr C__law_steps FD__law_rests g__law_rests
  have C__law_behind : Cal P w K mg base "_law_behind" 1 3 F__law_behind := c__law_behind fr FD__law_behind g__law_behind
  have C__law_end : Cal P w K mg base "_law_end" 2 2 F__law_end := c__law_end fr C__law_steps C__law_behind FD__law_end g__law_end
  have C__law_table : Cal P w K mg base "_law_table" 3 1 F__law_table := c__law_table fr C__law_rests C__law_end FD__law_table g__law_table
  have C__law_roll : Cal P w K mg base "_law_roll" 1 2 F__law_roll := c__law_roll fr FD__law_roll g__law_roll
  have C_product_of : Cal P w K mg base "product_of" 10 3 F_product_of := c_product_of fr C_need_finite C_need_element C_table_in FD_product_of g_product_of
  have C__law_right : Cal P w K mg base "_law_right" 11 2 F__law_right := c__law_right fr C__law_table C__law_roll C__law_same C_cycle_of C_power_of C_product_of C_still_elements FD__law_right g__law_right
  have C__law_some : Cal P w K mg base "_law_some" 2 2 F__law_some := c__law_some fr C__law_roll FD__law_some g__law_some
  have C__law_finite : Cal P w K mg base "_law_finite" 3 1 F__law_finite := c__law_finite fr C__law_some FD__law_finite g__law_finite
  exact ok_law fr C__law_cup C_cycle_of C_power_of C__law_same C_still_elements C__law_right C__law_finite FD_law
end G
namespace G
open PySem PySem.Spec PyProof.Rows L2 Lay
theorem roll (b c n : Int) (hb : 0 ≤ b) (hc : 0 ≤ c) (hc2 : c < 2147483648) (hn : 0 < n) (hn2 : n < 1000000) :
    ∃ r b' c' : Int, 0 ≤ r ∧ r < n ∧ 0 ≤ b' ∧ 0 ≤ c' ∧ c' < 2147483648 ∧ F__law_roll [.ref 0, .v (.int n)] [.lst [.int b, .int c]] = .ok (.v (.int r)) [.lst [.int b', .int c']] := by
  have hn3 : n < 1073741824 := by omega
  by_cases h : 0 < b
  · refine ⟨b % n, b / n, c, Int.emod_nonneg _ (by omega), Int.emod_lt_of_pos _ hn, Int.ediv_nonneg hb (by omega), hc, hc2, ?_⟩
    simp [F__law_roll, d__law_roll, atI, ixN, h, r_mod hn, r_fdiv hn hn3]
  · have hb0 : b = 0 := by omega
    subst hb0
    have hc3 : c < 18446744073709551616 := by omega
    have q1 : 0 ≤ (c * 31063 + 7793) % 2147482951 := Int.emod_nonneg _ (by decide)
    have q2 : (c * 31063 + 7793) % 2147482951 < 2147482951 := Int.emod_lt_of_pos _ (by decide)
    refine ⟨(((c * 31063 + 7793) % 2147482951 * ((c * 31063 + 7793) % 2147482951 + 347)) % 2147483059 / 823) % n, 0, (c * 31063 + 7793) % 2147482951, Int.emod_nonneg _ (by omega), Int.emod_lt_of_pos _ hn, by omega, q1, by omega, ?_⟩
    have q3 : (c * 31063 + 7793) % 2147482951 < 18446744073709551616 := by omega
    have q4 : -18446744073709551616 < (c * 31063 + 7793) % 2147482951 := by omega
    have q5 : -18446744073709551616 < c := by omega
    simp [F__law_roll, d__law_roll, atI, ixN, hn, opMod, opFdiv, r_mod hn, opMul, q3, q4, q5]

/-- data that `same` tells equal to itself: no lists, no dicts -/
def flat : Nat → PyData → Bool
  | 0, _ => false
  | _ + 1, .none => true
  | _ + 1, .bool _ => true
  | _ + 1, .int _ => true
  | _ + 1, .str _ => true
  | n + 1, .tuple ds => decide (ds.length ≤ lim) && ds.all (flat n)
  | _ + 1, _ => false
theorem allB_true : ∀ ds : List PyData, Lay.allB (ds.map fun _ => PyData.bool true) = some (ds.map fun _ => true)
  | [] => rfl
  | d :: ds => by simp [Lay.allB, allB_true ds]
theorem same_tup (G0 : Fd) (ds : List PyData) (w : Sto) (hl : ds.length ≤ lim) (ih : ∀ p ∈ ds, G0 [.v p, .v p] w = .ok (.v (.bool true)) w) : runF (d__law_same G0) 3 [.v (.tuple ds), .v (.tuple ds)] w = .ok (.v (.bool true)) w := by
  have hr : iRange1 (eBi fLen (aCons (eVar 1) aNil)) [.v (.tuple ds), .v (.tuple ds), .un] w = .ok (true, intsD 0 ds.length) w := by
    have := r_range1 (a := eBi fLen (aCons (eVar 1) aNil)) (δ := [.v (.tuple ds), .v (.tuple ds), .un]) (s := w) (s' := w) (j := ds.length) (by simp) (by omega) (by unfold lim at hl; omega)
    rw [this, Int.toNat_natCast]
  have hl2 : (intsD 0 ds.length).length ≤ lim := by simpa [intsD] using hl
  have key : lcL (gNm 2) tTrue (eCall 2 G0 (aCons (eIx (eVar 0) (eVar 2)) (aCons (eIx (eVar 1) (eVar 2)) aNil))) [.v (.tuple ds), .v (.tuple ds), .un] (intsD 0 ds.length) w = .ok ((intsD 0 ds.length).map fun _ => .bool true) w := by
    refine lcL_map (fun _ => .bool true) _ fun d hd => ?_
    obtain ⟨i, hi, rfl⟩ := List.mem_map.mp hd
    have hi : i < ds.length := List.mem_range.mp hi
    have e : atI ds (i : Int) = some ds[i] := atN (List.getElem?_eq_getElem hi)
    refine ⟨[.v (.tuple ds), .v (.tuple ds), .v (.int (0 + (i : Nat)))], rfl, rfl, ?_⟩
    have ih := ih ds[i] (List.getElem_mem hi)
    simp [e, ih]
  have hB : eLc [2] (iRange1 (eBi fLen (aCons (eVar 1) aNil))) (gNm 2) tTrue (eCall 2 G0 (aCons (eIx (eVar 0) (eVar 2)) (aCons (eIx (eVar 1) (eVar 2)) aNil))) [.v (.tuple ds), .v (.tuple ds), .un] w = .ok (.fr (.list ((intsD 0 ds.length).map fun _ => .bool true))) w := by
    unfold eLc
    rw [hr]
    show (if (intsD 0 ds.length).length ≤ lim then _ else _) = _
    rw [if_pos hl2]
    show (noEx (lcL _ _ _ [.v (.tuple ds), .v (.tuple ds), .un] _ w)).bind _ = _
    rw [key]
    rfl
  have hC : eBi fAll (aCons (eLc [2] (iRange1 (eBi fLen (aCons (eVar 1) aNil))) (gNm 2) tTrue (eCall 2 G0 (aCons (eIx (eVar 0) (eVar 2)) (aCons (eIx (eVar 1) (eVar 2)) aNil)))) aNil) [.v (.tuple ds), .v (.tuple ds), .un] w = .ok (.v (.bool true)) w := by
    simp [hB, fAll, allB_true]
  have hD : sIf (tO (tNt (tVal (eIsi .tup (eVar 0)))) (tVal (eBin opNe (eBi fLen (aCons (eVar 0) aNil)) (eBi fLen (aCons (eVar 1) aNil))))) (sRet (eC (.bool false))) sNext [.v (.tuple ds), .v (.tuple ds), .un] w = .ok (.nx [.v (.tuple ds), .v (.tuple ds), .un]) w := by
    simp [isiD]
  refine run_ret (seq_ret ?_)
  rw [r_if]
  have : tVal (eIsi .tup (eVar 1)) [.v (.tuple ds), .v (.tuple ds), .un] w = .ok true w := by simp [isiD]
  show Out.bind (tVal (eIsi .tup (eVar 1)) [.v (.tuple ds), .v (.tuple ds), .un] w) _ = _
  rw [this]
  refine (seq_nx hD).trans ?_
  rw [r_ret, hC]
  rfl
theorem same_refl : ∀ (n : Nat) (p : PyData) (w : Sto), flat n p = true → FR__law_same n [.v p, .v p] w = .ok (.v (.bool true)) w := by
  intro n
  induction n with
  | zero => intro p w h; simp [flat] at h
  | succ n ih =>
    intro p w h
    cases p with
    | none => simp [FR__law_same, d__law_same, isiD, isNone]
    | bool b => cases b <;> simp [FR__law_same, d__law_same, isiD, isNone, opIs]
    | int i => simp [FR__law_same, d__law_same, isiD, isNone]
    | str x => simp [FR__law_same, d__law_same, isiD, isNone, fStr, opEq, okD, PyData.eqv]
    | tuple ds =>
      simp only [flat, Bool.and_eq_true, decide_eq_true_eq, List.all_eq_true] at h
      exact same_tup _ ds w h.1 fun q hq => ih q w (h.2 q hq)
    | list ds => simp [flat] at h
    | dict ds => simp [flat] at h
end G
namespace G
open PySem PySem.Spec PyProof.Rows L2 Lay
def kx (b m o : Int) : Nat := (if o < b then o else b + (o - b) % m).toNat
def pw (row : List Int) (b m o : Int) : Int := row.getD (kx b m o) 0
theorem kx_lt {b m o : Int} {n : Nat} (hb : 0 ≤ b) (hm : 0 < m) (hn : b + m = n) (ho : 0 ≤ o) : kx b m o < n := by
  unfold kx
  have h1 := Int.emod_lt_of_pos (o - b) hm
  have h2 := Int.emod_nonneg (o - b) (by omega : m ≠ 0)
  split <;> omega
theorem at_int {row : List Int} {k : Nat} (h : k < row.length) : atI (row.map PyData.int) (k : Int) = some (.int (row.getD k 0)) := by
  refine atN ?_
  rw [List.getElem?_map, List.getElem?_eq_getElem h]
  simp [h]
theorem fits_ok {o lo hi : Int} {w : Sto} (h1 : lo ≤ o) (h2 : o ≤ hi) : F_fits_whole [.v (.int o), .v (.int lo), .v (.int hi)] w = .ok (.v (.bool true)) w := by
  refine run_ret ?_
  simp [d_fits_whole, isiD, h1, h2]
theorem power_eval {S0 T0 : PyData} {a o b m : Int} {row : List Int} {w : Sto}
    (h1 : F_need_finite [.v S0] w = .ok (.v .none) w) (h2 : F_need_element [.v S0, .v (.int a)] w = .ok (.v .none) w) (h3 : F_table_in [.v S0] w = .ok (.v T0) w)
    (h4 : F_powers_in [.v T0, .v (.int a)] w = .ok (.fr (.list (row.map .int))) w) (h5 : F_cycle_in [.v T0, .v (.int a)] w = .ok (.v (.tuple [.int b, .int m])) w)
    (hb : 0 ≤ b) (hm : 0 < m) (hn : b + m = row.length) (ho : 0 ≤ o) (ho2 : o ≤ 1000) :
    F_power_of [.v S0, .v (.int a), .v (.int o)] w = .ok (.v (.int (pw row b m o))) w := by
  refine run_ret ?_
  have e1 : sExpr (eCall 1 F_need_finite (aCons (eVar 0) aNil)) [.v S0, .v (.int a), .v (.int o), .un, .un, .un, .un] w = .ok (.nx [.v S0, .v (.int a), .v (.int o), .un, .un, .un, .un]) w := by simp [h1]
  have e2 : sExpr (eCall 2 F_need_element (aCons (eVar 0) (aCons (eVar 1) aNil))) [.v S0, .v (.int a), .v (.int o), .un, .un, .un, .un] w = .ok (.nx [.v S0, .v (.int a), .v (.int o), .un, .un, .un, .un]) w := by simp [h2]
  have hf := fits_ok (w := w) ho ho2
  have e3 : sIf (tNt (tVal (eCall 3 F_fits_whole (aCons (eVar 2) (aCons (eC (.int 0)) (aCons (eC (.int 1000)) aNil)))))) sBad sNext [.v S0, .v (.int a), .v (.int o), .un, .un, .un, .un] w = .ok (.nx [.v S0, .v (.int a), .v (.int o), .un, .un, .un, .un]) w := by simp [hf]
  have e4 : sAsg 3 false (eCall 1 F_table_in (aCons (eVar 0) aNil)) [.v S0, .v (.int a), .v (.int o), .un, .un, .un, .un] w = .ok (.nx [.v S0, .v (.int a), .v (.int o), .v T0, .un, .un, .un]) w := by simp [h3]
  have e5 : sUnp (gTp [(gNm 4), (gTp [(gNm 5), (gNm 6)])]) (eTup (aCons (eCall 2 F_powers_in (aCons (eVar 3) (aCons (eVar 1) aNil))) (aCons (eCall 2 F_cycle_in (aCons (eVar 3) (aCons (eVar 1) aNil))) aNil))) [.v S0, .v (.int a), .v (.int o), .v T0, .un, .un, .un] w = .ok (.nx [.v S0, .v (.int a), .v (.int o), .v T0, .v (.list (row.map .int)), .v (.int b), .v (.int m)]) w := by simp [h4, h5]
  refine (seq_nx e1).trans <| (seq_nx e2).trans <| (seq_nx e3).trans <| (seq_nx e4).trans <| (seq_nx e5).trans ?_
  by_cases hlt : o < (row.length : Int)
  · have hk : kx b m o = o.toNat := by
      unfold kx
      split
      · rfl
      · rw [Int.emod_eq_of_lt (by omega) (by omega)]; congr 1; omega
    have hat := at_int (row := row) (k := o.toNat) (by omega)
    rw [Int.toNat_of_nonneg ho] at hat
    simp [hlt, hat, pw, hk]
  · have hat := at_int (row := row) (kx_lt (o := o) hb hm hn ho)
    have hk : ((kx b m o : Nat) : Int) = b + (o - b) % m := by
      unfold kx
      have h2 := Int.emod_nonneg (o - b) (by omega : m ≠ 0)
      rw [if_neg (by omega), Int.toNat_of_nonneg (by omega)]
    rw [hk] at hat
    simp [hlt, hat, pw, r_mod hm]
end G
namespace G
open PySem PySem.Spec PyProof.Rows L2 Lay
def b1 : Lay.S := (sPar [(10, false), (11, true)] (aCons (eCall 2 F__law_roll (aCons (eVar 0) (aCons (eBi fLen (aCons (eVar 2) aNil)) aNil))) (aCons (eLst (aCons (eC (.int 0)) aNil)) aNil)))
def b2 : Lay.S := (sFor (iRange1 (eBin opAdd (eBin opMul (eC (.int 2)) (eBi fLen (aCons (eVar 2) aNil))) (eC (.int 1)))) (gNm 4) (sAppO 11 (eIx (eIx (eVar 2) (eIx (eVar 11) (eUn opNeg (eC (.int 1))))) (eVar 10))))
def b3 : Lay.S := (sAsg 5 false (eIx (eLc [12] (iRange1 (eBi fLen (aCons (eVar 11) aNil))) (gNm 12) (tVal (eBin opIn (eIx (eVar 11) (eVar 12)) (eSl (eVar 11) (oSome (eBin opAdd (eVar 12) (eC (.int 1)))) oNone))) (eVar 12)) (eC (.int 0))))
def b4 : Lay.S := (sAsg 6 false (eBin opAdd (eIndex (eSl (eVar 11) (oSome (eBin opAdd (eVar 5) (eC (.int 1)))) oNone) (eIx (eVar 11) (eVar 5))) (eC (.int 1))))
def b5 : Lay.S := (sAsg 7 false (eCall 2 F__law_roll (aCons (eVar 0) (aCons (eC (.int 1001)) aNil))))
def b6 : Lay.S := (sAsg 8 false (eIf (tVal (eBin opLt (eVar 7) (eVar 5))) (eIx (eVar 11) (eVar 7)) (eIx (eVar 11) (eBin opAdd (eVar 5) (eBin opMod (eBi fInt (aCons (eBin opSub (eVar 7) (eVar 5)) aNil)) (eVar 6))))))
def b7 : Lay.S := (sIf (tNt (tVal (eCall 2 F__law_same (aCons (eTup (aCons (eCall 2 F_cycle_of (aCons (eVar 1) (aCons (eVar 10) aNil))) (aCons (eCall 3 F_power_of (aCons (eVar 1) (aCons (eVar 10) (aCons (eVar 7) aNil)))) (aCons (eCall 3 F_power_of (aCons (eVar 1) (aCons (eVar 10) (aCons (eC (.int 1)) aNil)))) aNil)))) (aCons (eTup (aCons (eTup (aCons (eVar 5) (aCons (eVar 6) aNil))) (aCons (eVar 8) (aCons (eVar 10) aNil)))) aNil))))) (sRet (eC (.bool false))) sNext)
def b8 : Lay.S := (sAsg 9 false (eCall 3 F_power_of (aCons (eVar 1) (aCons (eVar 10) (aCons (eIf (tVal (eBin opGt (eVar 7) (eC (.int 0)))) (eBin opSub (eVar 7) (eC (.int 1))) (eC (.int 0))) aNil)))))
def b9 : Lay.S := (sIf (tNt (tVal (eCall 2 F__law_same (aCons (eCall 3 F_product_of (aCons (eVar 1) (aCons (eVar 9) (aCons (eVar 10) aNil)))) (aCons (eIf (tVal (eBin opGt (eVar 7) (eC (.int 0)))) (eVar 8) (eVar 10)) aNil))))) (sRet (eC (.bool false))) sNext)
def bodyR : Lay.S := sSeq b1 (sSeq b2 (sSeq b3 (sSeq b4 (sSeq b5 (sSeq b6 (sSeq b7 (sSeq b8 (b9))))))))
def retR : Lay.S := (sRet (eCall 2 F__law_same (aCons (eCall 1 F_still_elements (aCons (eVar 1) aNil)) (aCons (eBi fTuple (aCons (eLc [10] (iRange1 (eBi fLen (aCons (eVar 2) aNil))) (gNm 10) (tVal (eBin opEq (eIx (eIx (eVar 2) (eVar 10)) (eVar 10)) (eVar 10))) (eVar 10)) aNil)) aNil))))
theorem right_eq : d__law_right = sSeq (sAsg 2 false (eCall 1 F__law_table (aCons (eVar 1) aNil))) (sSeq (sFor (iRange1 (eC (.int 3))) (gNm 3) bodyR) retR) := rfl
def tabD (tab : List (List Int)) : PyData := .tuple (tab.map fun r => .tuple (r.map .int))
structure Base (S0 : PyData) (tab : List (List Int)) (rs : List PyData) (st : PyData) : Prop where
  n1 : ∀ w, F_need_finite [.v S0] w = .ok (.v .none) w
  n3 : ∀ w, F_table_in [.v S0] w = .ok (.v (tabD tab)) w
  n6 : ∀ w, F_rests_in [.v S0] w = .ok (.fr (.list rs)) w
  n7 : ∀ w, F__law_table [.v S0] w = .ok (.v (tabD tab)) w
  n8 : ∀ w x3 x4 x5 x6 x7 x8 x9 x10 x11 x12, retR [.ref 0, .v S0, .v (tabD tab), x3, x4, x5, x6, x7, x8, x9, x10, x11, x12] w = .ok (.ret (.v (.bool true))) w
  len : rs.length = tab.length
  pos : 0 < tab.length
  most : tab.length ≤ 24
/-- next place on the way round -/
def nx (b m : Int) (i : Nat) : Nat := if (i : Int) + 1 < b + m then i + 1 else b.toNat
def cellT (tab : List (List Int)) (l a : Nat) : Int := (tab.getD l []).getD a 0
def chk (tab : List (List Int)) (a : Nat) (row row' : List Int) (b m : Int) : Bool :=
  decide (0 ≤ b ∧ 0 < m ∧ b + m = row.length ∧ row.length ≤ 100 ∧ row'.length ≤ 100) && (List.range row.length).all (fun i => decide (row'[i]? = row[i]?)) &&
  (List.range row.length).all (fun i => decide (0 ≤ row.getD i 0) && decide (row.getD i 0 < tab.length) && decide (((tab.getD (row.getD i 0).toNat []))[a]? = some (row.getD (nx b m i) 0)))
  && decide (pw row b m 0 = 0) && decide (pw row b m 1 = a) && decide (a < tab.length)
structure Good (S0 : PyData) (tab : List (List Int)) (a : Nat) (row row' : List Int) (b m : Int) : Prop where
  h4 : ∀ w, F_powers_in [.v (tabD tab), .v (.int a)] w = .ok (.fr (.list (row.map .int))) w
  h5 : ∀ w, F_cycle_in [.v (tabD tab), .v (.int a)] w = .ok (.v (.tuple [.int b, .int m])) w
  lp : ∀ w x3 x4 x5 x6 x7 x8 x9 x12, ∃ x4', (sSeq b2 (sSeq b3 b4)) [.ref 0, .v S0, .v (tabD tab), x3, x4, x5, x6, x7, x8, x9, .v (.int a), .own (.list [.int 0]), x12] w = .ok (.nx [.ref 0, .v S0, .v (tabD tab), x3, x4', .v (.int b), .v (.int m), x7, x8, x9, .v (.int a), .own (.list (row'.map .int)), x12]) w
  ck : chk tab a row row' b m = true
theorem need_el {S0 : PyData} {rs : List PyData} {l : Int} {w : Sto} (n6 : F_rests_in [.v S0] w = .ok (.fr (.list rs)) w) (h0 : 0 ≤ l) (h1 : l < rs.length) : F_need_element [.v S0, .v (.int l)] w = .ok (.v .none) w := by
  have hf := fits_ok (w := w) h0 (show l ≤ (rs.length : Int) - 1 by omega)
  refine run_nx (δ' := [.v S0, .v (.int l)]) ?_
  simp [d_need_element, n6, hf]
theorem tab_at {tab : List (List Int)} {l a : Nat} {v : Int} (h : (tab.getD l [])[a]? = some v) (hl : l < tab.length) :
    atI (tab.map fun r => PyData.tuple (r.map .int)) (l : Int) = some (.tuple ((tab.getD l []).map .int)) ∧ atI ((tab.getD l []).map PyData.int) (a : Int) = some (.int v) := by
  refine ⟨atN ?_, atN ?_⟩
  · rw [List.getElem?_map, List.getElem?_eq_getElem hl]; simp [hl]
  · rw [List.getElem?_map, h]; rfl
theorem prod_eval {S0 : PyData} {tab : List (List Int)} {rs : List PyData} {st : PyData} {l a : Nat} {v : Int} {w : Sto} (H : Base S0 tab rs st) (h : (tab.getD l [])[a]? = some v) (hl : l < tab.length) (ha : a < tab.length) :
    F_product_of [.v S0, .v (.int l), .v (.int a)] w = .ok (.v (.int v)) w := by
  have q1 := need_el (l := (l : Int)) (H.n6 w) (by omega) (by rw [H.len]; omega)
  have q2 := need_el (l := (a : Int)) (H.n6 w) (by omega) (by rw [H.len]; omega)
  obtain ⟨t1, t2⟩ := tab_at h hl
  have e3 := H.n3 w
  unfold tabD at e3
  refine run_ret ?_
  simp [d_product_of, H.n1, q1, q2, e3, t1, t2, -List.getD_eq_getElem?_getD]


theorem step_mod {q m : Int} (x : Int) (hm : 0 < m) (hq : x % m = q) : (x + 1) % m = if q + 1 = m then 0 else q + 1 := by
  have a1 := Int.emod_lt_of_pos x hm
  have a2 := Int.emod_nonneg x (by omega : m ≠ 0)
  have e : (x + 1) % m = (x % m + 1) % m := (Int.emod_add_emod x m 1).symm
  rw [e, hq]
  split
  · rename_i h; rw [h, Int.emod_self]
  · exact Int.emod_eq_of_lt (by omega) (by omega)
theorem kx_next {b m o : Int} (hb : 0 ≤ b) (hm : 0 < m) (ho : 0 < o) : nx b m (kx b m (o - 1)) = kx b m o := by
  have a3 := Int.emod_lt_of_pos (o - 1 - b) hm
  have a4 := Int.emod_nonneg (o - 1 - b) (by omega : m ≠ 0)
  have e := step_mod (o - 1 - b) hm rfl
  rw [show o - 1 - b + 1 = o - b by omega] at e
  have z : o = b → (o - b) % m = 0 := fun h => by rw [h, Int.sub_self, Int.zero_emod]
  unfold nx kx
  generalize (o - b) % m = p at e z ⊢
  generalize (o - 1 - b) % m = q at a3 a4 e ⊢
  by_cases h1 : o < b
  · rw [if_pos (show o - 1 < b by omega), if_pos h1]
    split <;> omega
  · rw [if_neg h1]
    by_cases h2 : o - 1 < b
    · rw [if_pos h2]
      have := z (by omega)
      split <;> omega
    · rw [if_neg h2]
      by_cases h3 : q + 1 = m
      · rw [if_pos h3] at e
        split <;> omega
      · rw [if_neg h3] at e
        split <;> omega
abbrev st0 (S0 T0 : PyData) (x3 x4 x5 x6 x7 x8 x9 x10 x11 x12 : Sl) : List Sl := [.ref 0, .v S0, .v T0, x3, x4, x5, x6, x7, x8, x9, x10, x11, x12]
abbrev cup (b c : Int) : Sto := [.lst [.int b, .int c]]
theorem turn {S0 : PyData} {tab : List (List Int)} {rs : List PyData} {st : PyData} (H : Base S0 tab rs st) (hG : ∀ a : Nat, a < tab.length → ∃ row row' b m, Good S0 tab a row row' b m)
    {u v : Int} (hu : 0 ≤ u) (hv : 0 ≤ v) (hv2 : v < 2147483648) (x3 x4 x5 x6 x7 x8 x9 x10 x11 x12 : Sl) :
    ∃ u' v' x4' x5' x6' x7' x8' x9' x10' x11' x12', 0 ≤ u' ∧ 0 ≤ v' ∧ v' < 2147483648 ∧ bodyR (st0 S0 (tabD tab) x3 x4 x5 x6 x7 x8 x9 x10 x11 x12) (cup u v) = .ok (.nx (st0 S0 (tabD tab) x3 x4' x5' x6' x7' x8' x9' x10' x11' x12')) (cup u' v') := by
  have hp := H.pos
  have hmo := H.most
  obtain ⟨r, u1, v1, r0, r1, hu1, hv1, hv1', e1⟩ := roll u v tab.length hu hv hv2 (by omega) (by omega)
  obtain ⟨a, rfl⟩ := Int.eq_ofNat_of_zero_le r0
  have ha : a < tab.length := by omega
  obtain ⟨row, row', b, m, g⟩ := hG a ha
  obtain ⟨o, u2, v2, o0, o1, hu2, hv2', hv2'', e2⟩ := roll u1 v1 1001 hu1 hv1 hv1' (by decide) (by decide)
  have ck := g.ck
  simp only [chk, Bool.and_eq_true, decide_eq_true_eq, List.all_eq_true, List.mem_range] at ck
  obtain ⟨⟨⟨⟨⟨⟨k1, k2, k3, k4, k4'⟩, k5⟩, k6⟩, k7⟩, k8⟩, k9⟩ := ck
  obtain ⟨x4', el⟩ := g.lp (cup u1 v1) x3 x4 x5 x6 x7 x8 x9 x12
  have hT : tabD tab = .tuple (tab.map fun r => .tuple (r.map .int)) := rfl
  have s1 : b1 (st0 S0 (tabD tab) x3 x4 x5 x6 x7 x8 x9 x10 x11 x12) (cup u v) = .ok (.nx (st0 S0 (tabD tab) x3 x4 x5 x6 x7 x8 x9 (.v (.int a)) (.own (.list [.int 0])) x12)) (cup u1 v1) := by
    simp [b1, hT, e1]
  have s5 : b5 (st0 S0 (tabD tab) x3 x4' (.v (.int b)) (.v (.int m)) x7 x8 x9 (.v (.int a)) (.own (.list (row'.map .int))) x12) (cup u1 v1) = .ok (.nx (st0 S0 (tabD tab) x3 x4' (.v (.int b)) (.v (.int m)) (.v (.int o)) x8 x9 (.v (.int a)) (.own (.list (row'.map .int))) x12)) (cup u2 v2) := by
    simp [b5, e2]
  have klt : kx b m o < row.length := kx_lt k1 k2 k3 o0
  have k5' : row'[kx b m o]? = row[kx b m o]? := k5 _ klt
  have D : atI (row'.map PyData.int) ((kx b m o : Nat) : Int) = some (.int (pw row b m o)) := by
    refine atN ?_
    rw [List.getElem?_map, k5', List.getElem?_eq_getElem klt]
    simp [pw, klt]
  have s6 : b6 (st0 S0 (tabD tab) x3 x4' (.v (.int b)) (.v (.int m)) (.v (.int o)) x8 x9 (.v (.int a)) (.own (.list (row'.map .int))) x12) (cup u2 v2) = .ok (.nx (st0 S0 (tabD tab) x3 x4' (.v (.int b)) (.v (.int m)) (.v (.int o)) (.v (.int (pw row b m o))) x9 (.v (.int a)) (.own (.list (row'.map .int))) x12)) (cup u2 v2) := by
    by_cases h : o < b
    · have hk : ((kx b m o : Nat) : Int) = o := by unfold kx; rw [if_pos h]; omega
      rw [hk] at D
      simp [b6, h, D]
    · have hk : ((kx b m o : Nat) : Int) = b + (o - b) % m := by
        have h2 := Int.emod_nonneg (o - b) (by omega : m ≠ 0)
        unfold kx; rw [if_neg h]; omega
      rw [hk] at D
      simp [b6, h, D, r_mod k2]
  have pe := fun (w : Sto) (o : Int) h0 h1 => power_eval (a := (a : Int)) (o := o) (H.n1 w) (need_el (H.n6 w) (show (0:Int) ≤ (a : Int) by omega) (by rw [H.len]; omega)) (H.n3 w) (g.h4 w) (g.h5 w) k1 k2 k3 h0 h1
  have p1 := pe (cup u2 v2) o o0 (by omega)
  have p2 := pe (cup u2 v2) 1 (by decide) (by decide)
  rw [k8] at p2
  have cy : F_cycle_of [.v S0, .v (.int a)] (cup u2 v2) = .ok (.v (.tuple [.int b, .int m])) (cup u2 v2) := by
    have q := need_el (l := (a : Int)) (H.n6 (cup u2 v2)) (by omega) (by rw [H.len]; omega)
    refine run_ret ?_
    simp [d_cycle_of, H.n1, q, H.n3, g.h5]
  have sm : F__law_same [.v (.tuple [.tuple [.int b, .int m], .int (pw row b m o), .int a]), .v (.tuple [.tuple [.int b, .int m], .int (pw row b m o), .int a])] (cup u2 v2) = .ok (.v (.bool true)) (cup u2 v2) := same_refl 8 _ _ (by simp [flat])
  have s7 : b7 (st0 S0 (tabD tab) x3 x4' (.v (.int b)) (.v (.int m)) (.v (.int o)) (.v (.int (pw row b m o))) x9 (.v (.int a)) (.own (.list (row'.map .int))) x12) (cup u2 v2) = .ok (.nx (st0 S0 (tabD tab) x3 x4' (.v (.int b)) (.v (.int m)) (.v (.int o)) (.v (.int (pw row b m o))) x9 (.v (.int a)) (.own (.list (row'.map .int))) x12)) (cup u2 v2) := by
    simp [b7, cy, p1, p2, sm]
  obtain ⟨l, s8, hl, s9⟩ : ∃ l : Nat, b8 (st0 S0 (tabD tab) x3 x4' (.v (.int b)) (.v (.int m)) (.v (.int o)) (.v (.int (pw row b m o))) x9 (.v (.int a)) (.own (.list (row'.map .int))) x12) (cup u2 v2) = .ok (.nx (st0 S0 (tabD tab) x3 x4' (.v (.int b)) (.v (.int m)) (.v (.int o)) (.v (.int (pw row b m o))) (.v (.int l)) (.v (.int a)) (.own (.list (row'.map .int))) x12)) (cup u2 v2) ∧ l < tab.length ∧
      (tab.getD l [])[a]? = some (if 0 < o then pw row b m o else a) := by
    have sub : ∀ o' : Int, 0 ≤ o' → 0 ≤ pw row b m o' ∧ pw row b m o' < tab.length ∧ (tab.getD (pw row b m o').toNat [])[a]? = some (row.getD (nx b m (kx b m o')) 0) := fun o' h => by
      have := k6 _ (kx_lt k1 k2 k3 h)
      exact ⟨this.1.1, this.1.2, this.2⟩
    by_cases h : 0 < o
    · have p3 := pe (cup u2 v2) (o - 1) (by omega) (by omega)
      obtain ⟨z1, z2, z3⟩ := sub (o - 1) (by omega)
      have zz : ((pw row b m (o - 1)).toNat : Int) = pw row b m (o - 1) := Int.toNat_of_nonneg z1
      refine ⟨(pw row b m (o - 1)).toNat, ?_, by omega, ?_⟩
      · simp [b8, h, p3, zz]
      · rw [if_pos h, z3, kx_next k1 k2 h]; rfl
    · have ho : o = 0 := by omega
      subst ho
      have p3 := pe (cup u2 v2) 0 (by decide) (by decide)
      obtain ⟨z1, z2, z3⟩ := sub 0 (by decide)
      rw [k7] at z3 p3
      refine ⟨0, ?_, hp, ?_⟩
      · simp [b8, p3]
      · rw [if_neg h]
        have e := kx_next (b := b) (m := m) (o := 1) k1 k2 (by decide)
        have z3 : (tab.getD 0 [])[a]? = some (row.getD (nx b m (kx b m (1 - 1))) 0) := z3
        rw [e] at z3
        rw [z3]
        exact congrArg some k8
  have pr := prod_eval (w := cup u2 v2) H s9 hl ha
  have s9' : b9 (st0 S0 (tabD tab) x3 x4' (.v (.int b)) (.v (.int m)) (.v (.int o)) (.v (.int (pw row b m o))) (.v (.int l)) (.v (.int a)) (.own (.list (row'.map .int))) x12) (cup u2 v2) = .ok (.nx (st0 S0 (tabD tab) x3 x4' (.v (.int b)) (.v (.int m)) (.v (.int o)) (.v (.int (pw row b m o))) (.v (.int l)) (.v (.int a)) (.own (.list (row'.map .int))) x12)) (cup u2 v2) := by
    have sm2 : ∀ i : Int, F__law_same [.v (.int i), .v (.int i)] (cup u2 v2) = .ok (.v (.bool true)) (cup u2 v2) := fun i => same_refl 8 _ _ (by simp [flat])
    by_cases h : 0 < o
    · rw [if_pos h] at pr; simp [b9, h, pr, sm2]
    · rw [if_neg h] at pr; simp [b9, h, pr, sm2]
  refine ⟨u2, v2, x4', .v (.int b), .v (.int m), .v (.int o), .v (.int (pw row b m o)), .v (.int l), .v (.int a), .own (.list (row'.map .int)), x12, hu2, hv2', hv2'', ?_⟩
  have el' : sSeq b2 (sSeq b3 (sSeq b4 (sSeq b5 (sSeq b6 (sSeq b7 (sSeq b8 b9)))))) (st0 S0 (tabD tab) x3 x4 x5 x6 x7 x8 x9 (.v (.int a)) (.own (.list [.int 0])) x12) (cup u1 v1) = sSeq b5 (sSeq b6 (sSeq b7 (sSeq b8 b9))) (st0 S0 (tabD tab) x3 x4' (.v (.int b)) (.v (.int m)) x7 x8 x9 (.v (.int a)) (.own (.list (row'.map .int))) x12) (cup u1 v1) := seq3 el
  exact (seq_nx s1).trans <| el'.trans <| (seq_nx s5).trans <| (seq_nx s6).trans <| (seq_nx s7).trans <| (seq_nx s8).trans s9'

end G
namespace G
open PySem PySem.Spec PyProof.Rows L2 Lay
def S0 : PyData := (.tuple [(.int 1), (.tuple [(.tuple [(.str ⟨#[97, 97, 97]⟩), (.str ⟨#[]⟩)])])])
def tab0 : List (List Int) := [[0, 1, 2], [1, 2, 0], [2, 0, 1]]
def rs0 : List PyData := [(.str ⟨#[]⟩), (.str ⟨#[97]⟩), (.str ⟨#[97, 97]⟩)]
theorem base0 : Base S0 tab0 rs0 .none := ⟨fun w => by kernel_rfl, fun w => by kernel_rfl, fun w => by kernel_rfl, fun w => by kernel_rfl, fun w _ _ _ _ _ _ _ _ _ _ => by kernel_rfl, by decide, by decide, by decide⟩
theorem good0_0 : Good S0 tab0 0 [0] [0, 0, 0, 0, 0, 0, 0, 0] 0 1 := ⟨fun w => by kernel_rfl, fun w => by kernel_rfl, fun w _ _ _ _ _ _ _ _ => ⟨.v (.int 6), by kernel_rfl⟩, by decide +kernel⟩
theorem good0_1 : Good S0 tab0 1 [0, 1, 2] [0, 1, 2, 0, 1, 2, 0, 1] 0 3 := ⟨fun w => by kernel_rfl, fun w => by kernel_rfl, fun w _ _ _ _ _ _ _ _ => ⟨.v (.int 6), by kernel_rfl⟩, by decide +kernel⟩
theorem good0_2 : Good S0 tab0 2 [0, 2, 1] [0, 2, 1, 0, 2, 1, 0, 2] 0 3 := ⟨fun w => by kernel_rfl, fun w => by kernel_rfl, fun w _ _ _ _ _ _ _ _ => ⟨.v (.int 6), by kernel_rfl⟩, by decide +kernel⟩
theorem goods0 : ∀ a : Nat, a < tab0.length → ∃ row row' b m, Good S0 tab0 a row row' b m
  | 0, _ => ⟨_, _, _, _, good0_0⟩
  | 1, _ => ⟨_, _, _, _, good0_1⟩
  | 2, _ => ⟨_, _, _, _, good0_2⟩
  | _ + 3, h => absurd h (by simp [tab0])
def S1 : PyData := (.tuple [(.int 1), (.tuple [(.tuple [(.str ⟨#[97, 97, 97]⟩), (.str ⟨#[97]⟩)])])])
def tab1 : List (List Int) := [[0, 1, 2], [1, 2, 1], [2, 1, 2]]
def rs1 : List PyData := [(.str ⟨#[]⟩), (.str ⟨#[97]⟩), (.str ⟨#[97, 97]⟩)]
theorem base1 : Base S1 tab1 rs1 .none := ⟨fun w => by kernel_rfl, fun w => by kernel_rfl, fun w => by kernel_rfl, fun w => by kernel_rfl, fun w _ _ _ _ _ _ _ _ _ _ => by kernel_rfl, by decide, by decide, by decide⟩
theorem good1_0 : Good S1 tab1 0 [0] [0, 0, 0, 0, 0, 0, 0, 0] 0 1 := ⟨fun w => by kernel_rfl, fun w => by kernel_rfl, fun w _ _ _ _ _ _ _ _ => ⟨.v (.int 6), by kernel_rfl⟩, by decide +kernel⟩
theorem good1_1 : Good S1 tab1 1 [0, 1, 2] [0, 1, 2, 1, 2, 1, 2, 1] 1 2 := ⟨fun w => by kernel_rfl, fun w => by kernel_rfl, fun w _ _ _ _ _ _ _ _ => ⟨.v (.int 6), by kernel_rfl⟩, by decide +kernel⟩
theorem good1_2 : Good S1 tab1 2 [0, 2] [0, 2, 2, 2, 2, 2, 2, 2] 1 1 := ⟨fun w => by kernel_rfl, fun w => by kernel_rfl, fun w _ _ _ _ _ _ _ _ => ⟨.v (.int 6), by kernel_rfl⟩, by decide +kernel⟩
theorem goods1 : ∀ a : Nat, a < tab1.length → ∃ row row' b m, Good S1 tab1 a row row' b m
  | 0, _ => ⟨_, _, _, _, good1_0⟩
  | 1, _ => ⟨_, _, _, _, good1_1⟩
  | 2, _ => ⟨_, _, _, _, good1_2⟩
  | _ + 3, h => absurd h (by simp [tab1])
def S2 : PyData := (.tuple [(.int 2), (.tuple [(.tuple [(.str ⟨#[97, 97]⟩), (.str ⟨#[]⟩)]), (.tuple [(.str ⟨#[98, 98]⟩), (.str ⟨#[]⟩)]), (.tuple [(.str ⟨#[98, 97, 98]⟩), (.str ⟨#[97, 98, 97]⟩)])])])
def tab2 : List (List Int) := [[0, 1, 2, 3, 4, 5], [1, 0, 3, 2, 5, 4], [2, 4, 0, 5, 1, 3], [3, 5, 1, 4, 0, 2], [4, 2, 5, 0, 3, 1], [5, 3, 4, 1, 2, 0]]
def rs2 : List PyData := [(.str ⟨#[]⟩), (.str ⟨#[97]⟩), (.str ⟨#[98]⟩), (.str ⟨#[97, 98]⟩), (.str ⟨#[98, 97]⟩), (.str ⟨#[97, 98, 97]⟩)]
theorem base2 : Base S2 tab2 rs2 .none := ⟨fun w => by kernel_rfl, fun w => by kernel_rfl, fun w => by kernel_rfl, fun w => by kernel_rfl, fun w _ _ _ _ _ _ _ _ _ _ => by kernel_rfl, by decide, by decide, by decide⟩
theorem good2_0 : Good S2 tab2 0 [0] [0, 0, 0, 0, 0, 0, 0, 0, 0, 0, 0, 0, 0, 0] 0 1 := ⟨fun w => by kernel_rfl, fun w => by kernel_rfl, fun w _ _ _ _ _ _ _ _ => ⟨.v (.int 12), by kernel_rfl⟩, by decide +kernel⟩
theorem good2_1 : Good S2 tab2 1 [0, 1] [0, 1, 0, 1, 0, 1, 0, 1, 0, 1, 0, 1, 0, 1] 0 2 := ⟨fun w => by kernel_rfl, fun w => by kernel_rfl, fun w _ _ _ _ _ _ _ _ => ⟨.v (.int 12), by kernel_rfl⟩, by decide +kernel⟩
theorem good2_2 : Good S2 tab2 2 [0, 2] [0, 2, 0, 2, 0, 2, 0, 2, 0, 2, 0, 2, 0, 2] 0 2 := ⟨fun w => by kernel_rfl, fun w => by kernel_rfl, fun w _ _ _ _ _ _ _ _ => ⟨.v (.int 12), by kernel_rfl⟩, by decide +kernel⟩
theorem good2_3 : Good S2 tab2 3 [0, 3, 4] [0, 3, 4, 0, 3, 4, 0, 3, 4, 0, 3, 4, 0, 3] 0 3 := ⟨fun w => by kernel_rfl, fun w => by kernel_rfl, fun w _ _ _ _ _ _ _ _ => ⟨.v (.int 12), by kernel_rfl⟩, by decide +kernel⟩
theorem good2_4 : Good S2 tab2 4 [0, 4, 3] [0, 4, 3, 0, 4, 3, 0, 4, 3, 0, 4, 3, 0, 4] 0 3 := ⟨fun w => by kernel_rfl, fun w => by kernel_rfl, fun w _ _ _ _ _ _ _ _ => ⟨.v (.int 12), by kernel_rfl⟩, by decide +kernel⟩
theorem good2_5 : Good S2 tab2 5 [0, 5] [0, 5, 0, 5, 0, 5, 0, 5, 0, 5, 0, 5, 0, 5] 0 2 := ⟨fun w => by kernel_rfl, fun w => by kernel_rfl, fun w _ _ _ _ _ _ _ _ => ⟨.v (.int 12), by kernel_rfl⟩, by decide +kernel⟩
theorem goods2 : ∀ a : Nat, a < tab2.length → ∃ row row' b m, Good S2 tab2 a row row' b m
  | 0, _ => ⟨_, _, _, _, good2_0⟩
  | 1, _ => ⟨_, _, _, _, good2_1⟩
  | 2, _ => ⟨_, _, _, _, good2_2⟩
  | 3, _ => ⟨_, _, _, _, good2_3⟩
  | 4, _ => ⟨_, _, _, _, good2_4⟩
  | 5, _ => ⟨_, _, _, _, good2_5⟩
  | _ + 6, h => absurd h (by simp [tab2])
def S3 : PyData := (.tuple [(.int 1), (.tuple [(.tuple [(.str ⟨#[97, 97, 97, 97]⟩), (.str ⟨#[97, 97, 97]⟩)])])])
def tab3 : List (List Int) := [[0, 1, 2, 3], [1, 2, 3, 3], [2, 3, 3, 3], [3, 3, 3, 3]]
def rs3 : List PyData := [(.str ⟨#[]⟩), (.str ⟨#[97]⟩), (.str ⟨#[97, 97]⟩), (.str ⟨#[97, 97, 97]⟩)]
theorem base3 : Base S3 tab3 rs3 .none := ⟨fun w => by kernel_rfl, fun w => by kernel_rfl, fun w => by kernel_rfl, fun w => by kernel_rfl, fun w _ _ _ _ _ _ _ _ _ _ => by kernel_rfl, by decide, by decide, by decide⟩
theorem good3_0 : Good S3 tab3 0 [0] [0, 0, 0, 0, 0, 0, 0, 0, 0, 0] 0 1 := ⟨fun w => by kernel_rfl, fun w => by kernel_rfl, fun w _ _ _ _ _ _ _ _ => ⟨.v (.int 8), by kernel_rfl⟩, by decide +kernel⟩
theorem good3_1 : Good S3 tab3 1 [0, 1, 2, 3] [0, 1, 2, 3, 3, 3, 3, 3, 3, 3] 3 1 := ⟨fun w => by kernel_rfl, fun w => by kernel_rfl, fun w _ _ _ _ _ _ _ _ => ⟨.v (.int 8), by kernel_rfl⟩, by decide +kernel⟩
theorem good3_2 : Good S3 tab3 2 [0, 2, 3] [0, 2, 3, 3, 3, 3, 3, 3, 3, 3] 2 1 := ⟨fun w => by kernel_rfl, fun w => by kernel_rfl, fun w _ _ _ _ _ _ _ _ => ⟨.v (.int 8), by kernel_rfl⟩, by decide +kernel⟩
theorem good3_3 : Good S3 tab3 3 [0, 3] [0, 3, 3, 3, 3, 3, 3, 3, 3, 3] 1 1 := ⟨fun w => by kernel_rfl, fun w => by kernel_rfl, fun w _ _ _ _ _ _ _ _ => ⟨.v (.int 8), by kernel_rfl⟩, by decide +kernel⟩
theorem goods3 : ∀ a : Nat, a < tab3.length → ∃ row row' b m, Good S3 tab3 a row row' b m
  | 0, _ => ⟨_, _, _, _, good3_0⟩
  | 1, _ => ⟨_, _, _, _, good3_1⟩
  | 2, _ => ⟨_, _, _, _, good3_2⟩
  | 3, _ => ⟨_, _, _, _, good3_3⟩
  | _ + 4, h => absurd h (by simp [tab3])
def S4 : PyData := (.tuple [(.int 2), (.tuple [(.tuple [(.str ⟨#[97, 97]⟩), (.str ⟨#[]⟩)]), (.tuple [(.str ⟨#[98, 98]⟩), (.str ⟨#[]⟩)]), (.tuple [(.str ⟨#[98, 97, 98, 97]⟩), (.str ⟨#[97, 98, 97, 98]⟩)])])])
def tab4 : List (List Int) := [[0, 1, 2, 3, 4, 5, 6, 7], [1, 0, 3, 2, 5, 4, 7, 6], [2, 4, 0, 6, 1, 7, 3, 5], [3, 5, 1, 7, 0, 6, 2, 4], [4, 2, 6, 0, 7, 1, 5, 3], [5, 3, 7, 1, 6, 0, 4, 2], [6, 7, 4, 5, 2, 3, 0, 1], [7, 6, 5, 4, 3, 2, 1, 0]]
def rs4 : List PyData := [(.str ⟨#[]⟩), (.str ⟨#[97]⟩), (.str ⟨#[98]⟩), (.str ⟨#[97, 98]⟩), (.str ⟨#[98, 97]⟩), (.str ⟨#[97, 98, 97]⟩), (.str ⟨#[98, 97, 98]⟩), (.str ⟨#[97, 98, 97, 98]⟩)]
theorem base4 : Base S4 tab4 rs4 .none := ⟨fun w => by kernel_rfl, fun w => by kernel_rfl, fun w => by kernel_rfl, fun w => by kernel_rfl, fun w _ _ _ _ _ _ _ _ _ _ => by kernel_rfl, by decide, by decide, by decide⟩
theorem good4_0 : Good S4 tab4 0 [0] [0, 0, 0, 0, 0, 0, 0, 0, 0, 0, 0, 0, 0, 0, 0, 0, 0, 0] 0 1 := ⟨fun w => by kernel_rfl, fun w => by kernel_rfl, fun w _ _ _ _ _ _ _ _ => ⟨.v (.int 16), by kernel_rfl⟩, by decide +kernel⟩
theorem good4_1 : Good S4 tab4 1 [0, 1] [0, 1, 0, 1, 0, 1, 0, 1, 0, 1, 0, 1, 0, 1, 0, 1, 0, 1] 0 2 := ⟨fun w => by kernel_rfl, fun w => by kernel_rfl, fun w _ _ _ _ _ _ _ _ => ⟨.v (.int 16), by kernel_rfl⟩, by decide +kernel⟩
theorem good4_2 : Good S4 tab4 2 [0, 2] [0, 2, 0, 2, 0, 2, 0, 2, 0, 2, 0, 2, 0, 2, 0, 2, 0, 2] 0 2 := ⟨fun w => by kernel_rfl, fun w => by kernel_rfl, fun w _ _ _ _ _ _ _ _ => ⟨.v (.int 16), by kernel_rfl⟩, by decide +kernel⟩
theorem good4_3 : Good S4 tab4 3 [0, 3, 7, 4] [0, 3, 7, 4, 0, 3, 7, 4, 0, 3, 7, 4, 0, 3, 7, 4, 0, 3] 0 4 := ⟨fun w => by kernel_rfl, fun w => by kernel_rfl, fun w _ _ _ _ _ _ _ _ => ⟨.v (.int 16), by kernel_rfl⟩, by decide +kernel⟩
theorem good4_4 : Good S4 tab4 4 [0, 4, 7, 3] [0, 4, 7, 3, 0, 4, 7, 3, 0, 4, 7, 3, 0, 4, 7, 3, 0, 4] 0 4 := ⟨fun w => by kernel_rfl, fun w => by kernel_rfl, fun w _ _ _ _ _ _ _ _ => ⟨.v (.int 16), by kernel_rfl⟩, by decide +kernel⟩
theorem good4_5 : Good S4 tab4 5 [0, 5] [0, 5, 0, 5, 0, 5, 0, 5, 0, 5, 0, 5, 0, 5, 0, 5, 0, 5] 0 2 := ⟨fun w => by kernel_rfl, fun w => by kernel_rfl, fun w _ _ _ _ _ _ _ _ => ⟨.v (.int 16), by kernel_rfl⟩, by decide +kernel⟩
theorem good4_6 : Good S4 tab4 6 [0, 6] [0, 6, 0, 6, 0, 6, 0, 6, 0, 6, 0, 6, 0, 6, 0, 6, 0, 6] 0 2 := ⟨fun w => by kernel_rfl, fun w => by kernel_rfl, fun w _ _ _ _ _ _ _ _ => ⟨.v (.int 16), by kernel_rfl⟩, by decide +kernel⟩
theorem good4_7 : Good S4 tab4 7 [0, 7] [0, 7, 0, 7, 0, 7, 0, 7, 0, 7, 0, 7, 0, 7, 0, 7, 0, 7] 0 2 := ⟨fun w => by kernel_rfl, fun w => by kernel_rfl, fun w _ _ _ _ _ _ _ _ => ⟨.v (.int 16), by kernel_rfl⟩, by decide +kernel⟩
theorem goods4 : ∀ a : Nat, a < tab4.length → ∃ row row' b m, Good S4 tab4 a row row' b m
  | 0, _ => ⟨_, _, _, _, good4_0⟩
  | 1, _ => ⟨_, _, _, _, good4_1⟩
  | 2, _ => ⟨_, _, _, _, good4_2⟩
  | 3, _ => ⟨_, _, _, _, good4_3⟩
  | 4, _ => ⟨_, _, _, _, good4_4⟩
  | 5, _ => ⟨_, _, _, _, good4_5⟩
  | 6, _ => ⟨_, _, _, _, good4_6⟩
  | 7, _ => ⟨_, _, _, _, good4_7⟩
  | _ + 8, h => absurd h (by simp [tab4])
def S5 : PyData := (.tuple [(.int 2), (.tuple [(.tuple [(.str ⟨#[97, 97]⟩), (.str ⟨#[97]⟩)]), (.tuple [(.str ⟨#[97, 98]⟩), (.str ⟨#[97]⟩)]), (.tuple [(.str ⟨#[98, 97]⟩), (.str ⟨#[98]⟩)]), (.tuple [(.str ⟨#[98, 98]⟩), (.str ⟨#[98]⟩)])])])
def tab5 : List (List Int) := [[0, 1, 2], [1, 1, 1], [2, 2, 2]]
def rs5 : List PyData := [(.str ⟨#[]⟩), (.str ⟨#[97]⟩), (.str ⟨#[98]⟩)]
theorem base5 : Base S5 tab5 rs5 .none := ⟨fun w => by kernel_rfl, fun w => by kernel_rfl, fun w => by kernel_rfl, fun w => by kernel_rfl, fun w _ _ _ _ _ _ _ _ _ _ => by kernel_rfl, by decide, by decide, by decide⟩
theorem good5_0 : Good S5 tab5 0 [0] [0, 0, 0, 0, 0, 0, 0, 0] 0 1 := ⟨fun w => by kernel_rfl, fun w => by kernel_rfl, fun w _ _ _ _ _ _ _ _ => ⟨.v (.int 6), by kernel_rfl⟩, by decide +kernel⟩
theorem good5_1 : Good S5 tab5 1 [0, 1] [0, 1, 1, 1, 1, 1, 1, 1] 1 1 := ⟨fun w => by kernel_rfl, fun w => by kernel_rfl, fun w _ _ _ _ _ _ _ _ => ⟨.v (.int 6), by kernel_rfl⟩, by decide +kernel⟩
theorem good5_2 : Good S5 tab5 2 [0, 2] [0, 2, 2, 2, 2, 2, 2, 2] 1 1 := ⟨fun w => by kernel_rfl, fun w => by kernel_rfl, fun w _ _ _ _ _ _ _ _ => ⟨.v (.int 6), by kernel_rfl⟩, by decide +kernel⟩
theorem goods5 : ∀ a : Nat, a < tab5.length → ∃ row row' b m, Good S5 tab5 a row row' b m
  | 0, _ => ⟨_, _, _, _, good5_0⟩
  | 1, _ => ⟨_, _, _, _, good5_1⟩
  | 2, _ => ⟨_, _, _, _, good5_2⟩
  | _ + 3, h => absurd h (by simp [tab5])
def S6 : PyData := (.tuple [(.int 2), (.tuple [(.tuple [(.str ⟨#[97, 97]⟩), (.str ⟨#[97]⟩)]), (.tuple [(.str ⟨#[98, 98]⟩), (.str ⟨#[98]⟩)]), (.tuple [(.str ⟨#[97, 98, 97, 98]⟩), (.str ⟨#[97, 98]⟩)]), (.tuple [(.str ⟨#[98, 97, 98, 97]⟩), (.str ⟨#[98, 97]⟩)])])])
def tab6 : List (List Int) := [[0, 1, 2, 3, 4, 5, 6], [1, 1, 3, 3, 5, 5, 3], [2, 4, 2, 6, 4, 4, 6], [3, 5, 3, 3, 5, 5, 3], [4, 4, 6, 6, 4, 4, 6], [5, 5, 3, 3, 5, 5, 3], [6, 4, 6, 6, 4, 4, 6]]
def rs6 : List PyData := [(.str ⟨#[]⟩), (.str ⟨#[97]⟩), (.str ⟨#[98]⟩), (.str ⟨#[97, 98]⟩), (.str ⟨#[98, 97]⟩), (.str ⟨#[97, 98, 97]⟩), (.str ⟨#[98, 97, 98]⟩)]
theorem base6 : Base S6 tab6 rs6 .none := ⟨fun w => by kernel_rfl, fun w => by kernel_rfl, fun w => by kernel_rfl, fun w => by kernel_rfl, fun w _ _ _ _ _ _ _ _ _ _ => by kernel_rfl, by decide, by decide, by decide⟩
theorem good6_0 : Good S6 tab6 0 [0] [0, 0, 0, 0, 0, 0, 0, 0, 0, 0, 0, 0, 0, 0, 0, 0] 0 1 := ⟨fun w => by kernel_rfl, fun w => by kernel_rfl, fun w _ _ _ _ _ _ _ _ => ⟨.v (.int 14), by kernel_rfl⟩, by decide +kernel⟩
theorem good6_1 : Good S6 tab6 1 [0, 1] [0, 1, 1, 1, 1, 1, 1, 1, 1, 1, 1, 1, 1, 1, 1, 1] 1 1 := ⟨fun w => by kernel_rfl, fun w => by kernel_rfl, fun w _ _ _ _ _ _ _ _ => ⟨.v (.int 14), by kernel_rfl⟩, by decide +kernel⟩
theorem good6_2 : Good S6 tab6 2 [0, 2] [0, 2, 2, 2, 2, 2, 2, 2, 2, 2, 2, 2, 2, 2, 2, 2] 1 1 := ⟨fun w => by kernel_rfl, fun w => by kernel_rfl, fun w _ _ _ _ _ _ _ _ => ⟨.v (.int 14), by kernel_rfl⟩, by decide +kernel⟩
theorem good6_3 : Good S6 tab6 3 [0, 3] [0, 3, 3, 3, 3, 3, 3, 3, 3, 3, 3, 3, 3, 3, 3, 3] 1 1 := ⟨fun w => by kernel_rfl, fun w => by kernel_rfl, fun w _ _ _ _ _ _ _ _ => ⟨.v (.int 14), by kernel_rfl⟩, by decide +kernel⟩
theorem good6_4 : Good S6 tab6 4 [0, 4] [0, 4, 4, 4, 4, 4, 4, 4, 4, 4, 4, 4, 4, 4, 4, 4] 1 1 := ⟨fun w => by kernel_rfl, fun w => by kernel_rfl, fun w _ _ _ _ _ _ _ _ => ⟨.v (.int 14), by kernel_rfl⟩, by decide +kernel⟩
theorem good6_5 : Good S6 tab6 5 [0, 5] [0, 5, 5, 5, 5, 5, 5, 5, 5, 5, 5, 5, 5, 5, 5, 5] 1 1 := ⟨fun w => by kernel_rfl, fun w => by kernel_rfl, fun w _ _ _ _ _ _ _ _ => ⟨.v (.int 14), by kernel_rfl⟩, by decide +kernel⟩
theorem good6_6 : Good S6 tab6 6 [0, 6] [0, 6, 6, 6, 6, 6, 6, 6, 6, 6, 6, 6, 6, 6, 6, 6] 1 1 := ⟨fun w => by kernel_rfl, fun w => by kernel_rfl, fun w _ _ _ _ _ _ _ _ => ⟨.v (.int 14), by kernel_rfl⟩, by decide +kernel⟩
theorem goods6 : ∀ a : Nat, a < tab6.length → ∃ row row' b m, Good S6 tab6 a row row' b m
  | 0, _ => ⟨_, _, _, _, good6_0⟩
  | 1, _ => ⟨_, _, _, _, good6_1⟩
  | 2, _ => ⟨_, _, _, _, good6_2⟩
  | 3, _ => ⟨_, _, _, _, good6_3⟩
  | 4, _ => ⟨_, _, _, _, good6_4⟩
  | 5, _ => ⟨_, _, _, _, good6_5⟩
  | 6, _ => ⟨_, _, _, _, good6_6⟩
  | _ + 7, h => absurd h (by simp [tab6])
def S7 : PyData := (.tuple [(.int 2), (.tuple [(.tuple [(.str ⟨#[97]⟩), (.str ⟨#[]⟩)]), (.tuple [(.str ⟨#[98]⟩), (.str ⟨#[]⟩)])])])
def tab7 : List (List Int) := [[0]]
def rs7 : List PyData := [(.str ⟨#[]⟩)]
theorem base7 : Base S7 tab7 rs7 .none := ⟨fun w => by kernel_rfl, fun w => by kernel_rfl, fun w => by kernel_rfl, fun w => by kernel_rfl, fun w _ _ _ _ _ _ _ _ _ _ => by kernel_rfl, by decide, by decide, by decide⟩
theorem good7_0 : Good S7 tab7 0 [0] [0, 0, 0, 0] 0 1 := ⟨fun w => by kernel_rfl, fun w => by kernel_rfl, fun w _ _ _ _ _ _ _ _ => ⟨.v (.int 2), by kernel_rfl⟩, by decide +kernel⟩
theorem goods7 : ∀ a : Nat, a < tab7.length → ∃ row row' b m, Good S7 tab7 a row row' b m
  | 0, _ => ⟨_, _, _, _, good7_0⟩
  | _ + 1, h => absurd h (by simp [tab7])
def S8 : PyData := (.tuple [(.int 2), (.tuple [(.tuple [(.str ⟨#[97, 97]⟩), (.str ⟨#[]⟩)]), (.tuple [(.str ⟨#[98, 98]⟩), (.str ⟨#[]⟩)]), (.tuple [(.str ⟨#[98, 97]⟩), (.str ⟨#[97, 98]⟩)])])])
def tab8 : List (List Int) := [[0, 1, 2, 3], [1, 0, 3, 2], [2, 3, 0, 1], [3, 2, 1, 0]]
def rs8 : List PyData := [(.str ⟨#[]⟩), (.str ⟨#[97]⟩), (.str ⟨#[98]⟩), (.str ⟨#[97, 98]⟩)]
theorem base8 : Base S8 tab8 rs8 .none := ⟨fun w => by kernel_rfl, fun w => by kernel_rfl, fun w => by kernel_rfl, fun w => by kernel_rfl, fun w _ _ _ _ _ _ _ _ _ _ => by kernel_rfl, by decide, by decide, by decide⟩
theorem good8_0 : Good S8 tab8 0 [0] [0, 0, 0, 0, 0, 0, 0, 0, 0, 0] 0 1 := ⟨fun w => by kernel_rfl, fun w => by kernel_rfl, fun w _ _ _ _ _ _ _ _ => ⟨.v (.int 8), by kernel_rfl⟩, by decide +kernel⟩
theorem good8_1 : Good S8 tab8 1 [0, 1] [0, 1, 0, 1, 0, 1, 0, 1, 0, 1] 0 2 := ⟨fun w => by kernel_rfl, fun w => by kernel_rfl, fun w _ _ _ _ _ _ _ _ => ⟨.v (.int 8), by kernel_rfl⟩, by decide +kernel⟩
theorem good8_2 : Good S8 tab8 2 [0, 2] [0, 2, 0, 2, 0, 2, 0, 2, 0, 2] 0 2 := ⟨fun w => by kernel_rfl, fun w => by kernel_rfl, fun w _ _ _ _ _ _ _ _ => ⟨.v (.int 8), by kernel_rfl⟩, by decide +kernel⟩
theorem good8_3 : Good S8 tab8 3 [0, 3] [0, 3, 0, 3, 0, 3, 0, 3, 0, 3] 0 2 := ⟨fun w => by kernel_rfl, fun w => by kernel_rfl, fun w _ _ _ _ _ _ _ _ => ⟨.v (.int 8), by kernel_rfl⟩, by decide +kernel⟩
theorem goods8 : ∀ a : Nat, a < tab8.length → ∃ row row' b m, Good S8 tab8 a row row' b m
  | 0, _ => ⟨_, _, _, _, good8_0⟩
  | 1, _ => ⟨_, _, _, _, good8_1⟩
  | 2, _ => ⟨_, _, _, _, good8_2⟩
  | 3, _ => ⟨_, _, _, _, good8_3⟩
  | _ + 4, h => absurd h (by simp [tab8])
def S9 : PyData := (.tuple [(.int 2), (.tuple [(.tuple [(.str ⟨#[97, 97]⟩), (.str ⟨#[97]⟩)]), (.tuple [(.str ⟨#[97, 98]⟩), (.str ⟨#[97]⟩)]), (.tuple [(.str ⟨#[98, 97]⟩), (.str ⟨#[97]⟩)]), (.tuple [(.str ⟨#[98, 98]⟩), (.str ⟨#[]⟩)])])])
def tab9 : List (List Int) := [[0, 1, 2], [1, 1, 1], [2, 1, 0]]
def rs9 : List PyData := [(.str ⟨#[]⟩), (.str ⟨#[97]⟩), (.str ⟨#[98]⟩)]
theorem base9 : Base S9 tab9 rs9 .none := ⟨fun w => by kernel_rfl, fun w => by kernel_rfl, fun w => by kernel_rfl, fun w => by kernel_rfl, fun w _ _ _ _ _ _ _ _ _ _ => by kernel_rfl, by decide, by decide, by decide⟩
theorem good9_0 : Good S9 tab9 0 [0] [0, 0, 0, 0, 0, 0, 0, 0] 0 1 := ⟨fun w => by kernel_rfl, fun w => by kernel_rfl, fun w _ _ _ _ _ _ _ _ => ⟨.v (.int 6), by kernel_rfl⟩, by decide +kernel⟩
theorem good9_1 : Good S9 tab9 1 [0, 1] [0, 1, 1, 1, 1, 1, 1, 1] 1 1 := ⟨fun w => by kernel_rfl, fun w => by kernel_rfl, fun w _ _ _ _ _ _ _ _ => ⟨.v (.int 6), by kernel_rfl⟩, by decide +kernel⟩
theorem good9_2 : Good S9 tab9 2 [0, 2] [0, 2, 0, 2, 0, 2, 0, 2] 0 2 := ⟨fun w => by kernel_rfl, fun w => by kernel_rfl, fun w _ _ _ _ _ _ _ _ => ⟨.v (.int 6), by kernel_rfl⟩, by decide +kernel⟩
theorem goods9 : ∀ a : Nat, a < tab9.length → ∃ row row' b m, Good S9 tab9 a row row' b m
  | 0, _ => ⟨_, _, _, _, good9_0⟩
  | 1, _ => ⟨_, _, _, _, good9_1⟩
  | 2, _ => ⟨_, _, _, _, good9_2⟩
  | _ + 3, h => absurd h (by simp [tab9])
def S10 : PyData := (.tuple [(.int 2), (.tuple [(.tuple [(.str ⟨#[98, 97]⟩), (.str ⟨#[97, 98]⟩)]), (.tuple [(.str ⟨#[97, 97]⟩), (.str ⟨#[97]⟩)]), (.tuple [(.str ⟨#[98, 98]⟩), (.str ⟨#[98]⟩)])])])
def tab10 : List (List Int) := [[0, 1, 2, 3], [1, 1, 3, 3], [2, 3, 2, 3], [3, 3, 3, 3]]
def rs10 : List PyData := [(.str ⟨#[]⟩), (.str ⟨#[97]⟩), (.str ⟨#[98]⟩), (.str ⟨#[97, 98]⟩)]
theorem base10 : Base S10 tab10 rs10 .none := ⟨fun w => by kernel_rfl, fun w => by kernel_rfl, fun w => by kernel_rfl, fun w => by kernel_rfl, fun w _ _ _ _ _ _ _ _ _ _ => by kernel_rfl, by decide, by decide, by decide⟩
theorem good10_0 : Good S10 tab10 0 [0] [0, 0, 0, 0, 0, 0, 0, 0, 0, 0] 0 1 := ⟨fun w => by kernel_rfl, fun w => by kernel_rfl, fun w _ _ _ _ _ _ _ _ => ⟨.v (.int 8), by kernel_rfl⟩, by decide +kernel⟩
theorem good10_1 : Good S10 tab10 1 [0, 1] [0, 1, 1, 1, 1, 1, 1, 1, 1, 1] 1 1 := ⟨fun w => by kernel_rfl, fun w => by kernel_rfl, fun w _ _ _ _ _ _ _ _ => ⟨.v (.int 8), by kernel_rfl⟩, by decide +kernel⟩
theorem good10_2 : Good S10 tab10 2 [0, 2] [0, 2, 2, 2, 2, 2, 2, 2, 2, 2] 1 1 := ⟨fun w => by kernel_rfl, fun w => by kernel_rfl, fun w _ _ _ _ _ _ _ _ => ⟨.v (.int 8), by kernel_rfl⟩, by decide +kernel⟩
theorem good10_3 : Good S10 tab10 3 [0, 3] [0, 3, 3, 3, 3, 3, 3, 3, 3, 3] 1 1 := ⟨fun w => by kernel_rfl, fun w => by kernel_rfl, fun w _ _ _ _ _ _ _ _ => ⟨.v (.int 8), by kernel_rfl⟩, by decide +kernel⟩
theorem goods10 : ∀ a : Nat, a < tab10.length → ∃ row row' b m, Good S10 tab10 a row row' b m
  | 0, _ => ⟨_, _, _, _, good10_0⟩
  | 1, _ => ⟨_, _, _, _, good10_1⟩
  | 2, _ => ⟨_, _, _, _, good10_2⟩
  | 3, _ => ⟨_, _, _, _, good10_3⟩
  | _ + 4, h => absurd h (by simp [tab10])
def S11 : PyData := (.tuple [(.int 1), (.tuple [(.tuple [(.str ⟨#[97, 97, 97, 97, 97, 97]⟩), (.str ⟨#[97, 97]⟩)])])])
def tab11 : List (List Int) := [[0, 1, 2, 3, 4, 5], [1, 2, 3, 4, 5, 2], [2, 3, 4, 5, 2, 3], [3, 4, 5, 2, 3, 4], [4, 5, 2, 3, 4, 5], [5, 2, 3, 4, 5, 2]]
def rs11 : List PyData := [(.str ⟨#[]⟩), (.str ⟨#[97]⟩), (.str ⟨#[97, 97]⟩), (.str ⟨#[97, 97, 97]⟩), (.str ⟨#[97, 97, 97, 97]⟩), (.str ⟨#[97, 97, 97, 97, 97]⟩)]
theorem base11 : Base S11 tab11 rs11 .none := ⟨fun w => by kernel_rfl, fun w => by kernel_rfl, fun w => by kernel_rfl, fun w => by kernel_rfl, fun w _ _ _ _ _ _ _ _ _ _ => by kernel_rfl, by decide, by decide, by decide⟩
theorem good11_0 : Good S11 tab11 0 [0] [0, 0, 0, 0, 0, 0, 0, 0, 0, 0, 0, 0, 0, 0] 0 1 := ⟨fun w => by kernel_rfl, fun w => by kernel_rfl, fun w _ _ _ _ _ _ _ _ => ⟨.v (.int 12), by kernel_rfl⟩, by decide +kernel⟩
theorem good11_1 : Good S11 tab11 1 [0, 1, 2, 3, 4, 5] [0, 1, 2, 3, 4, 5, 2, 3, 4, 5, 2, 3, 4, 5] 2 4 := ⟨fun w => by kernel_rfl, fun w => by kernel_rfl, fun w _ _ _ _ _ _ _ _ => ⟨.v (.int 12), by kernel_rfl⟩, by decide +kernel⟩
theorem good11_2 : Good S11 tab11 2 [0, 2, 4] [0, 2, 4, 2, 4, 2, 4, 2, 4, 2, 4, 2, 4, 2] 1 2 := ⟨fun w => by kernel_rfl, fun w => by kernel_rfl, fun w _ _ _ _ _ _ _ _ => ⟨.v (.int 12), by kernel_rfl⟩, by decide +kernel⟩
theorem good11_3 : Good S11 tab11 3 [0, 3, 2, 5, 4] [0, 3, 2, 5, 4, 3, 2, 5, 4, 3, 2, 5, 4, 3] 1 4 := ⟨fun w => by kernel_rfl, fun w => by kernel_rfl, fun w _ _ _ _ _ _ _ _ => ⟨.v (.int 12), by kernel_rfl⟩, by decide +kernel⟩
theorem good11_4 : Good S11 tab11 4 [0, 4] [0, 4, 4, 4, 4, 4, 4, 4, 4, 4, 4, 4, 4, 4] 1 1 := ⟨fun w => by kernel_rfl, fun w => by kernel_rfl, fun w _ _ _ _ _ _ _ _ => ⟨.v (.int 12), by kernel_rfl⟩, by decide +kernel⟩
theorem good11_5 : Good S11 tab11 5 [0, 5, 2, 3, 4] [0, 5, 2, 3, 4, 5, 2, 3, 4, 5, 2, 3, 4, 5] 1 4 := ⟨fun w => by kernel_rfl, fun w => by kernel_rfl, fun w _ _ _ _ _ _ _ _ => ⟨.v (.int 12), by kernel_rfl⟩, by decide +kernel⟩
theorem goods11 : ∀ a : Nat, a < tab11.length → ∃ row row' b m, Good S11 tab11 a row row' b m
  | 0, _ => ⟨_, _, _, _, good11_0⟩
  | 1, _ => ⟨_, _, _, _, good11_1⟩
  | 2, _ => ⟨_, _, _, _, good11_2⟩
  | 3, _ => ⟨_, _, _, _, good11_3⟩
  | 4, _ => ⟨_, _, _, _, good11_4⟩
  | 5, _ => ⟨_, _, _, _, good11_5⟩
  | _ + 6, h => absurd h (by simp [tab11])
def sysL : List PyData := [S0, S1, S2, S3, S4, S5, S6, S7, S8, S9, S10, S11]
theorem all_good : ∀ i : Nat, i < 12 → ∃ S0 tab rs, sysL[i]? = some S0 ∧ Base S0 tab rs .none ∧ ∀ a : Nat, a < tab.length → ∃ row row' b m, Good S0 tab a row row' b m
  | 0, _ => ⟨S0, tab0, rs0, rfl, base0, goods0⟩
  | 1, _ => ⟨S1, tab1, rs1, rfl, base1, goods1⟩
  | 2, _ => ⟨S2, tab2, rs2, rfl, base2, goods2⟩
  | 3, _ => ⟨S3, tab3, rs3, rfl, base3, goods3⟩
  | 4, _ => ⟨S4, tab4, rs4, rfl, base4, goods4⟩
  | 5, _ => ⟨S5, tab5, rs5, rfl, base5, goods5⟩
  | 6, _ => ⟨S6, tab6, rs6, rfl, base6, goods6⟩
  | 7, _ => ⟨S7, tab7, rs7, rfl, base7, goods7⟩
  | 8, _ => ⟨S8, tab8, rs8, rfl, base8, goods8⟩
  | 9, _ => ⟨S9, tab9, rs9, rfl, base9, goods9⟩
  | 10, _ => ⟨S10, tab10, rs10, rfl, base10, goods10⟩
  | 11, _ => ⟨S11, tab11, rs11, rfl, base11, goods11⟩
  | _ + 12, h => absurd h (by omega)
end G
namespace G
open PySem PySem.Spec PyProof.Rows L2 Lay
def l0 : Lay.S := (sNewC 1 (eCall 1 F__law_cup (aCons (eVar 0) aNil)))
def l1 : Lay.S := (sPar [(4, false), (5, false), (6, false)] (aCons (eTup (aCons (eC (.int 1)) (aCons (eTup (aCons (eTup (aCons (eC (.str ⟨#[97, 97, 97, 97]⟩)) (aCons (eC (.str ⟨#[97, 97, 97]⟩)) aNil))) aNil)) aNil))) (aCons (eTup (aCons (eC (.int 1)) (aCons (eTup (aCons (eTup (aCons (eC (.str ⟨#[97, 97, 97]⟩)) (aCons (eC (.str ⟨#[97]⟩)) aNil))) aNil)) aNil))) (aCons (eTup (aCons (eC (.int 2)) (aCons (eTup (aCons (eTup (aCons (eC (.str ⟨#[97, 97]⟩)) (aCons (eC (.str ⟨#[]⟩)) aNil))) (aCons (eTup (aCons (eC (.str ⟨#[98, 98]⟩)) (aCons (eC (.str ⟨#[]⟩)) aNil))) (aCons (eTup (aCons (eC (.str ⟨#[98, 97, 98]⟩)) (aCons (eC (.str ⟨#[97, 98, 97]⟩)) aNil))) aNil)))) aNil))) aNil))))
def l2 : Lay.S := (sAsg 2 false (eTup (aCons (eCall 2 F_cycle_of (aCons (eVar 4) (aCons (eC (.int 1)) aNil))) (aCons (eCall 3 F_power_of (aCons (eVar 4) (aCons (eC (.int 1)) (aCons (eC (.int 1000)) aNil)))) (aCons (eCall 3 F_power_of (aCons (eVar 4) (aCons (eC (.int 1)) (aCons (eC (.int 2)) aNil)))) (aCons (eCall 2 F_cycle_of (aCons (eVar 5) (aCons (eC (.int 1)) aNil))) (aCons (eCall 3 F_power_of (aCons (eVar 5) (aCons (eC (.int 1)) (aCons (eC (.int 1000)) aNil)))) (aCons (eCall 3 F_power_of (aCons (eVar 5) (aCons (eC (.int 1)) (aCons (eC (.int 999)) aNil)))) aNil))))))))
def l3 : Lay.S := (sIf (tNt (tVal (eCall 2 F__law_same (aCons (eVar 2) (aCons (eTup (aCons (eTup (aCons (eC (.int 3)) (aCons (eC (.int 1)) aNil))) (aCons (eC (.int 3)) (aCons (eC (.int 2)) (aCons (eTup (aCons (eC (.int 1)) (aCons (eC (.int 2)) aNil))) (aCons (eC (.int 2)) (aCons (eC (.int 1)) aNil))))))) aNil))))) (sRet (eC (.bool false))) sNext)
def l4 : Lay.S := (sAsg 2 false (eTup (aCons (eCall 2 F_cycle_of (aCons (eVar 6) (aCons (eC (.int 3)) aNil))) (aCons (eCall 3 F_power_of (aCons (eVar 6) (aCons (eC (.int 3)) (aCons (eC (.int 1000)) aNil)))) (aCons (eCall 3 F_power_of (aCons (eVar 6) (aCons (eC (.int 3)) (aCons (eC (.int 0)) aNil)))) (aCons (eCall 2 F_cycle_of (aCons (eVar 6) (aCons (eC (.int 0)) aNil))) (aCons (eCall 1 F_still_elements (aCons (eVar 6) aNil)) (aCons (eCall 1 F_still_elements (aCons (eVar 4) aNil)) aNil))))))))
def l5 : Lay.S := (sIf (tNt (tVal (eCall 2 F__law_same (aCons (eVar 2) (aCons (eTup (aCons (eTup (aCons (eC (.int 0)) (aCons (eC (.int 3)) aNil))) (aCons (eC (.int 3)) (aCons (eC (.int 0)) (aCons (eTup (aCons (eC (.int 0)) (aCons (eC (.int 1)) aNil))) (aCons (eTup (aCons (eC (.int 0)) aNil)) (aCons (eTup (aCons (eC (.int 0)) (aCons (eC (.int 3)) aNil))) aNil))))))) aNil))))) (sRet (eC (.bool false))) sNext)
def l6 : Lay.S := (sFor (iRange1 (eC (.int 2))) (gNm 3) (sIf (tNt (tVal (eCall 2 F__law_right (aCons (eVar 1) (aCons (eCall 1 F__law_finite (aCons (eVar 1) aNil)) aNil))))) (sRet (eC (.bool false))) sNext))
def l7 : Lay.S := (sRet (eC (.bool true)))
theorem law_eq : d_law = sSeq l0 (sSeq l1 (sSeq l2 (sSeq l3 (sSeq l4 (sSeq l5 (sSeq l6 (l7))))))) := rfl
def f0 : Lay.S := (sAsg 1 false (eLst (aCons (eTup (aCons (eC (.int 1)) (aCons (eTup (aCons (eTup (aCons (eC (.str ⟨#[97, 97, 97]⟩)) (aCons (eC (.str ⟨#[]⟩)) aNil))) aNil)) aNil))) (aCons (eTup (aCons (eC (.int 1)) (aCons (eTup (aCons (eTup (aCons (eC (.str ⟨#[97, 97, 97]⟩)) (aCons (eC (.str ⟨#[97]⟩)) aNil))) aNil)) aNil))) (aCons (eTup (aCons (eC (.int 2)) (aCons (eTup (aCons (eTup (aCons (eC (.str ⟨#[97, 97]⟩)) (aCons (eC (.str ⟨#[]⟩)) aNil))) (aCons (eTup (aCons (eC (.str ⟨#[98, 98]⟩)) (aCons (eC (.str ⟨#[]⟩)) aNil))) (aCons (eTup (aCons (eC (.str ⟨#[98, 97, 98]⟩)) (aCons (eC (.str ⟨#[97, 98, 97]⟩)) aNil))) aNil)))) aNil))) (aCons (eTup (aCons (eC (.int 1)) (aCons (eTup (aCons (eTup (aCons (eC (.str ⟨#[97, 97, 97, 97]⟩)) (aCons (eC (.str ⟨#[97, 97, 97]⟩)) aNil))) aNil)) aNil))) aNil))))))
def f1 : Lay.S := (sAsg 1 false (eBin opAdd (eVar 1) (eLst (aCons (eTup (aCons (eC (.int 2)) (aCons (eTup (aCons (eTup (aCons (eC (.str ⟨#[97, 97]⟩)) (aCons (eC (.str ⟨#[]⟩)) aNil))) (aCons (eTup (aCons (eC (.str ⟨#[98, 98]⟩)) (aCons (eC (.str ⟨#[]⟩)) aNil))) (aCons (eTup (aCons (eC (.str ⟨#[98, 97, 98, 97]⟩)) (aCons (eC (.str ⟨#[97, 98, 97, 98]⟩)) aNil))) aNil)))) aNil))) (aCons (eTup (aCons (eC (.int 2)) (aCons (eTup (aCons (eTup (aCons (eC (.str ⟨#[97, 97]⟩)) (aCons (eC (.str ⟨#[97]⟩)) aNil))) (aCons (eTup (aCons (eC (.str ⟨#[97, 98]⟩)) (aCons (eC (.str ⟨#[97]⟩)) aNil))) (aCons (eTup (aCons (eC (.str ⟨#[98, 97]⟩)) (aCons (eC (.str ⟨#[98]⟩)) aNil))) (aCons (eTup (aCons (eC (.str ⟨#[98, 98]⟩)) (aCons (eC (.str ⟨#[98]⟩)) aNil))) aNil))))) aNil))) aNil)))))
def f2 : Lay.S := (sAsg 1 false (eBin opAdd (eVar 1) (eLst (aCons (eTup (aCons (eC (.int 2)) (aCons (eTup (aCons (eTup (aCons (eC (.str ⟨#[97, 97]⟩)) (aCons (eC (.str ⟨#[97]⟩)) aNil))) (aCons (eTup (aCons (eC (.str ⟨#[98, 98]⟩)) (aCons (eC (.str ⟨#[98]⟩)) aNil))) (aCons (eTup (aCons (eC (.str ⟨#[97, 98, 97, 98]⟩)) (aCons (eC (.str ⟨#[97, 98]⟩)) aNil))) (aCons (eTup (aCons (eC (.str ⟨#[98, 97, 98, 97]⟩)) (aCons (eC (.str ⟨#[98, 97]⟩)) aNil))) aNil))))) aNil))) (aCons (eTup (aCons (eC (.int 2)) (aCons (eTup (aCons (eTup (aCons (eC (.str ⟨#[97]⟩)) (aCons (eC (.str ⟨#[]⟩)) aNil))) (aCons (eTup (aCons (eC (.str ⟨#[98]⟩)) (aCons (eC (.str ⟨#[]⟩)) aNil))) aNil))) aNil))) aNil)))))
def f3 : Lay.S := (sAsg 1 false (eBin opAdd (eVar 1) (eLst (aCons (eTup (aCons (eC (.int 2)) (aCons (eTup (aCons (eTup (aCons (eC (.str ⟨#[97, 97]⟩)) (aCons (eC (.str ⟨#[]⟩)) aNil))) (aCons (eTup (aCons (eC (.str ⟨#[98, 98]⟩)) (aCons (eC (.str ⟨#[]⟩)) aNil))) (aCons (eTup (aCons (eC (.str ⟨#[98, 97]⟩)) (aCons (eC (.str ⟨#[97, 98]⟩)) aNil))) aNil)))) aNil))) (aCons (eTup (aCons (eC (.int 2)) (aCons (eTup (aCons (eTup (aCons (eC (.str ⟨#[97, 97]⟩)) (aCons (eC (.str ⟨#[97]⟩)) aNil))) (aCons (eTup (aCons (eC (.str ⟨#[97, 98]⟩)) (aCons (eC (.str ⟨#[97]⟩)) aNil))) (aCons (eTup (aCons (eC (.str ⟨#[98, 97]⟩)) (aCons (eC (.str ⟨#[97]⟩)) aNil))) (aCons (eTup (aCons (eC (.str ⟨#[98, 98]⟩)) (aCons (eC (.str ⟨#[]⟩)) aNil))) aNil))))) aNil))) aNil)))))
def f4 : Lay.S := (sAsg 1 false (eBin opAdd (eVar 1) (eLst (aCons (eTup (aCons (eC (.int 2)) (aCons (eTup (aCons (eTup (aCons (eC (.str ⟨#[98, 97]⟩)) (aCons (eC (.str ⟨#[97, 98]⟩)) aNil))) (aCons (eTup (aCons (eC (.str ⟨#[97, 97]⟩)) (aCons (eC (.str ⟨#[97]⟩)) aNil))) (aCons (eTup (aCons (eC (.str ⟨#[98, 98]⟩)) (aCons (eC (.str ⟨#[98]⟩)) aNil))) aNil)))) aNil))) (aCons (eTup (aCons (eC (.int 1)) (aCons (eTup (aCons (eTup (aCons (eC (.str ⟨#[97, 97, 97, 97, 97, 97]⟩)) (aCons (eC (.str ⟨#[97, 97]⟩)) aNil))) aNil)) aNil))) aNil)))))
def f5 : Lay.S := (sRet (eCall 2 F__law_some (aCons (eVar 0) (aCons (eVar 1) aNil))))
theorem fin_eq : d__law_finite = sSeq f0 (sSeq f1 (sSeq f2 (sSeq f3 (sSeq f4 (f5))))) := rfl
theorem right_ok {S0 : PyData} {tab : List (List Int)} {rs : List PyData} {st : PyData} (H : Base S0 tab rs st) (hG : ∀ a : Nat, a < tab.length → ∃ row row' b m, Good S0 tab a row row' b m)
    {u v : Int} (hu : 0 ≤ u) (hv : 0 ≤ v) (hv2 : v < 2147483648) :
    ∃ u' v' : Int, 0 ≤ u' ∧ 0 ≤ v' ∧ v' < 2147483648 ∧ F__law_right [.ref 0, .v S0] (cup u v) = .ok (.v (.bool true)) (cup u' v') := by
  obtain ⟨u1, v1, a4, a5, a6, a7, a8, a9, a10, a11, a12, hu1, hv1, hv1', e1⟩ := turn H hG hu hv hv2 (.v (.int 0)) .un .un .un .un .un .un .un .un .un
  obtain ⟨u2, v2, c4, c5, c6, c7, c8, c9, c10, c11, c12, hu2, hv2, hv2', e2⟩ := turn H hG hu1 hv1 hv1' (.v (.int 1)) a4 a5 a6 a7 a8 a9 a10 a11 a12
  obtain ⟨u3, v3, g4, g5, g6, g7, g8, g9, g10, g11, g12, hu3, hv3, hv3', e3⟩ := turn H hG hu2 hv2 hv2' (.v (.int 2)) c4 c5 c6 c7 c8 c9 c10 c11 c12
  refine ⟨u3, v3, hu3, hv3, hv3', ?_⟩
  have s1 : sAsg 2 false (eCall 1 F__law_table (aCons (eVar 1) aNil)) [.ref 0, .v S0, .un, .un, .un, .un, .un, .un, .un, .un, .un, .un, .un] (cup u v) = .ok (.nx (st0 S0 (tabD tab) .un .un .un .un .un .un .un .un .un .un)) (cup u v) := by
    simp [H.n7]
  have s2 : sFor (iRange1 (eC (.int 3))) (gNm 3) bodyR (st0 S0 (tabD tab) .un .un .un .un .un .un .un .un .un .un) (cup u v) = .ok (.nx (st0 S0 (tabD tab) (.v (.int 2)) g4 g5 g6 g7 g8 g9 g10 g11 g12)) (cup u3 v3) := by
    have r : iRange1 (eC (.int 3)) (st0 S0 (tabD tab) .un .un .un .un .un .un .un .un .un .un) (cup u v) = .ok (true, [.int 0, .int 1, .int 2]) (cup u v) := by kernel_rfl
    exact (for_go r).trans <| (forL_nx rfl e1).trans <| (forL_nx rfl e2).trans <| (forL_nx rfl e3).trans rfl
  refine run_ret ?_
  rw [right_eq]
  exact (seq_nx s1).trans <| (seq_nx s2).trans <| H.n8 _ _ _ _ _ _ _ _ _ _ _
theorem fin_ok {u v : Int} (hu : 0 ≤ u) (hv : 0 ≤ v) (hv2 : v < 2147483648) :
    ∃ (u' v' : Int) (S0 : PyData) (tab : List (List Int)) (rs : List PyData), 0 ≤ u' ∧ 0 ≤ v' ∧ v' < 2147483648 ∧ F__law_finite [.ref 0] (cup u v) = .ok (.v S0) (cup u' v') ∧ Base S0 tab rs .none ∧ ∀ a : Nat, a < tab.length → ∃ row row' b m, Good S0 tab a row row' b m := by
  obtain ⟨r, u1, v1, r0, r1, hu1, hv1, hv1', e1⟩ := roll u v 12 hu hv hv2 (by decide) (by decide)
  obtain ⟨i, rfl⟩ := Int.eq_ofNat_of_zero_le r0
  obtain ⟨S0, tab, rs, hS, H, hG⟩ := all_good i (by omega)
  refine ⟨u1, v1, S0, tab, rs, hu1, hv1, hv1', ?_, H, hG⟩
  have hat : atI sysL (i : Int) = some S0 := atN hS
  have sm : F__law_some [.ref 0, .v (.list sysL)] (cup u v) = .ok (.v S0) (cup u1 v1) := by
    refine run_ret ?_
    have hl : ((sysL.length : Nat) : Int) = 12 := rfl
    simp [d__law_some, hl, e1, hat]

  have q0 : ∀ w : Sto, f0 [.ref 0, .un] w = .ok (.nx [.ref 0, .v (.list (sysL.take 4))]) w := fun w => by kernel_rfl
  have q1 : ∀ w : Sto, f1 [.ref 0, .v (.list (sysL.take 4))] w = .ok (.nx [.ref 0, .v (.list (sysL.take 6))]) w := fun w => by kernel_rfl
  have q2 : ∀ w : Sto, f2 [.ref 0, .v (.list (sysL.take 6))] w = .ok (.nx [.ref 0, .v (.list (sysL.take 8))]) w := fun w => by kernel_rfl
  have q3 : ∀ w : Sto, f3 [.ref 0, .v (.list (sysL.take 8))] w = .ok (.nx [.ref 0, .v (.list (sysL.take 10))]) w := fun w => by kernel_rfl
  have q4 : ∀ w : Sto, f4 [.ref 0, .v (.list (sysL.take 10))] w = .ok (.nx [.ref 0, .v (.list (sysL.take 12))]) w := fun w => by kernel_rfl
  have fl : f5 [.ref 0, .v (.list (sysL.take 12))] (cup u v) = .ok (.ret (.v S0)) (cup u1 v1) := by
    have sm : F__law_some [.ref 0, .v (.list (sysL.take 12))] (cup u v) = .ok (.v S0) (cup u1 v1) := sm
    simp [f5, sm]
  refine run_ret ?_
  rw [fin_eq]
  exact (seq_nx (q0 _)).trans <| (seq_nx (q1 _)).trans <| (seq_nx (q2 _)).trans <| (seq_nx (q3 _)).trans <| (seq_nx (q4 _)).trans fl

def hd (ns : List Int) : Int := match ns with
  | [] => 0
  | n :: _ => if n < 0 then -n else n
theorem cup_ok (ns : List Int) (hn : ns.length ≤ 63) : ∃ u v : Int, 0 ≤ u ∧ 0 ≤ v ∧ v < 2147483648 ∧ F__law_cup [.scr ns] [] = .ok (.fr (.list [.int u, .int v])) [] := by
  have h0 : 0 ≤ hd ns := by
    unfold hd
    split
    · decide
    · split <;> omega
  have e1 : (sAsg 1 false (eBi fAbs (aCons (eIx (eBin opAdd (eScr 0) (eLst (aCons (eC (.int 0)) aNil))) (eC (.int 0))) aNil))) [.scr ns, .un] [] = .ok (.nx [.scr ns, .v (.int (hd ns))]) [] := by
    have hl : ns.length + 1 ≤ 16777216 := by omega
    cases ns with
    | nil => simp [eScr, opAdd, atI, ixN, fAbs, hd]
    | cons n ns =>
      have hl' : ns.length + 1 + 1 ≤ 16777216 := by simpa using hl
      have g1 : ns.length < 16777216 := by omega
      have g2 : ns.length + 1 < 16777216 := by omega
      have g3 : ns.length ≤ 16777215 := by omega
      have g4 : ns.length ≤ 16777214 := by omega
      have g5 : (0 : Int) ≤ (ns.length : Int) + 1 := by omega
      have g6 : (0 : Int) < (ns.length : Int) + 1 + 1 := by omega
      simp [eScr, opAdd, atI, ixN, fAbs, hd, hl', g1, g2, g3, g4, g5, g6]
  have m1 := Int.emod_nonneg (hd ns * 509 + 4513) (by decide : (2077411007 : Int) ≠ 0)
  have m2 := Int.emod_lt_of_pos (hd ns * 509 + 4513) (by decide : (0 : Int) < 2077411007)
  by_cases h : 1000000000000000000 ≤ hd ns
  · refine ⟨hd ns / 109, (hd ns * 509 + 4513) % 2077411007 + 241, Int.ediv_nonneg h0 (by decide), by omega, by omega, ?_⟩
    refine run_ret ((seq_nx e1).trans ?_)
    simp [opPow, opMul, opFdiv, opMod, h]
  · refine ⟨0, (hd ns * 509 + 4513) % 2077411007 + 241, by decide, by omega, by omega, ?_⟩
    refine run_ret ((seq_nx e1).trans ?_)
    simp [opPow, opMul, opFdiv, opMod, h]
def T1 : PyData := .tuple [.tuple [.int 3, .int 1], .int 3, .int 2, .tuple [.int 1, .int 2], .int 2, .int 1]
def T2 : PyData := .tuple [.tuple [.int 0, .int 3], .int 3, .int 0, .tuple [.int 0, .int 1], .tuple [.int 0], .tuple [.int 0, .int 3]]
theorem hF (ns : List Int) (hn : ns.length ≤ 63) : ∃ s, F_law [.scr ns] [] = .ok (.v (.bool true)) s := by
  obtain ⟨u, v, hu, hv, hv', e0⟩ := cup_ok ns hn
  obtain ⟨u1, v1, X1, tab1, rs1, hu1, hv1, hv1', e1, H1, G1⟩ := fin_ok hu hv hv'
  obtain ⟨u2, v2, hu2, hv2, hv2', e2⟩ := right_ok H1 G1 hu1 hv1 hv1'
  obtain ⟨u3, v3, X3, tab3, rs3, hu3, hv3, hv3', e3, H3, G3⟩ := fin_ok hu2 hv2 hv2'
  obtain ⟨u4, v4, hu4, hv4, hv4', e4⟩ := right_ok H3 G3 hu3 hv3 hv3'
  refine ⟨cup u4 v4, ?_⟩
  have s0 : l0 [.scr ns, .un, .un, .un, .un, .un, .un] [] = .ok (.nx [.scr ns, .ref 0, .un, .un, .un, .un, .un]) (cup u v) := by
    show Out.bind (eCall 1 F__law_cup (aCons (eVar 0) aNil) [.scr ns, .un, .un, .un, .un, .un, .un] []) _ = _
    have : eCall 1 F__law_cup (aCons (eVar 0) aNil) [.scr ns, .un, .un, .un, .un, .un, .un] [] = .ok (.fr (.list [.int u, .int v])) [] := by simp [e0]
    rw [this]
    rfl
  have s1 : ∀ w : Sto, l1 [.scr ns, .ref 0, .un, .un, .un, .un, .un] w = .ok (.nx [.scr ns, .ref 0, .un, .un, .v S3, .v S1, .v S2]) w := fun w => by kernel_rfl
  have s2 : ∀ w : Sto, l2 [.scr ns, .ref 0, .un, .un, .v S3, .v S1, .v S2] w = .ok (.nx [.scr ns, .ref 0, .v T1, .un, .v S3, .v S1, .v S2]) w := fun w => by kernel_rfl
  have s3 : ∀ w : Sto, l3 [.scr ns, .ref 0, .v T1, .un, .v S3, .v S1, .v S2] w = .ok (.nx [.scr ns, .ref 0, .v T1, .un, .v S3, .v S1, .v S2]) w := fun w => by kernel_rfl
  have s4 : ∀ w : Sto, l4 [.scr ns, .ref 0, .v T1, .un, .v S3, .v S1, .v S2] w = .ok (.nx [.scr ns, .ref 0, .v T2, .un, .v S3, .v S1, .v S2]) w := fun w => by kernel_rfl
  have s5 : ∀ w : Sto, l5 [.scr ns, .ref 0, .v T2, .un, .v S3, .v S1, .v S2] w = .ok (.nx [.scr ns, .ref 0, .v T2, .un, .v S3, .v S1, .v S2]) w := fun w => by kernel_rfl
  have s6 : l6 [.scr ns, .ref 0, .v T2, .un, .v S3, .v S1, .v S2] (cup u v) = .ok (.nx [.scr ns, .ref 0, .v T2, .v (.int 1), .v S3, .v S1, .v S2]) (cup u4 v4) := by
    have r : iRange1 (eC (.int 2)) [.scr ns, .ref 0, .v T2, .un, .v S3, .v S1, .v S2] (cup u v) = .ok (true, [.int 0, .int 1]) (cup u v) := by kernel_rfl
    refine (for_go r).trans <| (forL_nx (δ1 := [.scr ns, .ref 0, .v T2, .v (.int 0), .v S3, .v S1, .v S2]) (δ2 := [.scr ns, .ref 0, .v T2, .v (.int 0), .v S3, .v S1, .v S2]) (s' := cup u2 v2) rfl ?_).trans <|
      (forL_nx (δ1 := [.scr ns, .ref 0, .v T2, .v (.int 1), .v S3, .v S1, .v S2]) (δ2 := [.scr ns, .ref 0, .v T2, .v (.int 1), .v S3, .v S1, .v S2]) (s' := cup u4 v4) rfl ?_).trans rfl
    · simp [e1, e2]
    · simp [e3, e4]
  refine run_ret ?_
  rw [law_eq]
  exact (seq_nx s0).trans <| (seq_nx (s1 _)).trans <| (seq_nx (s2 _)).trans <| (seq_nx (s3 _)).trans <| (seq_nx (s4 _)).trans <| (seq_nx (s5 _)).trans <| (seq_nx s6).trans rfl
end G
open PySem PySem.W PySem.Calls PyProof.Rows
theorem law_of (hF : ∀ ns : List Int, ns.length ≤ 63 → ∃ s, G.F_law [.scr ns] [] = .ok (.v (.bool true)) s) : PySem.Challenge.rw_wordsrest_k52_whole_powers_of_elements.Holds := by
  w_on; o_law
  refine HandSHeadRun.head_any (r := G.R) (q := view G.R.prog [71]) (H := G.hk) (ob := G.ob) (M := 8000) (loose := G.loose) (d := HandSHeadRun.topDef G.R.prog 71) (kwd := []) G.ob_eq
    (by kernel_rfl) (fun s => by kernel_rfl) G.run (by kernel_rfl) (by kernel_rfl) (by kernel_rfl) (by rfl) (by first | assumption | decide +kernel) (by decide +kernel) ⟨rfl, rfl, rfl, rfl, rfl, by decide +kernel⟩ ?hw ?hc
  case hw => w_witness2
  case hc =>
    refine Lay.walkEnd (law := PySem.Challenge.rw_wordsrest_k52_whole_powers_of_elements) (most := 63) (lev := 12) (par := "script") (way := fun w => L2.CX PySem.Challenge.pw_wordsrest_k52_whole_powers_of_elements w) rfl (by decide) (by kernel_rfl) ⟨rfl, by decide, by decide⟩ ?F ?no
    case no =>
      intro w H s e s' z
      obtain ⟨_, _, _, _, _, _, _, _, _, _, _, _, z⟩ := z
      exact z
    case F =>
      intro w mg fa h Y G0 hmg0
      obtain ⟨K, KX, c⟩ := Y
      have hmg : mg ("law" : PySem.Str) = some (.ref fa) := by
        have e : (HandSHeadRun.topDef G.R.prog 71).name = ("law" : PySem.Str) := by kernel_rfl
        rw [← e]
        exact hmg0
      obtain ⟨fd, hb, hF2⟩ := G.facts (P := PySem.Challenge.pw_wordsrest_k52_whole_powers_of_elements) (w := w) KX G0 hmg c
      exact ⟨K, fd, Lay.spD K mg 1 G.F_law, KX, hb, fun H a ns hl hO hS => Lay.spLaw_of hF H a ns hl hO hS, fun base _ _ => hF2 base⟩
theorem PySem.Challenge.cw_wordsrest_k52_whole_powers_of_elements_holds : PySem.Challenge.rw_wordsrest_k52_whole_powers_of_elements.Holds := by
  exact law_of fun ns hn => G.hF ns hn
