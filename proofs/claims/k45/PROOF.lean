import PyProof.Rows.All
import Wide.All
import OpenK.AllK
import Wide.FinOn
import HandS.ForMost
import HandS.Wide
import HandS.Style
import HandS.TupAny
import HandS.Flow
import KE.DataEq
import KE.DataIsa
import HandS.RevRange
import HandS.Rev
import KE.DataAny
import KE.DataMinMax
import HandS.SortKw
import HandS.More
import HandS.Strs
import HandS.DictComp
import KE.GoesMore
import KE.GoesEnum
import HandS.Small
import HandS.WordsDict
import HandS.Call
import HandS.CallLocal
import HandS.Text
import HandS.Iter
import HandS.IsInst
import HandS.RaiseMore
import HandS.Comp
import PySem.Challenge.RW_swornlike_k45_texts_of_papers
set_option Elab.async false
set_option linter.all false
set_option maxRecDepth 100000
namespace Fn
open PySem PySem.Spec PyProof.Rows L2

/-- a value as data; refs are the numbers of owned objects -/
inductive W where
  | non | bl (b : Bool) | int (i : Int) | str (x : Str)
  | tup (ws : List W) | lst (ws : List W)
  | dic (ks : List Key) (ws : List W)
  | ins (c : Nat) (fs : List Str) (ws : List W)
  | ref (n : Nat)
  | op (v : V)
  | cl (k : Nat)          -- a class or a def of the program, by its number

inductive AO where
  | lst (ws : List W)
  | dic (ks : List Key) (ws : List W)
  | ins (c : Nat) (fs : List Str) (ws : List W)

structure GH where
  n : Nat
  at_ : Nat → Option AO

def GH.set (G : GH) (i : Nat) (o : AO) : GH := ⟨G.n, fun j => if j = i then some o else G.at_ j⟩
def GH.del (G : GH) (i : Nat) : GH := ⟨G.n, fun j => if j = i then none else G.at_ j⟩
def GH.push (G : GH) (o : AO) : GH := ⟨G.n + 1, fun j => if j = G.n then some o else G.at_ j⟩

/-- an exception: its class, its fields -/
structure Xn where
  c : Nat
  fs : List Str
  ws : List W

inductive R (α : Type) where
  | ok (a : α) (G : GH)
  | ex (x : Xn) (G : GH)
  | no
def R.bind {α β : Type} (r : R α) (f : α → GH → R β) : R β := match r with
  | .ok a G => f a G
  | .ex x G => .ex x G
  | .no => .no

/-- what of the module the relation knows -/
structure Gm where
  K : PySem.W.Frag
  cls : Nat → Addr
  w : World

/-- a dict of the top, by its entries -/
structure KTab (K : PySem.W.Frag) (w : World) (a : Addr) (tab : List (Key × V)) : Prop where
  at_ : ∃ es n, K.lookup a = some ⟨.type "dict", none, .dict es n, #[]⟩ ∧ Paired (fun (e : DictEntry) (kv : Key × V) => keyIs kv.1 e.key = true ∧ e.hash = keyH w kv.1 ∧ RelV kv.2 e.val) es.toList tab
  low : (a == sysModules) = false
  nd : (tab.map (·.1)).Nodup

mutual
inductive Rp (Γ : Gm) (O : Addr → Prop) (ι : List Addr) (H : Hp) : V → W → Prop
  | non : Rp Γ O ι H .non .non
  | bl (b : Bool) : Rp Γ O ι H (.bl b) (.bl b)
  | int (i : Int) : Rp Γ O ι H (.int i) (.int i)
  | str (x : Str) : Rp Γ O ι H (.str x) (.str x)
  | tup {a : Addr} {xs : List V} {ws : List W} : SqT Γ.K H a xs → RpAll Γ O ι H xs ws → Rp Γ O ι H (.ref a) (.tup ws)
  | lst {a : Addr} {xs : List V} {ws : List W} : Rd H a (.lst xs) → ¬ O a → RpAll Γ O ι H xs ws → Rp Γ O ι H (.ref a) (.lst ws)
  | lstK {a : Addr} {xs : List V} {ws : List W} {o : Obj} {its : Array Value} {n : Nat} : Γ.K.lookup a = some o → o.cls = .type "list" → o.dict = none → o.data = .seq its n → its.size ≤ sizeLine → Vals xs its.toList →
      RpAll Γ O ι H xs ws → Rp Γ O ι H (.ref a) (.lst ws)
  | dic {a : Addr} {ks : List Key} {xs : List V} {ws : List W} : Rd H a (.dK (ks.zip xs)) → ks.length = xs.length → ¬ O a → RpAll Γ O ι H xs ws → Rp Γ O ι H (.ref a) (.dic ks ws)
  | dicK {a : Addr} {ks : List Key} {xs : List V} {ws : List W} : KTab Γ.K Γ.w a (ks.zip xs) → ks.length = xs.length → RpAll Γ O ι H xs ws → Rp Γ O ι H (.ref a) (.dic ks ws)
  | ins {a dx : Addr} {c : Nat} {fs : List Str} {xs : List V} {ws : List W} : H a = some (.ins (Γ.cls c) dx (fs.zip xs)) → fs.length = xs.length → ¬ O a → RpAll Γ O ι H xs ws → Rp Γ O ι H (.ref a) (.ins c fs ws)
  | ref {n : Nat} {a : Addr} : ι[n]? = some a → Rp Γ O ι H (.ref a) (.ref n)
  | op (v : V) : Rp Γ O ι H v (.op v)
  | cl (k : Nat) : Rp Γ O ι H (.ref (Γ.cls k)) (.cl k)
inductive RpAll (Γ : Gm) (O : Addr → Prop) (ι : List Addr) (H : Hp) : List V → List W → Prop
  | nil : RpAll Γ O ι H [] []
  | cons {v : V} {w : W} {vs : List V} {ws : List W} : Rp Γ O ι H v w → RpAll Γ O ι H vs ws → RpAll Γ O ι H (v :: vs) (w :: ws)
end

def Own (ι : List Addr) (G : GH) (a : Addr) : Prop := ∃ n o, G.at_ n = some o ∧ ι[n]? = some a

inductive ROb (Γ : Gm) (O : Addr → Prop) (ι : List Addr) (H : Hp) : HO → AO → Prop
  | lst {xs : List V} {ws : List W} : RpAll Γ O ι H xs ws → ROb Γ O ι H (.lst xs) (.lst ws)
  | dic {ks : List Key} {xs : List V} {ws : List W} : ks.length = xs.length → RpAll Γ O ι H xs ws → ROb Γ O ι H (.dK (ks.zip xs)) (.dic ks ws)
  | ins {dx : Addr} {c : Nat} {fs : List Str} {xs : List V} {ws : List W} : fs.length = xs.length → RpAll Γ O ι H xs ws → ROb Γ O ι H (.ins (Γ.cls c) dx (fs.zip xs)) (.ins c fs ws)

/-- a configuration -/
structure Cf where
  ι : List Addr
  G : GH
  H : Hp
  B : Addr → Prop          -- lists that a comprehension fills: no value speaks of them
abbrev Cf.Ow (c : Cf) : Addr → Prop := Own c.ι c.G
def Cf.O (c : Cf) : Addr → Prop := fun a => c.Ow a ∨ c.B a
abbrev Cf.Rp (Γ : Gm) (c : Cf) : V → W → Prop := Fn.Rp Γ c.O c.ι c.H
abbrev Cf.RpAll (Γ : Gm) (c : Cf) : List V → List W → Prop := Fn.RpAll Γ c.O c.ι c.H

/-- what may be hidden -/
inductive Hd where
  | l (xs : List V)
  | d (kvs : List (Key × V))
def Hd.ho : Hd → HO
  | .l xs => .lst xs
  | .d kvs => .dK kvs
structure SR (Γ : Gm) (c : Cf) : Prop where
  len : c.ι.length = c.G.n
  nd : c.ι.Nodup
  all : ∀ a ∈ c.ι, c.H a ≠ none
  obj : ∀ n o, c.G.at_ n = some o → ∃ a ho, c.ι[n]? = some a ∧ c.H a = some ho ∧ ROb Γ c.O c.ι c.H ho o
  hid : ∀ a, c.B a → (∃ x : Hd, c.H a = some x.ho) ∧ a ∉ c.ι

structure Stp (c c' : Cf) : Prop where
  pre : ∀ (n : Nat) (a : Addr), c.ι[n]? = some a → c'.ι[n]? = some a
  keep : ∀ a o, c.H a = some o → ¬ c.Ow a → c'.H a = some o
  there : ∀ a, c.H a ≠ none → c'.H a ≠ none
  own : ∀ a, c'.Ow a → c.Ow a ∨ c.H a = none
  bl : c'.B = c.B

theorem Stp.refl (c : Cf) : Stp c c := ⟨fun _ _ h => h, fun _ _ h _ => h, fun _ h => h, fun _ h => .inl h, rfl⟩
theorem Stp.trans {a b c : Cf} (x : Stp a b) (y : Stp b c) : Stp a c where
  pre := fun n p h => y.pre n p (x.pre n p h)
  keep := fun p o h n => y.keep p o (x.keep p o h n) fun q => by
    rcases x.own p q with z | z
    · exact n z
    · rw [h] at z; cases z
  there := fun p h => y.there p (x.there p h)
  own := fun p h => by
    rcases y.own p h with z | z
    · exact x.own p z
    · cases q : a.H p with
      | none => exact .inr rfl
      | some o => exact absurd z (x.there p (by rw [q]; simp))
  bl := y.bl.trans x.bl

/-- what is owned is a list, a dict, an instance -/
theorem SR.notTup {Γ : Gm} {c : Cf} (s : SR Γ c) {a : Addr} {xs : List V} (h : c.H a = some (.tup xs)) : ¬ c.O a := fun q => by
  rcases q with ⟨n, o, e, f⟩ | q
  · obtain ⟨b, ho, e1, e2, r⟩ := s.obj n o e
    rw [f] at e1; cases e1
    rw [h] at e2; cases e2
    cases r
  · obtain ⟨⟨xs, e⟩, _⟩ := s.hid a q
    rw [h] at e; cases xs <;> cases e
theorem SR.notFrz {Γ : Gm} {c : Cf} (s : SR Γ c) {a : Addr} {o : Obj} {u : HO} (h : c.H a = some (.frz o u)) : ¬ c.O a := fun q => by
  rcases q with ⟨n, o, e, f⟩ | q
  · obtain ⟨b, ho, e1, e2, r⟩ := s.obj n o e
    rw [f] at e1; cases e1
    rw [h] at e2; cases e2
    cases r
  · obtain ⟨⟨xs, e⟩, _⟩ := s.hid a q
    rw [h] at e; cases xs <;> cases e
theorem Cf.ow {c : Cf} {a : Addr} (n : ¬ c.O a) : ¬ c.Ow a := fun q => n (.inl q)

/-- less than a step: what is hidden may change, and more may be hidden -/
structure StpW (c c' : Cf) : Prop where
  pre : ∀ (n : Nat) (a : Addr), c.ι[n]? = some a → c'.ι[n]? = some a
  keep : ∀ a o, c.H a = some o → ¬ c.O a → c'.H a = some o
  there : ∀ a, c.H a ≠ none → c'.H a ≠ none
  own : ∀ a, c'.O a → c.O a ∨ c.H a = none
theorem StpW.refl (c : Cf) : StpW c c := ⟨fun _ _ h => h, fun _ _ h _ => h, fun _ h => h, fun _ h => .inl h⟩
theorem StpW.trans {a b c : Cf} (x : StpW a b) (y : StpW b c) : StpW a c where
  pre := fun n p h => y.pre n p (x.pre n p h)
  keep := fun p o h n => y.keep p o (x.keep p o h n) fun q => by
    rcases x.own p q with z | z
    · exact n z
    · rw [h] at z; cases z
  there := fun p h => y.there p (x.there p h)
  own := fun p h => by
    rcases y.own p h with z | z
    · exact x.own p z
    · cases q : a.H p with
      | none => exact .inr rfl
      | some o => exact absurd z (x.there p (by rw [q]; simp))
theorem Stp.w {c c' : Cf} (x : Stp c c') : StpW c c' := ⟨x.pre, fun a o h n => x.keep a o h (Cf.ow n), x.there, fun a h => by
  rcases h with h | h
  · rcases x.own a h with z | z
    · exact .inl (.inl z)
    · exact .inr z
  · rw [x.bl] at h
    exact .inl (.inr h)⟩
theorem Rd.there {H : Hp} {a : Addr} {u : HO} (h : Rd H a u) : H a ≠ none := by
  rcases h with h | ⟨o, h⟩ <;> rw [h] <;> simp
theorem StpW.rd {c c' : Cf} (x : StpW c c') {a : Addr} {u : HO} (n : ¬ c.O a) (h : Rd c.H a u) : Rd c'.H a u := by
  rcases h with h | ⟨o, h⟩
  · exact .inl (x.keep _ _ h n)
  · exact .inr ⟨o, x.keep _ _ h n⟩
theorem StpW.sqT {Γ : Gm} {c c' : Cf} (s : SR Γ c) (x : StpW c c') {a : Addr} {xs : List V} (h : SqT Γ.K c.H a xs) : SqT Γ.K c'.H a xs := by
  rcases h with (h | ⟨o, h⟩) | h
  · exact .inl (.inl (x.keep _ _ h (s.notTup h)))
  · exact .inl (.inr ⟨o, x.keep _ _ h (s.notFrz h)⟩)
  · exact .inr h
theorem StpW.notO {c c' : Cf} (x : StpW c c') {a : Addr} (n : ¬ c.O a) (h : c.H a ≠ none) : ¬ c'.O a := fun q => by
  rcases x.own a q with z | z
  · exact n z
  · exact h z

mutual
theorem StpW.rp {Γ : Gm} {c c' : Cf} (s : SR Γ c) (x : StpW c c') : ∀ {v : V} {w : W}, c.Rp Γ v w → c'.Rp Γ v w
  | _, _, .non => .non
  | _, _, .bl b => .bl b
  | _, _, .int i => .int i
  | _, _, .str y => .str y
  | _, _, .tup h r => .tup (x.sqT s h) (StpW.rpAll s x r)
  | _, _, .lst h n r => .lst (x.rd n h) (x.notO n (Rd.there h)) (StpW.rpAll s x r)
  | _, _, .lstK a b e d z v r => .lstK a b e d z v (StpW.rpAll s x r)
  | _, _, .dic h l n r => .dic (x.rd n h) l (x.notO n (Rd.there h)) (StpW.rpAll s x r)
  | _, _, .dicK h l r => .dicK h l (StpW.rpAll s x r)
  | _, _, .ins h l n r => .ins (x.keep _ _ h n) l (x.notO n (by rw [h]; simp)) (StpW.rpAll s x r)
  | _, _, .ref h => .ref (x.pre _ _ h)
  | _, _, .op v => .op v
  | _, _, .cl k => .cl k
theorem StpW.rpAll {Γ : Gm} {c c' : Cf} (s : SR Γ c) (x : StpW c c') : ∀ {vs : List V} {ws : List W}, c.RpAll Γ vs ws → c'.RpAll Γ vs ws
  | _, _, .nil => .nil
  | _, _, .cons h t => .cons (StpW.rp s x h) (StpW.rpAll s x t)
end
theorem Stp.rp {Γ : Gm} {c c' : Cf} (s : SR Γ c) (x : Stp c c') {v : V} {w : W} (h : c.Rp Γ v w) : c'.Rp Γ v w := x.w.rp s h
theorem Stp.rpAll {Γ : Gm} {c c' : Cf} (s : SR Γ c) (x : Stp c c') {vs : List V} {ws : List W} (h : c.RpAll Γ vs ws) : c'.RpAll Γ vs ws := x.w.rpAll s h
theorem Stp.sqT {Γ : Gm} {c c' : Cf} (s : SR Γ c) (x : Stp c c') {a : Addr} {xs : List V} (h : SqT Γ.K c.H a xs) : SqT Γ.K c'.H a xs := x.w.sqT s h

theorem RpAll.length {Γ : Gm} {O : Addr → Prop} {ι : List Addr} {H : Hp} : ∀ {vs : List V} {ws : List W}, RpAll Γ O ι H vs ws → vs.length = ws.length
  | _, _, .nil => rfl
  | _, _, .cons _ t => by simp [RpAll.length t]
theorem RpAll.get {Γ : Gm} {O : Addr → Prop} {ι : List Addr} {H : Hp} : ∀ {vs : List V} {ws : List W} {i : Nat} {w : W}, RpAll Γ O ι H vs ws → ws[i]? = some w → ∃ v, vs[i]? = some v ∧ Rp Γ O ι H v w
  | _, _, _, _, .nil, e => by simp at e
  | _, _, 0, _, .cons h _, e => by simp at e; subst e; exact ⟨_, rfl, h⟩
  | _, _, i + 1, w, .cons _ t, e => by
    obtain ⟨v, h1, h2⟩ := RpAll.get (i := i) (w := w) t (by simpa using e)
    exact ⟨v, by simpa using h1, h2⟩
theorem RpAll.getV {Γ : Gm} {O : Addr → Prop} {ι : List Addr} {H : Hp} : ∀ {vs : List V} {ws : List W} {i : Nat} {v : V}, RpAll Γ O ι H vs ws → vs[i]? = some v → ∃ w, ws[i]? = some w ∧ Rp Γ O ι H v w
  | _, _, _, _, .nil, e => by simp at e
  | _, _, 0, _, .cons h _, e => by simp at e; subst e; exact ⟨_, rfl, h⟩
  | _, _, i + 1, w, .cons _ t, e => by
    obtain ⟨v, h1, h2⟩ := RpAll.getV (i := i) (v := w) t (by simpa using e)
    exact ⟨v, by simpa using h1, h2⟩
theorem RpAll.append {Γ : Gm} {O : Addr → Prop} {ι : List Addr} {H : Hp} : ∀ {vs vs' : List V} {ws ws' : List W}, RpAll Γ O ι H vs ws → RpAll Γ O ι H vs' ws' → RpAll Γ O ι H (vs ++ vs') (ws ++ ws')
  | _, _, _, _, .nil, s => s
  | _, _, _, _, .cons h t, s => .cons h (RpAll.append t s)
theorem RpAll.take {Γ : Gm} {O : Addr → Prop} {ι : List Addr} {H : Hp} : ∀ {vs : List V} {ws : List W} (n : Nat), RpAll Γ O ι H vs ws → RpAll Γ O ι H (vs.take n) (ws.take n)
  | _, _, 0, _ => by simpa using RpAll.nil
  | _, _, _ + 1, .nil => by simpa using RpAll.nil
  | _, _, n + 1, .cons h t => .cons h (RpAll.take n t)
theorem RpAll.drop {Γ : Gm} {O : Addr → Prop} {ι : List Addr} {H : Hp} : ∀ {vs : List V} {ws : List W} (n : Nat), RpAll Γ O ι H vs ws → RpAll Γ O ι H (vs.drop n) (ws.drop n)
  | _, _, 0, r => r
  | _, _, _ + 1, .nil => by simpa using RpAll.nil
  | _, _, n + 1, .cons _ t => RpAll.drop n t
theorem RpAll.set {Γ : Gm} {O : Addr → Prop} {ι : List Addr} {H : Hp} {v : V} {w : W} (h : Rp Γ O ι H v w) : ∀ {vs : List V} {ws : List W} (n : Nat), RpAll Γ O ι H vs ws → RpAll Γ O ι H (vs.set n v) (ws.set n w)
  | _, _, _, .nil => .nil
  | _, _, 0, .cons _ t => .cons h t
  | _, _, n + 1, .cons q t => .cons q (RpAll.set h n t)

/-! ### what is wanted behind -/
def RX (Γ : Gm) (c : Cf) (x : Xn) (cls : Value) (d : Option Addr) : Prop :=
  cls = .ref (Γ.cls x.c) ∧ ((d = none ∧ x.fs = [] ∧ x.ws = []) ∨ ∃ a xs, d = some a ∧ c.H a = some (.xd (x.fs.zip xs)) ∧ x.fs.length = xs.length ∧ c.RpAll Γ xs x.ws)

def Th {α β : Type} (Γ : Gm) (E : XK) (rel : Cf → β → α → Prop) (c : Cf) (Q : β → Hp → Prop) : R α → Prop
  | .ok a G => ∀ (c' : Cf) (v : β), Stp c c' → SR Γ c' → c'.G = G → rel c' v a → Q v c'.H
  | .ex x G => ∀ (c' : Cf) (cls : Value) (d : Option Addr), Stp c c' → SR Γ c' → c'.G = G → RX Γ c' x cls d → E cls d c'.H
  | .no => False

theorem Th.from {α β : Type} {Γ : Gm} {E : XK} {rel : Cf → β → α → Prop} {c c1 : Cf} {Q : β → Hp → Prop} {r : R α} (st : Stp c c1) (h : Th Γ E rel c Q r) : Th Γ E rel c1 Q r := by
  cases r with
  | ok a G => exact fun c' v s1 s2 e r => h c' v (st.trans s1) s2 e r
  | ex x G => exact fun c' cls d s1 s2 e r => h c' cls d (st.trans s1) s2 e r
  | no => exact h
theorem Th.bind {α β α' β' : Type} {Γ : Gm} {E : XK} {rel : Cf → β → α → Prop} {rel' : Cf → β' → α' → Prop} {c : Cf} {Q : β' → Hp → Prop} {r : R α} {f : α → GH → R α'} (h : Th Γ E rel' c Q (r.bind f)) :
    Th Γ E rel c (fun v H' => ∃ c' a, c'.H = H' ∧ Stp c c' ∧ SR Γ c' ∧ rel c' v a ∧ Th Γ E rel' c' Q (f a c'.G)) r := by
  cases r with
  | ok a G =>
    intro c' v s1 s2 e rl
    subst e
    exact ⟨c', a, rfl, s1, s2, rl, Th.from s1 h⟩
  | ex x G => exact h
  | no => exact h
theorem Th.mono {α β : Type} {Γ : Gm} {E : XK} {rel : Cf → β → α → Prop} {c : Cf} {Q Q' : β → Hp → Prop} {r : R α} (h : Th Γ E rel c Q r) (m : ∀ v c', Stp c c' → Q v c'.H → Q' v c'.H) : Th Γ E rel c Q' r := by
  cases r with
  | ok a G => exact fun c' v s1 s2 e rl => m v c' s1 (h c' v s1 s2 e rl)
  | ex x G => exact h
  | no => exact h
theorem Th.pure {α β : Type} {Γ : Gm} {E : XK} {rel : Cf → β → α → Prop} {c : Cf} {Q : β → Hp → Prop} {a : α} {v : β} (s : SR Γ c) (h : Th Γ E rel c Q (.ok a c.G)) (r : rel c v a) : Q v c.H := h c v (Stp.refl c) s rfl r

/-! ### environments -/
abbrev En := List (Option W)
def Cf.En (Γ : Gm) (c : Cf) (ρ : En) (σ : L2.St) : Prop := ρ.length = σ.length ∧ ∀ (i : Nat) (w : W), ρ[i]? = some (some w) → ∃ v, σ[i]? = some (some v) ∧ c.Rp Γ v w
theorem StpW.en {Γ : Gm} {c c' : Cf} (s : SR Γ c) (x : StpW c c') {ρ : Fn.En} {σ : L2.St} (h : c.En Γ ρ σ) : c'.En Γ ρ σ :=
  ⟨h.1, fun i w e => let ⟨v, e1, r⟩ := h.2 i w e; ⟨v, e1, x.rp s r⟩⟩
theorem Stp.en {Γ : Gm} {c c' : Cf} (s : SR Γ c) (x : Stp c c') {ρ : Fn.En} {σ : L2.St} (h : c.En Γ ρ σ) : c'.En Γ ρ σ := x.w.en s h
theorem Cf.En.set {Γ : Gm} {c : Cf} {ρ : Fn.En} {σ : L2.St} (h : c.En Γ ρ σ) {v : V} {w : W} (r : c.Rp Γ v w) (i : Nat) : c.En Γ (ρ.set i (some w)) (σ.set i (some v)) := by
  refine ⟨by rw [List.length_set, List.length_set]; exact h.1, fun j u e => ?_⟩
  by_cases hj : i = j
  · subst hj
    have hi : i < ρ.length := by
      have := (List.getElem?_eq_some_iff.mp e).1
      rwa [List.length_set] at this
    rw [List.getElem?_set_self hi] at e
    cases e
    exact ⟨v, List.getElem?_set_self (h.1 ▸ hi), r⟩
  · rw [List.getElem?_set_ne hj] at e
    rw [List.getElem?_set_ne hj]
    exact h.2 j u e

abbrev FE := En → GH → R W
abbrev FT := En → GH → R Bool
abbrev FA := En → GH → R (List W)

/-- the wish about exceptions, by the class, the dict, the slots and the heap -/
abbrev WXk := Value → Option Addr → L2.St → Hp → Prop

def absG {α β : Type} (Γ : Gm) (Z : WXk) (rel : Cf → β → α → Prop) (g : En → GH → R α) : L2.St → Hp → (β → Hp → Prop) → Prop := fun σ H Q =>
  ∃ (c : Cf) (ρ : En), c.H = H ∧ SR Γ c ∧ c.En Γ ρ σ ∧ Th Γ (fun cls d H' => Z cls d σ H') rel c Q (g ρ c.G)
abbrev absE (Γ : Gm) (Z : WXk) (g : FE) : TE := absG Γ Z (Cf.Rp Γ) g
abbrev absT (Γ : Gm) (Z : WXk) (g : FT) : TT := absG Γ Z (fun _ b b' => b = b') g
abbrev absA (Γ : Gm) (Z : WXk) (g : FA) : TA := absG Γ Z (Cf.RpAll Γ) g

theorem PE.imp {X : Cx} {e : Expr} {t t' : TE} (h : PE X e t) (m : ∀ σ H Q, t' σ H Q → t σ H Q) : PE X e t' := ⟨fun pins s σ H Q I q => h.run pins s σ H Q I (m σ H Q q)⟩
theorem PT.imp {X : Cx} {e : Expr} {t t' : TT} (h : PT X e t) (m : ∀ σ H Q, t' σ H Q → t σ H Q) : PT X e t' := ⟨fun pins s σ H Q I q => h.run pins s σ H Q I (m σ H Q q)⟩
theorem PA.imp {X : Cx} {e : List Expr} {t t' : TA} (h : PA X e t) (m : ∀ σ H Q, t' σ H Q → t σ H Q) : PA X e t' := ⟨fun pos pins s σ H Q I q => h.run pos pins s σ H Q I (m σ H Q q)⟩
theorem PS.imp {X : Cx} {e : Stmt} {t t' : TS} (h : PS X e t) (m : ∀ D σ H, t' D σ H → t D σ H) : PS X e t' := ⟨fun pins s σ H D I q => h.run pins s σ H D I (m D σ H q)⟩
theorem PSs.imp {X : Cx} {e : List Stmt} {t t' : TS} (h : PSs X e t) (m : ∀ D σ H, t' D σ H → t D σ H) : PSs X e t' := ⟨fun pins s σ H D I q => h.run pins s σ H D I (m D σ H q)⟩

/-- one after the other -/
theorem absG.bind {α β α' β' : Type} {Γ : Gm} {Z : WXk} {rel : Cf → β → α → Prop} {rel' : Cf → β' → α' → Prop} {g : En → GH → R α} {f : En → α → GH → R α'} {σ : L2.St} {H : Hp} {Q : β' → Hp → Prop}
    (h : absG Γ Z rel' (fun ρ G => (g ρ G).bind (f ρ)) σ H Q) :
    absG Γ Z rel g σ H (fun v H1 => ∃ (c : Cf) (ρ : En) (a : α), c.H = H1 ∧ SR Γ c ∧ c.En Γ ρ σ ∧ rel c v a ∧ Th Γ (fun cls d H' => Z cls d σ H') rel' c Q (f ρ a c.G)) := by
  obtain ⟨c, ρ, e, s, en, th⟩ := h
  exact ⟨c, ρ, e, s, en, Th.mono th.bind fun v c' st ⟨c1, a, e1, s1, s2, r, q⟩ => ⟨c1, ρ, a, e1, s2, s1.en s en, r, q⟩⟩
end Fn

set_option Elab.async false
set_option linter.all false
set_option maxRecDepth 100000
namespace Fn
open PySem PySem.Spec PyProof.Rows L2

theorem ROb.stpW {Γ : Gm} {c c' : Cf} (s : SR Γ c) (x : StpW c c') {ho : HO} {o : AO} (h : ROb Γ c.O c.ι c.H ho o) : ROb Γ c'.O c'.ι c'.H ho o := by
  cases h with
  | lst r => exact .lst (x.rpAll s r)
  | dic l r => exact .dic l (x.rpAll s r)
  | ins l r => exact .ins l (x.rpAll s r)
theorem ROb.stp {Γ : Gm} {c c' : Cf} (s : SR Γ c) (x : Stp c c') {ho : HO} {o : AO} (h : ROb Γ c.O c.ι c.H ho o) : ROb Γ c'.O c'.ι c'.H ho o := h.stpW s x.w
theorem SR.own_there {Γ : Gm} {c : Cf} (s : SR Γ c) {a : Addr} (h : c.O a) : c.H a ≠ none := by
  rcases h with ⟨n, o, e, f⟩ | h
  · exact s.all a (List.mem_of_getElem? f)
  · obtain ⟨⟨xs, e⟩, _⟩ := s.hid a h
    rw [e]; simp
theorem SR.uniq {Γ : Gm} {c : Cf} (s : SR Γ c) {m n : Nat} {a : Addr} (h1 : c.ι[m]? = some a) (h2 : c.ι[n]? = some a) : m = n := by
  obtain ⟨l1, e1⟩ := List.getElem?_eq_some_iff.mp h1
  obtain ⟨l2, e2⟩ := List.getElem?_eq_some_iff.mp h2
  exact (List.getElem_inj s.nd).mp (e1.trans e2.symm)
theorem SR.at_lt {Γ : Gm} {c : Cf} (s : SR Γ c) {n : Nat} {o : AO} (h : c.G.at_ n = some o) : n < c.G.n := by
  obtain ⟨a, _, e, _⟩ := s.obj n o h
  have := (List.getElem?_eq_some_iff.mp e).1
  rw [s.len] at this
  exact this

/-- an object that is not owned is laid -/
theorem new_frz {Γ : Gm} {c : Cf} (s : SR Γ c) {p : Addr} (hp : c.H p = none) (ho : HO) :
    Stp c ⟨c.ι, c.G, upd c.H p ho, c.B⟩ ∧ SR Γ ⟨c.ι, c.G, upd c.H p ho, c.B⟩ ∧ ¬ c.O p := by
  have st : Stp c ⟨c.ι, c.G, upd c.H p ho, c.B⟩ := ⟨fun _ _ h => h, fun a o h _ => by
      show upd c.H p ho a = some o
      rw [upd_ne (ne_of_none h hp)]; exact h, fun a h => by
      show upd c.H p ho a ≠ none
      by_cases e : a = p
      · subst e; rw [upd_same]; simp
      · rw [upd_ne e]; exact h, fun a h => .inl h, rfl⟩
  refine ⟨st, ⟨s.len, s.nd, fun a h => st.there a (s.all a h), fun n o h => ?_, fun a h => ?_⟩, fun h => s.own_there h hp⟩
  · obtain ⟨a, q, e1, e2, r⟩ := s.obj n o h
    exact ⟨a, q, e1, by show upd c.H p ho a = some q; rw [upd_ne (ne_of_none e2 hp)]; exact e2, r.stp s st⟩
  · obtain ⟨⟨xs, e⟩, na⟩ := s.hid a h
    exact ⟨⟨xs, by show upd c.H p ho a = _; rw [upd_ne (ne_of_none e hp)]; exact e⟩, na⟩

/-- an owned object is laid -/
theorem new_own {Γ : Gm} {c : Cf} (s : SR Γ c) {p : Addr} (hp : c.H p = none) {ho : HO} {o : AO} (r : ROb Γ c.O c.ι c.H ho o) :
    Stp c ⟨c.ι ++ [p], c.G.push o, upd c.H p ho, c.B⟩ ∧ SR Γ ⟨c.ι ++ [p], c.G.push o, upd c.H p ho, c.B⟩ := by
  have pre : ∀ (n : Nat) (a : Addr), c.ι[n]? = some a → (c.ι ++ [p])[n]? = some a := fun n a h => by
    rw [List.getElem?_append_left (List.getElem?_eq_some_iff.mp h).1]; exact h
  have st : Stp c ⟨c.ι ++ [p], c.G.push o, upd c.H p ho, c.B⟩ := ⟨pre, fun a o h _ => by
      show upd c.H p ho a = some o
      rw [upd_ne (ne_of_none h hp)]; exact h, fun a h => by
      show upd c.H p ho a ≠ none
      by_cases e : a = p
      · subst e; rw [upd_same]; simp
      · rw [upd_ne e]; exact h, fun a ⟨n, u, h1, h2⟩ => by
      have h1 : (if n = c.G.n then some o else c.G.at_ n) = some u := h1
      have h2 : (c.ι ++ [p])[n]? = some a := h2
      by_cases e : n = c.G.n
      · subst e
        rw [← s.len, List.getElem?_append_right (Nat.le_refl _), Nat.sub_self] at h2
        cases h2
        exact .inr hp
      · rw [if_neg e] at h1
        obtain ⟨b, _, e1, _, _⟩ := s.obj n u h1
        rw [pre n b e1] at h2
        cases h2
        exact .inl ⟨n, u, h1, e1⟩, rfl⟩
  refine ⟨st, ⟨?_, ?_, fun a h => ?_, fun n u h => ?_, fun a h => ?_⟩⟩
  · show (c.ι ++ [p]).length = c.G.n + 1
    rw [List.length_append, s.len]; rfl
  · show (c.ι ++ [p]).Nodup
    refine List.nodup_append.mpr ⟨s.nd, by simp, fun a ha b hb => ?_⟩
    have : b = p := by simpa using hb
    subst this
    intro e
    subst e
    exact s.all _ ha hp
  · show upd c.H p ho a ≠ none
    rcases List.mem_append.mp h with h | h
    · exact st.there a (s.all a h)
    · have : a = p := by simpa using h
      subst this; rw [upd_same]; simp
  · have h : (if n = c.G.n then some o else c.G.at_ n) = some u := h
    by_cases e : n = c.G.n
    · subst e
      rw [if_pos rfl] at h
      cases h
      refine ⟨p, ho, ?_, upd_same, r.stp s st⟩
      show (c.ι ++ [p])[c.G.n]? = some p
      rw [← s.len, List.getElem?_append_right (Nat.le_refl _), Nat.sub_self]
      rfl
    · rw [if_neg e] at h
      obtain ⟨a, q, e1, e2, r'⟩ := s.obj n u h
      exact ⟨a, q, pre n a e1, by show upd c.H p ho a = some q; rw [upd_ne (ne_of_none e2 hp)]; exact e2, r'.stp s st⟩
  · obtain ⟨⟨xs, e⟩, na⟩ := s.hid a h
    refine ⟨⟨xs, by show upd c.H p ho a = _; rw [upd_ne (ne_of_none e hp)]; exact e⟩, fun m => ?_⟩
    rcases List.mem_append.mp m with m | m
    · exact na m
    · have : a = p := by simpa using m
      subst this
      rw [hp] at e; cases e
theorem new_own_at {c : Cf} {Γ : Gm} (s : SR Γ c) (p : Addr) : (c.ι ++ [p])[c.G.n]? = some p := by
  rw [← s.len, List.getElem?_append_right (Nat.le_refl _), Nat.sub_self]
  rfl

/-- an owned object is written -/
theorem upd_own {Γ : Gm} {c : Cf} (s : SR Γ c) {n : Nat} {a : Addr} {o o' : AO} {ho : HO} (hn : c.G.at_ n = some o) (ha : c.ι[n]? = some a) (r : ROb Γ c.O c.ι c.H ho o') :
    Stp c ⟨c.ι, c.G.set n o', upd c.H a ho, c.B⟩ ∧ SR Γ ⟨c.ι, c.G.set n o', upd c.H a ho, c.B⟩ := by
  have oa : c.Ow a := ⟨n, o, hn, ha⟩
  have st : Stp c ⟨c.ι, c.G.set n o', upd c.H a ho, c.B⟩ := ⟨fun _ _ h => h, fun b u h nb => by
      show upd c.H a ho b = some u
      rw [upd_ne (show b ≠ a from fun e => nb (by rw [e]; exact oa))]; exact h, fun b h => by
      show upd c.H a ho b ≠ none
      by_cases e : b = a
      · subst e; rw [upd_same]; simp
      · rw [upd_ne e]; exact h, fun b ⟨m, u, h1, h2⟩ => by
      have h1 : (if m = n then some o' else c.G.at_ m) = some u := h1
      by_cases e : m = n
      · subst e; exact .inl ⟨m, o, hn, h2⟩
      · rw [if_neg e] at h1; exact .inl ⟨m, u, h1, h2⟩, rfl⟩
  refine ⟨st, ⟨s.len, s.nd, fun b h => st.there b (s.all b h), fun m u h => ?_, fun b h => ?_⟩⟩
  · have h : (if m = n then some o' else c.G.at_ m) = some u := h
    by_cases e : m = n
    · subst e
      rw [if_pos rfl] at h
      cases h
      exact ⟨a, ho, ha, upd_same, r.stp s st⟩
    · rw [if_neg e] at h
      obtain ⟨b, q, e1, e2, r'⟩ := s.obj m u h
      refine ⟨b, q, e1, ?_, r'.stp s st⟩
      show upd c.H a ho b = some q
      rw [upd_ne (show b ≠ a from fun z => e (s.uniq (by rw [← z]; exact e1) ha))]; exact e2
  · obtain ⟨⟨xs, e⟩, na⟩ := s.hid b h
    refine ⟨⟨xs, ?_⟩, na⟩
    show upd c.H a ho b = _
    rw [upd_ne (show b ≠ a from fun z => na (z ▸ List.mem_of_getElem? ha))]; exact e

/-- an owned object is owned no more -/
theorem del_own {Γ : Gm} {c : Cf} (s : SR Γ c) {n : Nat} {a : Addr} (ha : c.ι[n]? = some a) :
    Stp c ⟨c.ι, c.G.del n, c.H, c.B⟩ ∧ SR Γ ⟨c.ι, c.G.del n, c.H, c.B⟩ ∧ ¬ (⟨c.ι, c.G.del n, c.H, c.B⟩ : Cf).O a := by
  have sub : ∀ {m : Nat} {u : AO}, (c.G.del n).at_ m = some u → m ≠ n ∧ c.G.at_ m = some u := fun {m u} h => by
    have h : (if m = n then none else c.G.at_ m) = some u := h
    by_cases e : m = n
    · rw [if_pos e] at h; cases h
    · rw [if_neg e] at h; exact ⟨e, h⟩
  have st : Stp c ⟨c.ι, c.G.del n, c.H, c.B⟩ := ⟨fun _ _ h => h, fun _ _ h _ => h, fun _ h => h, fun b ⟨m, u, h1, h2⟩ => .inl ⟨m, u, (sub h1).2, h2⟩, rfl⟩
  refine ⟨st, ⟨s.len, s.nd, s.all, fun m u h => ?_, s.hid⟩, fun q => ?_⟩
  · obtain ⟨b, q, e1, e2, r⟩ := s.obj m u (sub h).2
    exact ⟨b, q, e1, e2, r.stp s st⟩
  · rcases q with ⟨m, u, h1, h2⟩ | q
    · exact (sub h1).1 (s.uniq h2 ha)
    · exact (s.hid a q).2 (List.mem_of_getElem? ha)

/-! ### lists, tuples by values -/
/-- the items of a list: as a value, or owned -/
def lsq (G : GH) : W → Option (List W)
  | .lst ws => some ws
  | .ref n => match G.at_ n with
    | some (.lst ws) => some ws
    | _ => none
  | _ => none
def tsq : W → Option (List W)
  | .tup ws => some ws
  | _ => none
def sqs (G : GH) (w : W) : Option (List W) := match tsq w with
  | some ws => some ws
  | none => lsq G w
theorem lsq_ok {Γ : Gm} {c : Cf} (s : SR Γ c) {v : V} {w : W} {ws : List W} (h : lsq c.G w = some ws) (r : c.Rp Γ v w) : ∃ a xs, v = .ref a ∧ SqL Γ.K c.H a xs ∧ c.RpAll Γ xs ws := by
  cases r with
  | lst h1 _ r =>
    cases h
    exact ⟨_, _, rfl, .inl h1, r⟩
  | lstK h1 h2 h3 h4 h5 h6 r =>
    cases h
    exact ⟨_, _, rfl, .inr ⟨_, _, _, h1, h2, h3, h4, h5, h6⟩, r⟩
  | @ref n a h1 =>
    unfold lsq at h
    cases e : c.G.at_ n with
    | none => simp [e] at h
    | some o =>
      obtain ⟨b, ho, e1, e2, r⟩ := s.obj n o e
      rw [h1] at e1; cases e1
      cases r with
      | lst r =>
        simp [e] at h
        subst h
        exact ⟨_, _, rfl, .inl (.inl e2), r⟩
      | dic _ _ => simp [e] at h
      | ins _ _ => simp [e] at h
  | _ => cases h
theorem tsq_ok {Γ : Gm} {c : Cf} {v : V} {w : W} {ws : List W} (h : tsq w = some ws) (r : c.Rp Γ v w) : ∃ a xs, v = .ref a ∧ SqT Γ.K c.H a xs ∧ c.RpAll Γ xs ws := by
  cases r with
  | tup h1 r =>
    cases h
    exact ⟨_, _, rfl, h1, r⟩
  | _ => cases h
theorem sqs_ok {Γ : Gm} {c : Cf} (s : SR Γ c) {v : V} {w : W} {ws : List W} (h : sqs c.G w = some ws) (r : c.Rp Γ v w) : ∃ a xs, v = .ref a ∧ (SqL Γ.K c.H a xs ∨ SqT Γ.K c.H a xs) ∧ c.RpAll Γ xs ws := by
  unfold sqs at h
  split at h
  · cases h
    obtain ⟨a, xs, e, q, r⟩ := tsq_ok (by assumption) r
    exact ⟨a, xs, e, .inr q, r⟩
  · obtain ⟨a, xs, e, q, r⟩ := lsq_ok s h r
    exact ⟨a, xs, e, .inl q, r⟩

/-- a new list, as a value or owned -/
def mkL (own : Bool) (ws : List W) (G : GH) : R W := if own then .ok (.ref G.n) (G.push (.lst ws)) else .ok (.lst ws) G
theorem mkL_ok {Γ : Gm} {E : XK} {c : Cf} {Q : V → Hp → Prop} {own : Bool} {xs : List V} {ws : List W} (s : SR Γ c) (r : c.RpAll Γ xs ws) (h : Th Γ E (Cf.Rp Γ) c Q (mkL own ws c.G)) {p : Addr} (hp : c.H p = none) : Q (.ref p) (upd c.H p (.lst xs)) := by
  cases own with
  | true =>
    obtain ⟨st, sr⟩ := new_own s hp (.lst r)
    exact h _ _ st sr rfl (.ref (new_own_at s p))
  | false =>
    obtain ⟨st, sr, no⟩ := new_frz s hp (.lst xs)
    exact h _ _ st sr rfl (.lst (.inl upd_same) (fun q => no (q.elim (fun z => .inl z) fun z => .inr z)) (st.rpAll s r))
theorem mkT_ok {Γ : Gm} {E : XK} {c : Cf} {Q : V → Hp → Prop} {xs : List V} {ws : List W} (s : SR Γ c) (r : c.RpAll Γ xs ws) (h : Th Γ E (Cf.Rp Γ) c Q (.ok (.tup ws) c.G)) {p : Addr} (hp : c.H p = none) : Q (.ref p) (upd c.H p (.tup xs)) := by
  obtain ⟨st, sr, no⟩ := new_frz s hp (.tup xs)
  exact h _ _ st sr rfl (.tup (.inl (.inl upd_same)) (st.rpAll s r))
end Fn

set_option Elab.async false
set_option linter.all false
set_option maxRecDepth 100000
namespace Fn
open PySem PySem.Spec PyProof.Rows L2
section
variable {X : Cx} {Γ : Gm} {Z : WXk}

/-! ### names, constants -/
def gVar (i : Nat) : FE := fun ρ G => match ρ[i]? with
  | some (some w) => .ok w G
  | _ => .no
theorem fe_var {i : Nat} {e : Expr} (h : PE X e (tVar i)) : PE X e (absE Γ Z (gVar i)) := PE.imp h fun σ H Q ⟨c, ρ, e, s, en, th⟩ => by
  subst e
  unfold gVar at th
  split at th
  · rename_i w e
    obtain ⟨v, e1, r⟩ := en.2 _ _ e
    exact ⟨v, e1, th.pure s r⟩
  · exact th.elim
def gC (w : W) : FE := fun _ G => .ok w G
theorem fe_c {v : V} {w : W} {e : Expr} (h : PE X e (tC v)) (r : ∀ c : Cf, c.Rp Γ v w) : PE X e (absE Γ Z (gC w)) := PE.imp h fun σ H Q ⟨c, ρ, e, s, en, th⟩ => by
  subst e
  exact Th.pure s th (r c)
theorem fe_int {i : Int} {j : Nat} {pos : Pos} : PE X (.Constant (.int i) j pos) (absE Γ Z (gC (.int i))) := fe_c pe_int fun _ => .int i
theorem fe_bl {b : Bool} {j : Nat} {pos : Pos} : PE X (.Constant (.bool b) j pos) (absE Γ Z (gC (.bl b))) := fe_c pe_bl fun _ => .bl b
theorem fe_non {j : Nat} {pos : Pos} : PE X (.Constant .none j pos) (absE Γ Z (gC .non)) := fe_c pe_non fun _ => .non
theorem fe_str {x : Str} {j : Nat} {pos : Pos} : PE X (.Constant (.str x) j pos) (absE Γ Z (gC (.str x))) := fe_c pe_str fun _ => .str x

/-! ### operators -/
abbrev F2 := W → W → GH → R W
def OpF (X : Cx) (Γ : Gm) (f : Value → Value → Sem Value) (g : F2) : Prop :=
  ∃ r, OpR X f r ∧ ∀ (c : Cf) (x y : V) (a b : W) (Q : VK) (E : XK), SR Γ c → c.Rp Γ x a → c.Rp Γ y b → Th Γ E (Cf.Rp Γ) c Q (g a b c.G) → r x y c.H Q
def gOp (f : F2) (ga gb : FE) : FE := fun ρ G => (ga ρ G).bind fun a G1 => (gb ρ G1).bind fun b G2 => f a b G2
theorem op_ok {r : R2} {f : F2} {ga gb : FE} {σ : L2.St} {H : Hp} {Q : VK} (hr : ∀ (c : Cf) (x y : V) (a b : W) (Q : VK) (E : XK), SR Γ c → c.Rp Γ x a → c.Rp Γ y b → Th Γ E (Cf.Rp Γ) c Q (f a b c.G) → r x y c.H Q)
    (h : absE Γ Z (gOp f ga gb) σ H Q) : tOp r (absE Γ Z ga) (absE Γ Z gb) σ H Q := by
  obtain ⟨c, ρ, e, s, en, th⟩ := absG.bind h
  refine ⟨c, ρ, e, s, en, Th.mono th fun v c1 st ⟨c2, ρ2, a, e2, s2, en2, ra, q⟩ => ?_⟩
  refine ⟨c2, ρ2, e2, s2, en2, Th.mono (Th.bind q) fun u c3 st3 ⟨c4, b, e4, st4, s4, rb, q4⟩ => ?_⟩
  rw [← e4]
  exact hr c4 v u a b Q _ s4 (st4.rp s2 ra) rb q4
theorem fe_op {op : Operator} {f : F2} {a b : Expr} {ga gb : FE} {pos : Pos} (ho : OpF X Γ (binaryOp op) f) (ha : PE X a (absE Γ Z ga)) (hb : PE X b (absE Γ Z gb)) : PE X (.BinOp a op b pos) (absE Γ Z (gOp f ga gb)) := by
  obtain ⟨r, hr, h⟩ := ho
  exact PE.imp (pe_op hr ha hb) fun σ H Q q => op_ok h q
theorem fe_cmp {op : CmpOp} {f : F2} {a b : Expr} {ga gb : FE} {pos : Pos} (ho : OpF X Γ (compareOp op) f) (ha : PE X a (absE Γ Z ga)) (hb : PE X b (absE Γ Z gb)) (hm : behindInMarks op b = false) : PE X (.Compare a [op] [b] pos) (absE Γ Z (gOp f ga gb)) := by
  obtain ⟨r, hr, h⟩ := ho
  exact PE.imp (pe_cmpR hr ha hb hm) fun σ H Q q => op_ok h q
/-- a value that is a bool, as a test -/
def asB (w : W) (G : GH) : R Bool := match w with
  | .bl b => .ok b G
  | _ => .no
def gTest (g : FE) : FT := fun ρ G => (g ρ G).bind asB
theorem test_ok {g : FE} {σ : L2.St} {H : Hp} {Q : Bool → Hp → Prop} (h : absT Γ Z (gTest g) σ H Q) : absE Γ Z g σ H (fun x H' => ∃ k, x = .bl k ∧ Q k H') := by
  obtain ⟨c, ρ, e, s, en, th⟩ := absG.bind h
  refine ⟨c, ρ, e, s, en, Th.mono th fun v c1 st ⟨c2, ρ2, a, e2, s2, en2, ra, q⟩ => ?_⟩
  cases ra with
  | bl b => exact ⟨b, rfl, e2 ▸ q.pure s2 rfl⟩
  | _ => exact q.elim
theorem absE.mono {g : FE} {σ : L2.St} {H : Hp} {Q Q' : VK} (h : absE Γ Z g σ H Q) (m : ∀ v H', Q v H' → Q' v H') : absE Γ Z g σ H Q' := by
  obtain ⟨c, ρ, e, s, en, th⟩ := h
  exact ⟨c, ρ, e, s, en, Th.mono th fun v c' _ q => m v _ q⟩
theorem absT.mono {g : FT} {σ : L2.St} {H : Hp} {Q Q' : Bool → Hp → Prop} (h : absT Γ Z g σ H Q) (m : ∀ v H', Q v H' → Q' v H') : absT Γ Z g σ H Q' := by
  obtain ⟨c, ρ, e, s, en, th⟩ := h
  exact ⟨c, ρ, e, s, en, Th.mono th fun v c' _ q => m v _ q⟩
theorem ft_cmp {op : CmpOp} {f : F2} {a b : Expr} {ga gb : FE} {pos : Pos} (ho : OpF X Γ (compareOp op) f) (ha : PE X a (absE Γ Z ga)) (hb : PE X b (absE Γ Z gb)) (hm : behindInMarks op b = false) : PT X (.Compare a [op] [b] pos) (absT Γ Z (gTest (gOp f ga gb))) := by
  obtain ⟨r, hr, h⟩ := ho
  exact PT.imp (pt_cmpR hr ha hb hm) fun σ H Q q => op_ok h (test_ok q)
/-- a call, .. whose value is a bool, as a test -/
theorem ft_val {e : Expr} {g : FE} (h : PE X e (absE Γ Z g)) (he : ∀ whole, isTrue e X.env whole = (do let v ← whole; standAt e.pos; holding [v] (truthy v)) := by intro _; rfl) : PT X e (absT Γ Z (gTest g)) :=
  PT.imp (pt_val h he) fun σ H Q q => test_ok q

/-! ### arithmetic -/
def fInt2 (g : Int → Int → Int) : F2 := fun a b G => match a, b with
  | .int i, .int j => .ok (.int (g i j)) G
  | _, _ => .no
def fCmpI (g : Int → Int → Bool) : F2 := fun a b G => match a, b with
  | .int i, .int j => .ok (.bl (g i j)) G
  | _, _ => .no
theorem rI0_int {g : Int → Int → Int} (c : Cf) (x y : V) (a b : W) (Q : VK) (E : XK) (s : SR Γ c) (ra : c.Rp Γ x a) (rb : c.Rp Γ y b) (h : Th Γ E (Cf.Rp Γ) c Q (fInt2 g a b c.G)) : rI0 (fun i j => .int (g i j)) x y c.H Q := by
  cases ra with
  | int i =>
    cases rb with
    | int j => exact ⟨i, j, rfl, rfl, h.pure s (.int _)⟩
    | _ => exact h.elim
  | _ => exact h.elim
theorem rI0_bl {g : Int → Int → Bool} (c : Cf) (x y : V) (a b : W) (Q : VK) (E : XK) (s : SR Γ c) (ra : c.Rp Γ x a) (rb : c.Rp Γ y b) (h : Th Γ E (Cf.Rp Γ) c Q (fCmpI g a b c.G)) : rI0 (fun i j => .bl (g i j)) x y c.H Q := by
  cases ra with
  | int i =>
    cases rb with
    | int j => exact ⟨i, j, rfl, rfl, h.pure s (.bl _)⟩
    | _ => exact h.elim
  | _ => exact h.elim
def fSub : F2 := fInt2 fun i j => i - j
theorem of_sub : OpF X Γ (binaryOp .Sub) fSub := ⟨_, op_sub, rI0_int⟩
def fLt : F2 := fCmpI fun i j => decide (i < j)
def fLe : F2 := fCmpI fun i j => decide (i ≤ j)
def fGt : F2 := fCmpI fun i j => decide (j < i)
def fGe : F2 := fCmpI fun i j => decide (j ≤ i)
theorem of_lt : OpF X Γ (compareOp .Lt) fLt := ⟨_, op_lt, rI0_bl⟩
theorem of_le : OpF X Γ (compareOp .LtE) fLe := ⟨_, op_le, rI0_bl⟩
theorem of_gt : OpF X Γ (compareOp .Gt) fGt := ⟨_, op_gt, rI0_bl⟩
theorem of_ge : OpF X Γ (compareOp .GtE) fGe := ⟨_, op_ge, rI0_bl⟩
def fMul : F2 := fun a b G => match a, b with
  | .int i, .int j => if (-(2 ^ 64) < i ∧ i < 2 ^ 64) ∨ (-(2 ^ 64) < j ∧ j < 2 ^ 64) ∨ i.natAbs.log2 + j.natAbs.log2 < 1000000 then .ok (.int (i * j)) G else .no
  | _, _ => .no
theorem of_mul : OpF X Γ (binaryOp .Mult) fMul := ⟨_, op_mul.or op_mulW, fun c x y a b Q E s ra rb h => by
  cases ra with
  | int i =>
    cases rb with
    | int j =>
      unfold fMul at h
      by_cases k : (-(2 ^ 64) < i ∧ i < 2 ^ 64) ∨ (-(2 ^ 64) < j ∧ j < 2 ^ 64) ∨ i.natAbs.log2 + j.natAbs.log2 < 1000000
      · simp only [if_pos k] at h
        rcases k with k | k | k
        · exact .inl ⟨i, j, rfl, rfl, .inl k, h.pure s (.int _)⟩
        · exact .inl ⟨i, j, rfl, rfl, .inr k, h.pure s (.int _)⟩
        · exact .inr ⟨i, j, rfl, rfl, k, h.pure s (.int _)⟩
      · simp only [if_neg k] at h
        exact h.elim
    | _ => exact h.elim
  | _ => exact h.elim⟩
def fDiv : F2 := fun a b G => match a, b with
  | .int i, .int j => if 0 < j ∧ j.natAbs.log2 < 9000 then .ok (.int (i / j)) G else .no
  | _, _ => .no
theorem of_div : OpF X Γ (binaryOp .FloorDiv) fDiv := ⟨_, op_fdivW, fun c x y a b Q E s ra rb h => by
  cases ra with
  | int i =>
    cases rb with
    | int j =>
      unfold fDiv at h
      by_cases k : 0 < j ∧ j.natAbs.log2 < 9000
      · simp only [if_pos k] at h
        exact ⟨i, j, rfl, rfl, k, h.pure s (.int _)⟩
      · simp only [if_neg k] at h
        exact h.elim
    | _ => exact h.elim
  | _ => exact h.elim⟩
def fMod : F2 := fun a b G => match a, b with
  | .int i, .int j => if 0 < j then .ok (.int (i % j)) G else .no
  | _, _ => .no
theorem of_mod : OpF X Γ (binaryOp .Mod) fMod := ⟨_, op_mod, fun c x y a b Q E s ra rb h => by
  cases ra with
  | int i =>
    cases rb with
    | int j =>
      unfold fMod at h
      by_cases k : 0 < j
      · simp only [if_pos k] at h
        exact ⟨i, j, rfl, rfl, k, h.pure s (.int _)⟩
      · simp only [if_neg k] at h
        exact h.elim
    | _ => exact h.elim
  | _ => exact h.elim⟩
def fPow : F2 := fun a b G => match a, b with
  | .int i, .int j => if 0 ≤ j ∧ j ≤ 1000000 ∧ i.natAbs < 2 ^ 64 then .ok (.int (i ^ j.toNat)) G else .no
  | _, _ => .no
theorem of_pow : OpF X Γ (binaryOp .Pow) fPow := ⟨_, op_pow, fun c x y a b Q E s ra rb h => by
  cases ra with
  | int i =>
    cases rb with
    | int j =>
      unfold fPow at h
      by_cases k : 0 ≤ j ∧ j ≤ 1000000 ∧ i.natAbs < 2 ^ 64
      · simp only [if_pos k] at h
        exact ⟨i, j, rfl, rfl, k, h.pure s (.int _)⟩
      · simp only [if_neg k] at h
        exact h.elim
    | _ => exact h.elim
  | _ => exact h.elim⟩
/-- a + b: ints, texts, tuples -/
def fAdd : F2 := fun a b G => match a, b with
  | .int i, .int j => .ok (.int (i + j)) G
  | .str i, .str j => if i.length + j.length ≤ sizeLine then .ok (.str (i ++ j)) G else .no
  | .tup i, .tup j => if i.length + j.length ≤ sizeLine then .ok (.tup (i ++ j)) G else .no
  | _, _ => .no
end
end Fn

set_option Elab.async false
set_option linter.all false
set_option maxRecDepth 100000
namespace Fn
open PySem PySem.Spec PyProof.Rows L2

/-! ### values as data: equality -/
mutual
def W.toD : W → PyData
  | .non => .none
  | .bl b => .bool b
  | .int i => .int i
  | .str x => .str x
  | .tup ws => .tuple (W.toDs ws)
  | .lst ws => .list (W.toDs ws)
  | .dic _ _ => .none
  | .ins _ _ _ => .none
  | .ref _ => .none
  | .op _ => .none
  | .cl _ => .none
def W.toDs : List W → List PyData
  | [] => []
  | w :: ws => W.toD w :: W.toDs ws
end
mutual
/-- numbers, texts, truth values, None, tuples and lists -/
def W.pl : W → Bool
  | .non | .bl _ | .int _ | .str _ => true
  | .tup ws | .lst ws => W.pls ws
  | .dic _ _ | .ins _ _ _ | .ref _ | .op _ | .cl _ => false
def W.pls : List W → Bool
  | [] => true
  | w :: ws => W.pl w && W.pls ws
end
mutual
def W.dep : W → Nat
  | .tup ws | .lst ws => W.deps ws + 1
  | _ => 0
def W.deps : List W → Nat
  | [] => 0
  | w :: ws => max (W.dep w) (W.deps ws)
end
mutual
def eqW : W → W → Bool
  | .non, .non => true
  | .bl a, .bl b => a == b
  | .bl a, .int j => (if a then 1 else 0) == j
  | .int i, .bl b => i == (if b then 1 else 0)
  | .int i, .int j => i == j
  | .str x, .str y => x == y
  | .tup xs, .tup ys => eqWs xs ys
  | .lst xs, .lst ys => eqWs xs ys
  | _, _ => false
def eqWs : List W → List W → Bool
  | [], [] => true
  | x :: xs, y :: ys => eqW x y && eqWs xs ys
  | _, _ => false
end
mutual
theorem eqv_toD : ∀ (a b : W), a.pl = true → b.pl = true → PyData.eqv a.toD b.toD = eqW a b
  | .non, b, _, hb => by cases b <;> first | rfl | cases hb
  | .bl _, b, _, hb => by cases b <;> first | rfl | cases hb
  | .int _, b, _, hb => by cases b <;> first | rfl | cases hb
  | .str _, b, _, hb => by cases b <;> first | rfl | cases hb
  | .tup xs, b, ha, hb => by
    cases b with
    | tup ys => simp only [W.toD, PyData.eqv, eqW]; exact eqvs_toD xs ys (by simpa [W.pl] using ha) (by simpa [W.pl] using hb)
    | dic _ _ => cases hb
    | ins _ _ _ => cases hb
    | ref _ => cases hb
    | op _ => cases hb
    | cl _ => cases hb
    | _ => simp [W.toD, PyData.eqv, eqW]
  | .lst xs, b, ha, hb => by
    cases b with
    | lst ys => simp only [W.toD, PyData.eqv, eqW]; exact eqvs_toD xs ys (by simpa [W.pl] using ha) (by simpa [W.pl] using hb)
    | dic _ _ => cases hb
    | ins _ _ _ => cases hb
    | ref _ => cases hb
    | op _ => cases hb
    | cl _ => cases hb
    | _ => simp [W.toD, PyData.eqv, eqW]
  | .dic _ _, _, h, _ => by cases h
  | .ins _ _ _, _, h, _ => by cases h
  | .ref _, _, h, _ => by cases h
  | .op _, _, h, _ => by cases h
  | .cl _, _, h, _ => by cases h
theorem eqvs_toD : ∀ (xs ys : List W), W.pls xs = true → W.pls ys = true → PyData.eqvAll (W.toDs xs) (W.toDs ys) = eqWs xs ys
  | [], [], _, _ => rfl
  | [], _ :: _, _, _ => rfl
  | _ :: _, [], _, _ => rfl
  | x :: xs, y :: ys, ha, hb => by
    simp only [W.pls, Bool.and_eq_true] at ha hb
    simp only [W.toDs, PyData.eqvAll, eqWs, eqv_toD x y ha.1 hb.1, eqvs_toD xs ys ha.2 hb.2]
end
mutual
theorem plain_toD : ∀ a : W, a.toD.plain = true
  | .non | .bl _ | .int _ | .str _ | .dic _ _ | .ins _ _ _ | .ref _ | .op _ | .cl _ => rfl
  | .tup xs => by simp only [W.toD, PyData.plain]; exact plains_toD xs
  | .lst xs => by simp only [W.toD, PyData.plain]; exact plains_toD xs
theorem plains_toD : ∀ xs : List W, PyData.plainAll (W.toDs xs) = true
  | [] => rfl
  | x :: xs => by simp only [W.toDs, PyData.plainAll, plain_toD x, plains_toD xs, Bool.and_self]
end
mutual
theorem depth_toD : ∀ a : W, a.toD.depth = a.dep
  | .non | .bl _ | .int _ | .str _ | .dic _ _ | .ins _ _ _ | .ref _ | .op _ | .cl _ => rfl
  | .tup xs => by simp only [W.toD, PyData.depth, W.dep, depths_toD xs]
  | .lst xs => by simp only [W.toD, PyData.depth, W.dep, depths_toD xs]
theorem depths_toD : ∀ xs : List W, PyData.depthAll (W.toDs xs) = W.deps xs
  | [] => rfl
  | x :: xs => by simp only [W.toDs, PyData.depthAll, W.deps, depth_toD x, depths_toD xs]
end
mutual
theorem Rp.dp {Γ : Gm} {c : Cf} : ∀ {v : V} {w : W}, c.Rp Γ v w → w.pl = true → Dp Γ.K c.H v w.toD
  | _, _, .non, _ => .non
  | _, _, .bl b, _ => .bl b
  | _, _, .int i, _ => .int i
  | _, _, .str x, _ => .str x
  | _, _, .tup h r, p => .tup h (RpAll.dp r (by simpa [W.pl] using p))
  | _, _, .lst h _ r, p => .lst (.inl h) (RpAll.dp r (by simpa [W.pl] using p))
  | _, _, .lstK a b e d z v r, p => .lst (.inr ⟨_, _, _, a, b, e, d, z, v⟩) (RpAll.dp r (by simpa [W.pl] using p))
  | _, _, .dic _ _ _ _, p => by cases p
  | _, _, .dicK _ _ _, p => by cases p
  | _, _, .ins _ _ _ _, p => by cases p
  | _, _, .ref _, p => by cases p
  | _, _, .op _, p => by cases p
  | _, _, .cl _, p => by cases p
theorem RpAll.dp {Γ : Gm} {c : Cf} : ∀ {vs : List V} {ws : List W}, c.RpAll Γ vs ws → W.pls ws = true → DpAll Γ.K c.H vs (W.toDs ws)
  | _, _, .nil, _ => .nil
  | _, _, .cons h t, p => by
    simp only [W.pls, Bool.and_eq_true] at p
    exact .cons (Rp.dp h p.1) (RpAll.dp t p.2)
end
/-- an owned list by what it holds -/
def res (G : GH) : W → W
  | .ref n => match G.at_ n with
    | some (.lst ws) => .lst ws
    | _ => .ref n
  | w => w
theorem res_dp {Γ : Gm} {c : Cf} (s : SR Γ c) {v : V} {w : W} (r : c.Rp Γ v w) (p : (res c.G w).pl = true) : Dp Γ.K c.H v (res c.G w).toD := by
  cases r with
  | @ref n a h1 =>
    unfold res at p ⊢
    cases e : c.G.at_ n with
    | none => simp [e, W.pl] at p
    | some o =>
      obtain ⟨b, ho, e1, e2, r⟩ := s.obj n o e
      rw [h1] at e1; cases e1
      cases r with
      | lst r =>
        simp only [e, W.pl] at p ⊢
        exact .lst (.inl (.inl e2)) (RpAll.dp r p)
      | dic _ _ => simp [e, W.pl] at p
      | ins _ _ => simp [e, W.pl] at p
  | non => exact Rp.dp (c := c) .non p
  | bl b => exact Rp.dp (c := c) (.bl b) p
  | int i => exact Rp.dp (c := c) (.int i) p
  | str x => exact Rp.dp (c := c) (.str x) p
  | tup h r => exact Rp.dp (c := c) (.tup h r) p
  | lst h n r => exact Rp.dp (c := c) (.lst h n r) p
  | lstK a b e d z v r => exact Rp.dp (c := c) (.lstK a b e d z v r) p
  | dic h l n r => cases p
  | dicK h l r => cases p
  | ins h l n r => cases p
  | op v => cases p
  | cl v => cases p

def eqOk (a b : W) : Bool := a.pl && b.pl && decide (min a.dep b.dep ≤ 60)
def fEq : F2 := fun a b G => if eqOk (res G a) (res G b) then .ok (.bl (eqW (res G a) (res G b))) G else .no
def fNe : F2 := fun a b G => if eqOk (res G a) (res G b) then .ok (.bl (!eqW (res G a) (res G b))) G else .no
section
variable {X : Cx} {Γ : Gm} {Z : WXk}
def rEqF (K : PySem.W.Frag) : R2 := fun x y H Q => ∃ d e, Dp K H x d ∧ Dp K H y e ∧ d.plain = true ∧ e.plain = true ∧ min d.depth e.depth ≤ 60 ∧ Q (.bl (PyData.eqv d e)) H
def rNeF (K : PySem.W.Frag) : R2 := fun x y H Q => ∃ d e, Dp K H x d ∧ Dp K H y e ∧ d.plain = true ∧ e.plain = true ∧ min d.depth e.depth ≤ 60 ∧ Q (.bl (!PyData.eqv d e)) H
theorem op_eqF (hu : X.A.units + 64 < cLine) : OpR X (compareOp .Eq) (rEqF X.K) := by
  intro pins s σ H x y v u Q I rx ry h
  obtain ⟨d, e, hd, he, pd, pe, dm, q⟩ := h
  obtain ⟨as, r1⟩ := Dp.reads I d x v hd rx
  obtain ⟨bs, r2⟩ := Dp.reads I e y u he ry
  exact SeqAt.eq_plain r1 r2 pd pe (by omega) ⟨.bl _, H, I, rfl, q⟩
theorem op_neF (hu : X.A.units + 64 < cLine) : OpR X (compareOp .NotEq) (rNeF X.K) := by
  intro pins s σ H x y v u Q I rx ry h
  obtain ⟨d, e, hd, he, pd, pe, dm, q⟩ := h
  obtain ⟨as, r1⟩ := Dp.reads I d x v hd rx
  obtain ⟨bs, r2⟩ := Dp.reads I e y u he ry
  exact SeqAt.ne_plain r1 r2 pd pe (by omega) ⟨.bl _, H, I, rfl, q⟩
theorem of_eq (hu : X.A.units + 64 < cLine) (hK : Γ.K = X.K := by rfl) : OpF X Γ (compareOp .Eq) fEq := ⟨_, op_eqF hu, fun c x y a b Q E s ra rb h => by
  unfold fEq at h
  by_cases k : eqOk (res c.G a) (res c.G b) = true
  · rw [if_pos k] at h
    unfold eqOk at k
    simp only [Bool.and_eq_true, decide_eq_true_eq] at k
    refine ⟨_, _, hK ▸ res_dp s ra k.1.1, hK ▸ res_dp s rb k.1.2, plain_toD _, plain_toD _, by rw [depth_toD, depth_toD]; exact k.2, ?_⟩
    rw [eqv_toD _ _ k.1.1 k.1.2]
    exact h.pure s (.bl _)
  · rw [if_neg k] at h
    exact h.elim⟩
theorem of_ne (hu : X.A.units + 64 < cLine) (hK : Γ.K = X.K := by rfl) : OpF X Γ (compareOp .NotEq) fNe := ⟨_, op_neF hu, fun c x y a b Q E s ra rb h => by
  unfold fNe at h
  by_cases k : eqOk (res c.G a) (res c.G b) = true
  · rw [if_pos k] at h
    unfold eqOk at k
    simp only [Bool.and_eq_true, decide_eq_true_eq] at k
    refine ⟨_, _, hK ▸ res_dp s ra k.1.1, hK ▸ res_dp s rb k.1.2, plain_toD _, plain_toD _, by rw [depth_toD, depth_toD]; exact k.2, ?_⟩
    rw [eqv_toD _ _ k.1.1 k.1.2]
    exact h.pure s (.bl _)
  · rw [if_neg k] at h
    exact h.elim⟩

/-! ### in, not in, of a list or a tuple -/
def rInF (K : PySem.W.Frag) (neg : Bool) : R2 := fun x y H Q => ∃ d xs e, Dp K H x d ∧ Dp K H y e ∧ (e = .list xs ∨ e = .tuple xs) ∧ d.plain = true ∧ PyData.plainAll xs = true ∧ min (PyData.depthAll xs) d.depth ≤ 60 ∧
  Q (.bl (if neg then !(xs.any fun z => PyData.eqv z d) else xs.any fun z => PyData.eqv z d)) H
theorem op_inF (hu : X.A.units + 64 < cLine) : OpR X (compareOp .In) (rInF X.K false) := by
  intro pins s σ H x y v u Q I rx ry h
  obtain ⟨d, xs, e, hd, he, hc, pd, pe, dm, q⟩ := h
  obtain ⟨as, r1⟩ := Dp.reads I d x v hd rx
  obtain ⟨bs, r2⟩ := Dp.reads I e y u he ry
  rcases hc with rfl | rfl
  · exact SeqAt.in_list_data r2 r1 pe pd (by omega) ⟨.bl _, H, I, rfl, q⟩
  · exact SeqAt.in_tuple_data r2 r1 pe pd (by omega) ⟨.bl _, H, I, rfl, q⟩
theorem op_notInF (hu : X.A.units + 64 < cLine) : OpR X (compareOp .NotIn) (rInF X.K true) := by
  intro pins s σ H x y v u Q I rx ry h
  obtain ⟨d, xs, e, hd, he, hc, pd, pe, dm, q⟩ := h
  obtain ⟨as, r1⟩ := Dp.reads I d x v hd rx
  obtain ⟨bs, r2⟩ := Dp.reads I e y u he ry
  rcases hc with rfl | rfl
  · exact SeqAt.notIn_list_data r2 r1 pe pd (by omega) ⟨.bl _, H, I, rfl, q⟩
  · exact SeqAt.notIn_tuple_data r2 r1 pe pd (by omega) ⟨.bl _, H, I, rfl, q⟩
def inWs (a : W) : List W → Bool
  | [] => false
  | x :: xs => eqW x a || inWs a xs
theorem any_toDs {a : W} (ha : a.pl = true) : ∀ xs : List W, W.pls xs = true → ((W.toDs xs).any fun z => PyData.eqv z a.toD) = inWs a xs
  | [], _ => rfl
  | x :: xs, h => by
    simp only [W.pls, Bool.and_eq_true] at h
    simp only [W.toDs, List.any_cons, inWs, eqv_toD x a h.1 ha, any_toDs ha xs h.2]
/-- the items of a list or tuple that is data -/
def itemsD : W → Option (List W)
  | .lst xs => some xs
  | .tup xs => some xs
  | _ => none
def fIn (neg : Bool) : F2 := fun a b G => match itemsD (res G b) with
  | some xs => if (res G a).pl && W.pls xs && decide (min (W.deps xs) (res G a).dep ≤ 60) then .ok (.bl (if neg then !inWs (res G a) xs else inWs (res G a) xs)) G else .no
  | none => .no
theorem in_ok {neg : Bool} (hK : Γ.K = X.K) (c : Cf) (x y : V) (a b : W) (Q : VK) (E : XK) (s : SR Γ c) (ra : c.Rp Γ x a) (rb : c.Rp Γ y b) (h : Th Γ E (Cf.Rp Γ) c Q (fIn neg a b c.G)) : rInF X.K neg x y c.H Q := by
  unfold fIn at h
  cases e : itemsD (res c.G b) with
  | none => rw [e] at h; exact h.elim
  | some xs =>
    rw [e] at h
    simp only at h
    by_cases k : ((res c.G a).pl && W.pls xs && decide (min (W.deps xs) (res c.G a).dep ≤ 60)) = true
    · rw [if_pos k] at h
      simp only [Bool.and_eq_true, decide_eq_true_eq] at k
      have eb : (res c.G b = .lst xs ∨ res c.G b = .tup xs) := by
        unfold itemsD at e
        split at e
        · rename_i q; cases e; exact .inl q
        · rename_i q; cases e; exact .inr q
        · cases e
      have pb : (res c.G b).pl = true := by rcases eb with q | q <;> rw [q] <;> simpa [W.pl] using k.1.2
      refine ⟨_, W.toDs xs, _, hK ▸ res_dp s ra k.1.1, hK ▸ res_dp s rb pb, ?_, plain_toD _, plains_toD _, by rw [depth_toD, depths_toD]; exact k.2, ?_⟩
      · rcases eb with q | q <;> rw [q]
        · exact .inl rfl
        · exact .inr rfl
      · rw [any_toDs k.1.1 xs k.1.2]
        exact h.pure s (.bl _)
    · rw [if_neg k] at h
      exact h.elim
theorem of_in (hu : X.A.units + 64 < cLine) (hK : Γ.K = X.K := by rfl) : OpF X Γ (compareOp .In) (fIn false) := ⟨_, op_inF hu, in_ok hK⟩
theorem of_notIn (hu : X.A.units + 64 < cLine) (hK : Γ.K = X.K := by rfl) : OpF X Γ (compareOp .NotIn) (fIn true) := ⟨_, op_notInF hu, in_ok hK⟩

/-! ### is None, is True -/
/-- a value that is None, or surely not -/
def isNon : W → Option Bool
  | .non => some true
  | .op _ => none
  | _ => some false
def fIsN (neg : Bool) : F2 := fun a b G => match b, isNon a with
  | .non, some k => .ok (.bl (if neg then !k else k)) G
  | _, _ => .no
theorem isNon_ok {c : Cf} {x : V} {a : W} {k : Bool} (ra : c.Rp Γ x a) (h : isNon a = some k) : decide (x = V.non) = k := by
  cases ra <;> first | (cases h; rfl) | (cases h)
theorem of_is : OpF X Γ (compareOp .Is) (fIsN false) := ⟨_, op_isN, fun c x y a b Q E s ra rb h => by
  unfold fIsN at h
  cases rb with
  | non =>
    cases e : isNon a with
    | none => simp only [e] at h; exact h.elim
    | some k =>
      simp only [e] at h
      rw [isNon_ok ra e]
      exact ⟨rfl, h.pure s (.bl _)⟩
  | _ => exact h.elim⟩
theorem of_isnot : OpF X Γ (compareOp .IsNot) (fIsN true) := ⟨_, op_notN, fun c x y a b Q E s ra rb h => by
  unfold fIsN at h
  cases rb with
  | non =>
    cases e : isNon a with
    | none => simp only [e] at h; exact h.elim
    | some k =>
      simp only [e] at h
      rw [isNon_ok ra e]
      exact ⟨rfl, h.pure s (.bl _)⟩
  | _ => exact h.elim⟩
end
end Fn

set_option Elab.async false
set_option linter.all false
set_option maxRecDepth 100000
namespace Fn
open PySem PySem.Spec PyProof.Rows L2
section
variable {X : Cx} {Γ : Gm} {Z : WXk}

/-! ### x is True, x is not False -/
def plB : W → Option (Option Bool)
  | .bl b => some (some b)
  | .op _ | .cl _ => none
  | _ => some none
def fIsB (neg : Bool) : F2 := fun a b G => match plB a, b with
  | some o, .bl k => .ok (.bl (if neg then !decide (o = some k) else decide (o = some k))) G
  | _, _ => .no
def rIsF (neg : Bool) : R2 := fun x y H Q => ∃ k o, y = .bl k ∧ ((∃ b, x = .bl b ∧ o = some b) ∨ ((∀ b, x ≠ .bl b) ∧ o = none)) ∧ Q (.bl (if neg then !decide (o = some k) else decide (o = some k))) H
theorem isB_plain {x : V} {k : Bool} {v : Value} (rx : RelV x v) (h : ∀ b, x ≠ .bl b) : plainIs v (.bool k) = true ∧ v ≠ .bool k := by
  cases x with
  | bl b => exact absurd rfl (h b)
  | non => cases rx; exact ⟨rfl, fun e => nomatch e⟩
  | int i => obtain ⟨t, rfl⟩ := rx; exact ⟨rfl, fun e => nomatch e⟩
  | str i => obtain ⟨t, rfl⟩ := rx; exact ⟨rfl, fun e => nomatch e⟩
  | byt i => obtain ⟨t, rfl⟩ := rx; exact ⟨rfl, fun e => nomatch e⟩
  | flt i => obtain ⟨t, rfl⟩ := rx; exact ⟨rfl, fun e => nomatch e⟩
  | ref a => cases rx; exact ⟨rfl, fun e => nomatch e⟩
  | ty n => cases rx; exact ⟨rfl, fun e => nomatch e⟩
theorem op_isF : OpR X (compareOp .Is) (rIsF false) := by
  intro pins s σ H x y v u Q I rx ry h
  obtain ⟨k, o, rfl, hx, q⟩ := h
  cases (show u = Value.bool k from ry)
  rcases hx with ⟨b, rfl, rfl⟩ | ⟨hx, rfl⟩
  · exact op_isBl pins s σ H _ (.bl k) v _ Q I rx rfl ⟨b, k, rfl, rfl, by simpa using q⟩
  · obtain ⟨p, n⟩ := isB_plain (k := k) rx hx
    exact wpAny_is_other p n ⟨.bl false, H, I, rfl, by simpa using q⟩
theorem op_isnotF : OpR X (compareOp .IsNot) (rIsF true) := by
  intro pins s σ H x y v u Q I rx ry h
  obtain ⟨k, o, rfl, hx, q⟩ := h
  cases (show u = Value.bool k from ry)
  rcases hx with ⟨b, rfl, rfl⟩ | ⟨hx, rfl⟩
  · exact op_notBl pins s σ H _ (.bl k) v _ Q I rx rfl ⟨b, k, rfl, rfl, by simpa using q⟩
  · obtain ⟨p, n⟩ := isB_plain (k := k) rx hx
    exact wpAny_isNot_other p n ⟨.bl true, H, I, rfl, by simpa using q⟩
theorem plB_ok {c : Cf} {x : V} {a : W} {o : Option Bool} (ra : c.Rp Γ x a) (h : plB a = some o) : (∃ b, x = .bl b ∧ o = some b) ∨ ((∀ b, x ≠ .bl b) ∧ o = none) := by
  cases ra with
  | bl b => cases h; exact .inl ⟨_, rfl, rfl⟩
  | op v => cases h
  | cl v => cases h
  | _ => cases h; exact .inr ⟨fun _ e => (by cases e), rfl⟩
theorem isB_ok {neg : Bool} (c : Cf) (x y : V) (a b : W) (Q : VK) (E : XK) (s : SR Γ c) (ra : c.Rp Γ x a) (rb : c.Rp Γ y b) (h : Th Γ E (Cf.Rp Γ) c Q (fIsB neg a b c.G)) : rIsF neg x y c.H Q := by
  unfold fIsB at h
  cases e : plB a with
  | none => simp only [e] at h; exact h.elim
  | some o =>
    simp only [e] at h
    cases rb with
    | bl k => exact ⟨k, o, rfl, plB_ok ra e, h.pure s (.bl _)⟩
    | _ => exact h.elim
theorem of_isB : OpF X Γ (compareOp .Is) (fIsB false) := ⟨_, op_isF, isB_ok⟩
theorem of_isnotB : OpF X Γ (compareOp .IsNot) (fIsB true) := ⟨_, op_isnotF, isB_ok⟩

/-! ### a + b -/
def rCatL (K : PySem.W.Frag) : R2 := fun x y H Q => ∃ l b xs zs, x = .ref l ∧ y = .ref b ∧ SqL K H l xs ∧ SqL K H b zs ∧ xs.length + zs.length ≤ sizeLine ∧ ∀ p, H p = none → Q (.ref p) (upd H p (.lst (xs ++ zs)))
theorem op_catL : OpR X (binaryOp .Add) (rCatL X.K) := by
  intro pins s σ H x y v u Q I rx ry h
  obtain ⟨l, b, xs, zs, rfl, rfl, hH, hB, hz, q⟩ := h
  cases rx
  cases ry
  obtain ⟨its, r, pl, _⟩ := I.list hH
  obtain ⟨its2, r2, pl2, _⟩ := I.list hB
  obtain ⟨⟨cls, dd, data, sl⟩, n, ho, hc, _, hd⟩ := pl
  obtain ⟨⟨cls2, dd2, data2, sl2⟩, n2, ho2, hc2, _, hd2⟩ := pl2
  simp only at hc hd hc2 hd2
  subst hc hd hc2 hd2
  have l1 := r.length
  have l2 := r2.length
  have ea : its.toArray ++ its2.toArray = (its ++ its2).toArray := by simp
  refine concat_meets ⟨_, ho, rfl⟩ ⟨_, ho2, rfl⟩ noFill_list_add seq_list_add PySem.F.slot_list_add PySem.F.entry_list_add (PySem.F.args_list_add_2 _ _) (list_addW l b its.toArray its2.toArray n n2 dd dd2 sl sl2 (by simp; omega)) ⟨ho, ho2, ?_⟩
  rw [ea]
  exact ⟨.ref _, _, I.lnew (t' := s.toks) (r.append r2) (by rw [List.length_append]; omega), rfl, q _ I.fresh⟩
def fAddL (own : Bool) : F2 := fun a b G => match a, b with
  | .int i, .int j => .ok (.int (i + j)) G
  | .str i, .str j => if i.length + j.length ≤ sizeLine then .ok (.str (i ++ j)) G else .no
  | .tup i, .tup j => if i.length + j.length ≤ sizeLine then .ok (.tup (i ++ j)) G else .no
  | a, b => match lsq G a, lsq G b with
    | some i, some j => if i.length + j.length ≤ sizeLine then mkL own (i ++ j) G else .no
    | _, _ => .no
def rAddF (K : PySem.W.Frag) : R2 := fun x y H Q => rI0 (fun i j => .int (i + j)) x y H Q ∨ (∃ i j, x = .str i ∧ y = .str j ∧ i.length + j.length ≤ sizeLine ∧ Q (.str (i ++ j)) H) ∨ rCatA K x y H Q ∨ rCatL K x y H Q
theorem op_addF : OpR X (binaryOp .Add) (rAddF X.K) := op_add.or (op_add_str.or (op_catA.or op_catL))
theorem addL_ok {own : Bool} {c : Cf} {x y : V} {a b : W} {i j : List W} {Q : VK} {E : XK} (s : SR Γ c) (ra : c.Rp Γ x a) (rb : c.Rp Γ y b) (e1 : lsq c.G a = some i) (e2 : lsq c.G b = some j)
    (h : Th Γ E (Cf.Rp Γ) c Q (if i.length + j.length ≤ sizeLine then mkL own (i ++ j) c.G else .no)) : rCatL Γ.K x y c.H Q := by
  by_cases k : i.length + j.length ≤ sizeLine
  · rw [if_pos k] at h
    obtain ⟨p, xs, rfl, h1, r1⟩ := lsq_ok s e1 ra
    obtain ⟨q, ys, rfl, h2, r2⟩ := lsq_ok s e2 rb
    exact ⟨p, q, xs, ys, rfl, rfl, h1, h2, by rw [r1.length, r2.length]; exact k, fun d hd => mkL_ok s (r1.append r2) h hd⟩
  · rw [if_neg k] at h
    exact h.elim
theorem addT_ok {c : Cf} {x y : V} {i j : List W} {Q : VK} {E : XK} (s : SR Γ c) (ra : c.Rp Γ x (.tup i)) (rb : c.Rp Γ y (.tup j)) (h : Th Γ E (Cf.Rp Γ) c Q (if i.length + j.length ≤ sizeLine then .ok (.tup (i ++ j)) c.G else .no)) : rCatA Γ.K x y c.H Q := by
  by_cases k : i.length + j.length ≤ sizeLine
  · rw [if_pos k] at h
    obtain ⟨p, xs, rfl, h1, r1⟩ := tsq_ok (Γ := Γ) (c := c) rfl ra
    obtain ⟨q, ys, rfl, h2, r2⟩ := tsq_ok (Γ := Γ) (c := c) rfl rb
    refine ⟨p, q, xs, ys, rfl, rfl, h1, h2, by rw [r1.length, r2.length]; exact k, fun e => ?_, fun _ e => ?_, fun _ _ d hd => mkT_ok s (r1.append r2) h hd⟩
    · subst e
      cases r1
      exact h.pure s rb
    · subst e
      cases r2
      rw [List.append_nil] at h
      exact h.pure s ra
  · rw [if_neg k] at h
    exact h.elim
theorem of_add {own : Bool} (hK : Γ.K = X.K := by rfl) : OpF X Γ (binaryOp .Add) (fAddL own) := ⟨_, op_addF, fun c x y a b Q E s ra rb h => by
  unfold fAddL at h
  split at h
  · exact .inl (rI0_int (g := fun i j => i + j) c x y _ _ Q E s ra rb h)
  · rename_i i j
    cases ra
    cases rb
    refine .inr (.inl ⟨i, j, rfl, rfl, ?_⟩)
    by_cases k : i.length + j.length ≤ sizeLine
    · rw [if_pos k] at h
      exact ⟨k, h.pure s (.str _)⟩
    · rw [if_neg k] at h
      exact h.elim
  · exact .inr (.inr (.inl (hK ▸ addT_ok s ra rb h)))
  · split at h
    · exact .inr (.inr (.inr (hK ▸ addL_ok s ra rb (by assumption) (by assumption) h)))
    · exact h.elim⟩

/-! ### truth -/
def truW (G : GH) (w : W) : Option Bool := match w with
  | .non => some false
  | .bl b => some b
  | .int i => some (i != 0)
  | .str y => if y.length ≤ sizeLine then some ((y.length : Int) != 0) else none
  | .tup ws => some (!ws.isEmpty)
  | .lst ws => some (!ws.isEmpty)
  | .ref n => match G.at_ n with
    | some (.lst ws) => some (!ws.isEmpty)
    | some (.dic ks _) => some (!ks.isEmpty)
    | _ => none
  | _ => none
theorem RpAll.empty {O : Addr → Prop} {ι : List Addr} {H : Hp} {vs : List V} {ws : List W} (r : RpAll Γ O ι H vs ws) : vs.isEmpty = ws.isEmpty := by
  cases r <;> rfl
theorem tru_okF {c : Cf} {x : V} {w : W} {k : Bool} (s : SR Γ c) (r : c.Rp Γ x w) (h : truW c.G w = some k) : TruV Γ.K x c.H k := by
  unfold truW at h
  cases r with
  | non => cases h; rfl
  | bl b => cases h; rfl
  | int i => cases h; rfl
  | str y =>
    simp only at h
    by_cases q : y.length ≤ sizeLine
    · rw [if_pos q] at h; cases h; exact ⟨q, rfl⟩
    · rw [if_neg q] at h; cases h
  | tup h1 r => cases h; exact .inr (.inl ⟨_, h1, by rw [r.empty]⟩)
  | lst h1 _ r => cases h; exact .inl ⟨_, .inl h1, by rw [r.empty]⟩
  | lstK h1 h2 h3 h4 h5 h6 r => cases h; exact .inl ⟨_, .inr ⟨_, _, _, h1, h2, h3, h4, h5, h6⟩, by rw [r.empty]⟩
  | @ref n a h1 =>
    simp only at h
    cases e : c.G.at_ n with
    | none => simp [e] at h
    | some o =>
      obtain ⟨b, ho, e1, e2, r⟩ := s.obj n o e
      rw [h1] at e1; cases e1
      cases r with
      | lst r => simp only [e, Option.some.injEq] at h; subst h; exact .inl ⟨_, .inl (.inl e2), by rw [r.empty]⟩
      | @dic ks xs ws l r =>
        simp only [e, Option.some.injEq] at h; subst h
        refine .inr (.inr ⟨_, e2, ?_⟩)
        cases ks with
        | nil => rfl
        | cons k ks =>
          cases xs with
          | nil => simp at l
          | cons x xs => rfl
      | ins _ _ => simp [e] at h
  | dic _ _ _ _ => simp at h
  | dicK _ _ _ => simp at h
  | ins _ _ _ _ => simp at h
  | op _ => simp at h
  | cl _ => simp at h
def asTru (w : W) (G : GH) : R Bool := match truW G w with
  | some b => .ok b G
  | none => .no
def gTru (g : FE) : FT := fun ρ G => (g ρ G).bind asTru
theorem gTru_ok {g : FE} {σ : L2.St} {H : Hp} {Q : Bool → Hp → Prop} (h : absT Γ Z (gTru g) σ H Q) : absE Γ Z g σ H (fun x H' => ∃ k, TruV Γ.K x H' k ∧ Q k H') := by
  obtain ⟨c, ρ, e, s, en, th⟩ := absG.bind h
  refine ⟨c, ρ, e, s, en, Th.mono th fun v c1 st ⟨c2, ρ2, a, e2, s2, en2, ra, q⟩ => ?_⟩
  unfold asTru at q
  cases k : truW c2.G a with
  | none => rw [k] at q; exact q.elim
  | some b =>
    rw [k] at q
    rw [← e2]
    exact ⟨b, tru_okF s2 ra k, q.pure s2 rfl⟩
theorem ft_tru {e : Expr} {g : FE} (h : PE X e (absE Γ Z g)) (hK : Γ.K = X.K := by rfl) (he : ∀ whole, isTrue e X.env whole = (do let v ← whole; standAt e.pos; holding [v] (truthy v)) := by intro _; rfl) : PT X e (absT Γ Z (gTru g)) :=
  PT.imp (pt_truth h he) fun σ H Q q => hK ▸ gTru_ok q

/-! ### and, or, not, if -/
def gNotT (g : FT) : FT := fun ρ G => (g ρ G).bind fun b G => .ok (!b) G
theorem ft_not {a : Expr} {g : FT} {pos : Pos} (h : PT X a (absT Γ Z g)) : PT X (.UnaryOp .Not a pos) (absT Γ Z (gNotT g)) := PT.imp (pt_not h) fun σ H Q q => by
  obtain ⟨c, ρ, e, s, en, th⟩ := absG.bind q
  exact ⟨c, ρ, e, s, en, Th.mono th fun v c1 st ⟨c2, ρ2, a, e2, s2, en2, ra, q⟩ => by subst ra; rw [← e2]; exact q.pure s2 rfl⟩
def gAndT (g1 g2 : FT) : FT := fun ρ G => (g1 ρ G).bind fun b G => if b then g2 ρ G else .ok false G
def gOrT (g1 g2 : FT) : FT := fun ρ G => (g1 ρ G).bind fun b G => if b then .ok true G else g2 ρ G
theorem andT_ok {g1 g2 : FT} {σ : L2.St} {H : Hp} {Q : Bool → Hp → Prop} (q : absT Γ Z (gAndT g1 g2) σ H Q) : tAnd (absT Γ Z g1) (absT Γ Z g2) σ H Q := by
  obtain ⟨c, ρ, e, s, en, th⟩ := absG.bind q
  refine ⟨c, ρ, e, s, en, Th.mono th fun v c1 st ⟨c2, ρ2, a, e2, s2, en2, ra, q⟩ => ?_⟩
  subst ra
  cases v with
  | true => exact ⟨c2, ρ2, e2, s2, en2, q⟩
  | false => rw [← e2]; exact q.pure s2 rfl
theorem orT_ok {g1 g2 : FT} {σ : L2.St} {H : Hp} {Q : Bool → Hp → Prop} (q : absT Γ Z (gOrT g1 g2) σ H Q) : tOr (absT Γ Z g1) (absT Γ Z g2) σ H Q := by
  obtain ⟨c, ρ, e, s, en, th⟩ := absG.bind q
  refine ⟨c, ρ, e, s, en, Th.mono th fun v c1 st ⟨c2, ρ2, a, e2, s2, en2, ra, q⟩ => ?_⟩
  subst ra
  cases v with
  | false => exact ⟨c2, ρ2, e2, s2, en2, q⟩
  | true => rw [← e2]; exact q.pure s2 rfl
theorem PW.imp {e : Expr} {t t' : TT} (h : PW X e t) (m : ∀ σ H Q, t' σ H Q → t σ H Q) : PW X e t' := ⟨fun wh pins s σ H Q I q => h.run wh pins s σ H Q I (m σ H Q q)⟩
theorem fw_and1 {a : Expr} {g : FT} {pos : Pos} (h : PT X a (absT Γ Z g)) : PW X (.BoolOp .And [a] pos) (absT Γ Z g) := pw_and1 h
theorem fw_or1 {a : Expr} {g : FT} {pos : Pos} (h : PT X a (absT Γ Z g)) : PW X (.BoolOp .Or [a] pos) (absT Γ Z g) := pw_or1 h
theorem fw_and {a b : Expr} {rest : List Expr} {g1 g2 : FT} {pos : Pos} (h1 : PT X a (absT Γ Z g1)) (h2 : PW X (.BoolOp .And (b :: rest) pos) (absT Γ Z g2)) : PW X (.BoolOp .And (a :: b :: rest) pos) (absT Γ Z (gAndT g1 g2)) :=
  PW.imp (pw_and h1 h2) fun σ H Q q => andT_ok q
theorem fw_or {a b : Expr} {rest : List Expr} {g1 g2 : FT} {pos : Pos} (h1 : PT X a (absT Γ Z g1)) (h2 : PW X (.BoolOp .Or (b :: rest) pos) (absT Γ Z g2)) : PW X (.BoolOp .Or (a :: b :: rest) pos) (absT Γ Z (gOrT g1 g2)) :=
  PW.imp (pw_or h1 h2) fun σ H Q q => orT_ok q
/-- .. as values -/
def gAnd (g1 g2 : FE) : FE := fun ρ G => (g1 ρ G).bind fun a G1 => match truW G1 a with
  | some true => g2 ρ G1
  | some false => .ok a G1
  | none => .no
def gOr (g1 g2 : FE) : FE := fun ρ G => (g1 ρ G).bind fun a G1 => match truW G1 a with
  | some true => .ok a G1
  | some false => g2 ρ G1
  | none => .no
theorem fe_one {op : BoolOp} {a : Expr} {g : FE} {pos : Pos} (h : PE X a (absE Γ Z g)) : PE X (.BoolOp op [a] pos) (absE Γ Z g) := pe_one h
theorem fe_and {a b : Expr} {rest : List Expr} {g1 g2 : FE} {pos : Pos} (h1 : PE X a (absE Γ Z g1)) (h2 : PE X (.BoolOp .And (b :: rest) pos) (absE Γ Z g2)) (hK : Γ.K = X.K := by rfl) : PE X (.BoolOp .And (a :: b :: rest) pos) (absE Γ Z (gAnd g1 g2)) :=
  PE.imp (pe_andT h1 h2) fun σ H Q q => by
    obtain ⟨c, ρ, e, s, en, th⟩ := absG.bind q
    refine ⟨c, ρ, e, s, en, Th.mono th fun v c1 st ⟨c2, ρ2, a, e2, s2, en2, ra, q⟩ => ?_⟩
    rw [← e2]
    cases k : truW c2.G a with
    | none => simp only [k] at q; exact q.elim
    | some b =>
      refine ⟨b, hK ▸ tru_okF s2 ra k, ?_⟩
      cases b with
      | true => simp only [k] at q; exact ⟨c2, ρ2, rfl, s2, en2, q⟩
      | false => simp only [k] at q; exact q.pure s2 ra
theorem fe_or {a b : Expr} {rest : List Expr} {g1 g2 : FE} {pos : Pos} (h1 : PE X a (absE Γ Z g1)) (h2 : PE X (.BoolOp .Or (b :: rest) pos) (absE Γ Z g2)) (hK : Γ.K = X.K := by rfl) : PE X (.BoolOp .Or (a :: b :: rest) pos) (absE Γ Z (gOr g1 g2)) :=
  PE.imp (pe_orT h1 h2) fun σ H Q q => by
    obtain ⟨c, ρ, e, s, en, th⟩ := absG.bind q
    refine ⟨c, ρ, e, s, en, Th.mono th fun v c1 st ⟨c2, ρ2, a, e2, s2, en2, ra, q⟩ => ?_⟩
    rw [← e2]
    cases k : truW c2.G a with
    | none => simp only [k] at q; exact q.elim
    | some b =>
      refine ⟨b, hK ▸ tru_okF s2 ra k, ?_⟩
      cases b with
      | false => simp only [k] at q; exact ⟨c2, ρ2, rfl, s2, en2, q⟩
      | true => simp only [k] at q; exact q.pure s2 ra
def gNot (g : FE) : FE := fun ρ G => (g ρ G).bind fun a G1 => match truW G1 a with
  | some b => .ok (.bl (!b)) G1
  | none => .no
theorem fe_not {a : Expr} {g : FE} {pos : Pos} (h : PE X a (absE Γ Z g)) (hK : Γ.K = X.K := by rfl) : PE X (.UnaryOp .Not a pos) (absE Γ Z (gNot g)) :=
  PE.imp (pe_notT h) fun σ H Q q => by
    obtain ⟨c, ρ, e, s, en, th⟩ := absG.bind q
    refine ⟨c, ρ, e, s, en, Th.mono th fun v c1 st ⟨c2, ρ2, a, e2, s2, en2, ra, q⟩ => ?_⟩
    rw [← e2]
    cases k : truW c2.G a with
    | none => simp only [k] at q; exact q.elim
    | some b =>
      simp only [k] at q
      exact ⟨b, hK ▸ tru_okF s2 ra k, q.pure s2 (.bl _)⟩
def gIf (t : FT) (a b : FE) : FE := fun ρ G => (t ρ G).bind fun k G => if k then a ρ G else b ρ G
theorem fe_if {t a b : Expr} {gt : FT} {ga gb : FE} {pos : Pos} (ht : PT X t (absT Γ Z gt)) (ha : PE X a (absE Γ Z ga)) (hb : PE X b (absE Γ Z gb)) : PE X (.IfExp t a b pos) (absE Γ Z (gIf gt ga gb)) :=
  PE.imp (pe_ifExp ht ha hb) fun σ H Q q => by
    obtain ⟨c, ρ, e, s, en, th⟩ := absG.bind q
    refine ⟨c, ρ, e, s, en, Th.mono th fun v c1 st ⟨c2, ρ2, a, e2, s2, en2, ra, q⟩ => ?_⟩
    subst ra
    cases v with
    | true => exact ⟨c2, ρ2, e2, s2, en2, q⟩
    | false => exact ⟨c2, ρ2, e2, s2, en2, q⟩
def gNeg (g : FE) : FE := fun ρ G => (g ρ G).bind fun a G1 => match a with
  | .int i => .ok (.int (-i)) G1
  | _ => .no
theorem fe_neg {a : Expr} {g : FE} {pos : Pos} (h : PE X a (absE Γ Z g)) : PE X (.UnaryOp .USub a pos) (absE Γ Z (gNeg g)) :=
  PE.imp (pe_un un_neg h) fun σ H Q q => by
    obtain ⟨c, ρ, e, s, en, th⟩ := absG.bind q
    refine ⟨c, ρ, e, s, en, Th.mono th fun v c1 st ⟨c2, ρ2, a, e2, s2, en2, ra, q⟩ => ?_⟩
    rw [← e2]
    cases ra with
    | int i => exact ⟨i, rfl, q.pure s2 (.int _)⟩
    | _ => exact q.elim

/-! ### argument lists, displays -/
def gNil : FA := fun _ G => .ok [] G
def gCons (g : FE) (r : FA) : FA := fun ρ G => (g ρ G).bind fun w G1 => (r ρ G1).bind fun ws G2 => .ok (w :: ws) G2
theorem fa_nil : PA X [] (absA Γ Z gNil) := PA.imp pa_nil fun σ H Q ⟨c, ρ, e, s, en, th⟩ => by
  subst e
  exact Th.pure s th (.nil)
theorem fa_cons {e : Expr} {es : List Expr} {g : FE} {r : FA} (ha : PE X e (absE Γ Z g)) (hr : PA X es (absA Γ Z r)) (hs : starEach (e :: es) X.env = (false, eval e X.env) :: starEach es X.env := by rfl) : PA X (e :: es) (absA Γ Z (gCons g r)) :=
  PA.imp (pa_cons ha hr hs) fun σ H Q q => by
    obtain ⟨c, ρ, e, s, en, th⟩ := absG.bind q
    refine ⟨c, ρ, e, s, en, Th.mono th fun v c1 st ⟨c2, ρ2, a, e2, s2, en2, ra, q⟩ => ?_⟩
    refine ⟨c2, ρ2, e2, s2, en2, Th.mono (Th.bind q) fun vs c3 st3 ⟨c4, b, e4, st4, s4, rb, q4⟩ => ?_⟩
    rw [← e4]
    exact q4.pure s4 (.cons (st4.rp s2 ra) rb)
def gTup (g : FA) : FE := fun ρ G => (g ρ G).bind fun ws G1 => if ws.length ≤ sizeLine then .ok (.tup ws) G1 else .no
def gLst (own : Bool) (g : FA) : FE := fun ρ G => (g ρ G).bind fun ws G1 => if ws.length ≤ sizeLine then mkL own ws G1 else .no
theorem fe_tup {es : List Expr} {g : FA} {k : Nat} {pos : Pos} (h : PA X es (absA Γ Z g)) : PE X (.Tuple es k pos) (absE Γ Z (gTup g)) := PE.imp (pe_tup h) fun σ H Q q => by
  obtain ⟨c, ρ, e, s, en, th⟩ := absG.bind q
  refine ⟨c, ρ, e, s, en, Th.mono th fun v c1 st ⟨c2, ρ2, a, e2, s2, en2, ra, q⟩ => ?_⟩
  rw [← e2]
  by_cases k : a.length ≤ sizeLine
  · rw [if_pos k] at q
    exact ⟨by rw [ra.length]; exact k, fun p hp => mkT_ok s2 ra q hp⟩
  · rw [if_neg k] at q
    exact q.elim
theorem fe_lst {own : Bool} {es : List Expr} {g : FA} {pos : Pos} (h : PA X es (absA Γ Z g)) : PE X (.List es pos) (absE Γ Z (gLst own g)) := PE.imp (pe_lst h) fun σ H Q q => by
  obtain ⟨c, ρ, e, s, en, th⟩ := absG.bind q
  refine ⟨c, ρ, e, s, en, Th.mono th fun v c1 st ⟨c2, ρ2, a, e2, s2, en2, ra, q⟩ => ?_⟩
  rw [← e2]
  by_cases k : a.length ≤ sizeLine
  · rw [if_pos k] at q
    exact ⟨by rw [ra.length]; exact k, fun p hp => mkL_ok s2 ra q hp⟩
  · rw [if_neg k] at q
    exact q.elim

/-! ### a[i] -/
theorem RpAll.atI {c : Cf} {xs : List V} {ws : List W} {i : Int} {w : W} (r : c.RpAll Γ xs ws) (h : L2.atI ws i = some w) : ∃ v, L2.atI xs i = some v ∧ c.Rp Γ v w := by
  unfold L2.atI at h ⊢
  rw [r.length]
  cases e : ixN ws.length i with
  | none => rw [e] at h; cases h
  | some j => rw [e] at h; exact r.get h
def fIx : F2 := fun a b G => match b with
  | .int i => match a with
    | .str z => if z.length ≤ sizeLine then match L2.atI z.cps.toList i with
        | some c => .ok (.str ⟨#[c]⟩) G
        | none => .no
      else .no
    | a => match sqs G a with
      | some ws => match L2.atI ws i with
        | some w => .ok w G
        | none => .no
      | none => .no
  | _ => .no
theorem ixS_ok {c : Cf} {x y : V} {a : W} {i : Int} {ws : List W} {w : W} {Q : VK} {E : XK} (s : SR Γ c) (ra : c.Rp Γ x a) (e1 : sqs c.G a = some ws) (e2 : L2.atI ws i = some w) (h : Th Γ E (Cf.Rp Γ) c Q (.ok w c.G)) : rIx Γ.K x (.int i) c.H Q := by
  obtain ⟨p, xs, rfl, hq, r⟩ := sqs_ok s e1 ra
  obtain ⟨v, ev, rv⟩ := r.atI e2
  rcases hq with hq | hq
  · exact .inl ⟨p, xs, i, v, rfl, rfl, hq, ev, h.pure s rv⟩
  · exact .inr (.inl ⟨p, xs, i, v, rfl, rfl, hq, ev, h.pure s rv⟩)
theorem ix_ok (c : Cf) (x y : V) (a b : W) (Q : VK) (E : XK) (s : SR Γ c) (ra : c.Rp Γ x a) (rb : c.Rp Γ y b) (h : Th Γ E (Cf.Rp Γ) c Q (fIx a b c.G)) : rIx Γ.K x y c.H Q := by
  unfold fIx at h
  cases rb with
  | int i =>
    simp only at h
    split at h
    · rename_i z
      cases ra
      by_cases k : z.length ≤ sizeLine
      · rw [if_pos k] at h
        split at h
        · rename_i ch e
          exact .inr (.inr ⟨z, i, ch, rfl, rfl, k, e, h.pure s (.str _)⟩)
        · exact h.elim
      · rw [if_neg k] at h
        exact h.elim
    · split at h
      · split at h
        · exact ixS_ok (y := .int i) s ra (by assumption) (by assumption) h
        · exact h.elim
      · exact h.elim
  | _ => exact h.elim
theorem fe_ix {a b : Expr} {ga gb : FE} {pos : Pos} (ha : PE X a (absE Γ Z ga)) (hb : PE X b (absE Γ Z gb)) (hs : PlainIx b := by exact fun _ _ => rfl) (hK : Γ.K = X.K := by rfl) : PE X (.Subscript a b pos) (absE Γ Z (gOp fIx ga gb)) :=
  PE.imp (pe_ix ix_seq ha hb hs) fun σ H Q q => op_ok (fun c x y a b Q E s ra rb h => hK ▸ ix_ok c x y a b Q E s ra rb h) q

/-! ### a[i:j] -/
abbrev FO := En → GH → R (Option Int)
abbrev absO (Γ : Gm) (Z : WXk) (g : FO) : TO := absG Γ Z (fun _ b b' => b = b') g
def gNoPart : FO := fun _ G => .ok none G
def gPart (g : FE) : FO := fun ρ G => (g ρ G).bind fun w G1 => match w with
  | .int i => .ok (some i) G1
  | _ => .no
theorem PO.imp {e : Option Expr} {t t' : TO} (h : PO X e t) (m : ∀ σ H Q, t' σ H Q → t σ H Q) : PO X e t' := ⟨fun pins s σ H Q I q => h.run pins s σ H Q I (m σ H Q q)⟩
theorem fo_none : PO X none (absO Γ Z gNoPart) := PO.imp po_none fun σ H Q ⟨c, ρ, e, s, en, th⟩ => by
  subst e
  exact Th.pure (v := none) s th rfl
theorem fo_some {e : Expr} {g : FE} (h : PE X e (absE Γ Z g)) : PO X (some e) (absO Γ Z (gPart g)) := PO.imp (po_some h) fun σ H Q q => by
  obtain ⟨c, ρ, e, s, en, th⟩ := absG.bind q
  refine ⟨c, ρ, e, s, en, Th.mono th fun v c1 st ⟨c2, ρ2, a, e2, s2, en2, ra, q⟩ => ?_⟩
  rw [← e2]
  cases ra with
  | int i => exact ⟨i, rfl, q.pure s2 rfl⟩
  | _ => exact q.elim
def cutW (ws : List W) (lo hi : Option Int) : List W := (ws.drop (HT.sIx ws.length 0 lo)).take (HT.sIx ws.length ws.length hi - HT.sIx ws.length 0 lo)
theorem RpAll.cut {c : Cf} {xs : List V} {ws : List W} (r : c.RpAll Γ xs ws) (lo hi : Option Int) : c.RpAll Γ (cutV xs lo hi) (cutW ws lo hi) := by
  unfold cutV cutW
  rw [r.length]
  exact (r.drop _).take _
def fSl (own : Bool) (w : W) (lo hi : Option Int) (G : GH) : R W := match w with
  | .tup ws => .ok (.tup (cutW ws lo hi)) G
  | w => match lsq G w with
    | some ws => mkL own (cutW ws lo hi) G
    | none => .no
def gSl (own : Bool) (g : FE) (lo hi : FO) : FE := fun ρ G => (g ρ G).bind fun w G1 => (lo ρ G1).bind fun l G2 => (hi ρ G2).bind fun h G3 => fSl own w l h G3
def rSlF (K : PySem.W.Frag) : V → Option Int → Option Int → Hp → VK → Prop := fun x lo hi H Q => rSlL K x lo hi H Q ∨ rSlA K x lo hi H Q
theorem sl_F : SlR X (rSlF X.K) := sl_list.or sl_tupA
theorem sl_ok {own : Bool} {c : Cf} {x : V} {a : W} {lo hi : Option Int} {Q : VK} {E : XK} (s : SR Γ c) (ra : c.Rp Γ x a) (h : Th Γ E (Cf.Rp Γ) c Q (fSl own a lo hi c.G)) : rSlF Γ.K x lo hi c.H Q := by
  unfold fSl at h
  split at h
  · rename_i ws
    obtain ⟨p, xs, rfl, hq, r⟩ := tsq_ok (Γ := Γ) (c := c) rfl ra
    refine .inr ⟨p, xs, rfl, hq, fun e => ?_, fun _ d hd => mkT_ok s (r.cut lo hi) h hd⟩
    have ec : cutW ws lo hi = ws := by
      unfold cutW
      rw [← r.length, e.1, e.2, List.drop_zero, Nat.sub_zero, r.length]
      exact List.take_length
    rw [ec] at h
    exact h.pure s ra
  · split at h
    · obtain ⟨p, xs, rfl, hq, r⟩ := lsq_ok s (by assumption) ra
      exact .inl ⟨p, xs, rfl, hq, fun d hd => mkL_ok s (r.cut lo hi) h hd⟩
    · exact h.elim
theorem fe_sl {own : Bool} {e : Expr} {lo hi : Option Expr} {g : FE} {gl gh : FO} {p2 pos : Pos} (he : PE X e (absE Γ Z g)) (hl : PO X lo (absO Γ Z gl)) (hu : PO X hi (absO Γ Z gh)) (hK : Γ.K = X.K := by rfl) : PE X (.Subscript e (.Slice lo hi none p2) pos) (absE Γ Z (gSl own g gl gh)) :=
  PE.imp (pe_slice sl_F he hl hu) fun σ H Q q => by
    obtain ⟨c, ρ, e, s, en, th⟩ := absG.bind q
    refine ⟨c, ρ, e, s, en, Th.mono th fun v c1 st ⟨c2, ρ2, a, e2, s2, en2, ra, q⟩ => ?_⟩
    refine ⟨c2, ρ2, e2, s2, en2, Th.mono (Th.bind q) fun l c3 st3 ⟨c4, b, e4, st4, s4, rb, q4⟩ => ?_⟩
    subst rb
    refine ⟨c4, ρ2, e4, s4, st4.en s2 en2, Th.mono (Th.bind q4) fun u c5 st5 ⟨c6, b6, e6, st6, s6, rb6, q6⟩ => ?_⟩
    subst rb6
    rw [← e6]
    exact hK ▸ sl_ok s6 (st6.rp s4 (st4.rp s2 ra)) q6
/-- an owned thing is taken as a value from here on -/
def frz (w : W) (G : GH) : R W := match w with
  | .ref n => match G.at_ n with
    | some (.lst ws) => .ok (.lst ws) (G.del n)
    | some (.dic ks ws) => .ok (.dic ks ws) (G.del n)
    | some (.ins k fs ws) => .ok (.ins k fs ws) (G.del n)
    | none => .no
  | .non => .ok .non G
  | _ => .no
def gFrz (g : FE) : FE := fun ρ G => (g ρ G).bind frz
theorem fe_frz {e : Expr} {g : FE} (h : PE X e (absE Γ Z g)) : PE X e (absE Γ Z (gFrz g)) := PE.imp h fun σ H Q q => by
  obtain ⟨c, ρ, e, s, en, th⟩ := absG.bind q
  refine ⟨c, ρ, e, s, en, Th.mono th fun v c1 st ⟨c2, ρ2, a, e2, s2, en2, ra, q⟩ => ?_⟩
  rw [← e2]
  unfold frz at q
  cases ra with
  | @ref n p hn =>
    simp only at q
    cases e : c2.G.at_ n with
    | none => simp only [e] at q; exact q.elim
    | some o =>
      obtain ⟨b, ho, e1, eb, r⟩ := s2.obj n o e
      rw [hn] at e1; cases e1
      obtain ⟨st', s', no⟩ := del_own s2 hn
      cases r with
      | lst r => simp only [e] at q; exact q ⟨c2.ι, c2.G.del n, c2.H, c2.B⟩ _ st' s' rfl (.lst (.inl eb) no (st'.rpAll s2 r))
      | dic l r => simp only [e] at q; exact q ⟨c2.ι, c2.G.del n, c2.H, c2.B⟩ _ st' s' rfl (.dic (.inl eb) l no (st'.rpAll s2 r))
      | ins l r => simp only [e] at q; exact q ⟨c2.ι, c2.G.del n, c2.H, c2.B⟩ _ st' s' rfl (.ins eb l no (st'.rpAll s2 r))
  | non => exact Th.pure s2 q .non
  | _ => exact q.elim
end
end Fn

set_option Elab.async false
set_option linter.all false
set_option maxRecDepth 100000
namespace Fn
open PySem PySem.Spec PyProof.Rows L2

inductive RS where
  | nx (ρ : En) (G : GH)
  | rt (w : W) (G : GH)
  | bk (ρ : En) (G : GH)
  | ct (ρ : En) (G : GH)
  | ex (x : Xn) (ρ : En) (G : GH)
  | no
abbrev FS := En → GH → RS
def RS.seq (r : RS) (f : En → GH → RS) : RS := match r with
  | .nx ρ G => f ρ G
  | .rt w G => .rt w G
  | .bk ρ G => .bk ρ G
  | .ct ρ G => .ct ρ G
  | .ex x ρ G => .ex x ρ G
  | .no => .no
/-- behind an expression: its value, or its exception -/
def R.thn {α : Type} (r : R α) (ρ : En) (f : α → GH → RS) : RS := match r with
  | .ok a G => f a G
  | .ex x G => .ex x ρ G
  | .no => .no

def ThS (Γ : Gm) (Z : WXk) (D : Ends) (c : Cf) : RS → Prop
  | .nx ρ G => ∀ (c' : Cf) (σ : L2.St), Stp c c' → SR Γ c' → c'.G = G → c'.En Γ ρ σ → D.nx σ c'.H
  | .rt w G => ∀ (c' : Cf) (v : V), Stp c c' → SR Γ c' → c'.G = G → c'.Rp Γ v w → D.rt v c'.H
  | .bk ρ G => ∀ (c' : Cf) (σ : L2.St), Stp c c' → SR Γ c' → c'.G = G → c'.En Γ ρ σ → D.bk σ c'.H
  | .ct ρ G => ∀ (c' : Cf) (σ : L2.St), Stp c c' → SR Γ c' → c'.G = G → c'.En Γ ρ σ → D.ct σ c'.H
  | .ex x ρ G => ∀ (c' : Cf) (σ : L2.St) (cls : Value) (d : Option Addr), Stp c c' → SR Γ c' → c'.G = G → c'.En Γ ρ σ → RX Γ c' x cls d → Z cls d σ c'.H
  | .no => False
theorem ThS.from {Γ : Gm} {Z : WXk} {D : Ends} {c c1 : Cf} {r : RS} (st : Stp c c1) (h : ThS Γ Z D c r) : ThS Γ Z D c1 r := by
  cases r with
  | nx ρ G => exact fun c' σ a b e r => h c' σ (st.trans a) b e r
  | rt w G => exact fun c' v a b e r => h c' v (st.trans a) b e r
  | bk ρ G => exact fun c' σ a b e r => h c' σ (st.trans a) b e r
  | ct ρ G => exact fun c' σ a b e r => h c' σ (st.trans a) b e r
  | ex x ρ G => exact fun c' σ cls d a b e r => h c' σ cls d (st.trans a) b e r
  | no => exact h
def absS (Γ : Gm) (Z : WXk) (g : FS) : TS := fun D σ H => ∃ (c : Cf) (ρ : En), c.H = H ∧ SR Γ c ∧ c.En Γ ρ σ ∧ ThS Γ Z D c (g ρ c.G)
/-- an expression ahead of a rest -/
theorem ThS.bind {α β : Type} {Γ : Gm} {Z : WXk} {rel : Cf → β → α → Prop} {r : R α} {f : α → GH → RS} {D : Ends} {c : Cf} {ρ : En} {σ : L2.St} (s : SR Γ c) (en : c.En Γ ρ σ) (th : ThS Γ Z D c (r.thn ρ f)) :
    Th Γ (fun cls d H' => Z cls d σ H') rel c (fun v H1 => ∃ (c' : Cf) (a : α), c'.H = H1 ∧ Stp c c' ∧ SR Γ c' ∧ c'.En Γ ρ σ ∧ rel c' v a ∧ ThS Γ Z D c' (f a c'.G)) r := by
  cases r with
  | ok a G =>
    intro c1 v s1 s2 e1 r
    subst e1
    exact ⟨c1, a, rfl, s1, s2, s1.en s en, r, ThS.from s1 th⟩
  | ex x G => exact fun c1 cls d s1 s2 e1 r => th c1 σ cls d s1 s2 e1 (s1.en s en) r
  | no => exact th.elim
theorem absS.bind {α β : Type} {Γ : Gm} {Z : WXk} {rel : Cf → β → α → Prop} {g : En → GH → R α} {f : En → α → GH → RS} {D : Ends} {σ : L2.St} {H : Hp}
    (h : absS Γ Z (fun ρ G => (g ρ G).thn ρ (f ρ)) D σ H) :
    absG Γ Z rel g σ H (fun v H1 => ∃ (c : Cf) (ρ : En) (a : α), c.H = H1 ∧ SR Γ c ∧ c.En Γ ρ σ ∧ rel c v a ∧ ThS Γ Z D c (f ρ a c.G)) := by
  obtain ⟨c, ρ, e, s, en, th⟩ := h
  exact ⟨c, ρ, e, s, en, Th.mono (ThS.bind s en th) fun v c1 st ⟨c2, a, e2, st2, s2, en2, ra, q⟩ => ⟨c2, ρ, a, e2, s2, en2, ra, q⟩⟩

section
variable {X : Cx} {Γ : Gm} {Z : WXk}
def gNext : FS := fun ρ G => .nx ρ G
@[irreducible] def gSeq (a b : FS) : FS := fun ρ G => (a ρ G).seq b
theorem fss_nil : PSs X [] (absS Γ Z gNext) := PSs.imp pss_nil fun D σ H ⟨c, ρ, e, s, en, th⟩ => by
  subst e
  exact th c σ (Stp.refl c) s rfl en
theorem fss_one {st : Stmt} {g : FS} (h : PS X st (absS Γ Z g)) : PSs X [st] (absS Γ Z g) := pss_one h
theorem seq_ok {a b : FS} {D : Ends} {σ : L2.St} {H : Hp} (h : absS Γ Z (gSeq a b) D σ H) : absS Γ Z a { D with nx := absS Γ Z b D } σ H := by
  obtain ⟨c, ρ, e, s, en, th⟩ := h
  refine ⟨c, ρ, e, s, en, ?_⟩
  unfold gSeq at th
  cases k : a ρ c.G with
  | nx ρ1 G1 =>
    rw [k] at th
    intro c1 σ1 s1 s2 e1 en1
    subst e1
    exact ⟨c1, ρ1, rfl, s2, en1, ThS.from s1 th⟩
  | rt w G => rw [k] at th; exact th
  | bk ρ1 G => rw [k] at th; exact th
  | ct ρ1 G => rw [k] at th; exact th
  | ex x ρ1 G => rw [k] at th; exact th
  | no => rw [k] at th; exact th
theorem fss_cons {st : Stmt} {rest : List Stmt} {a b : FS} (h1 : PS X st (absS Γ Z a)) (h2 : PSs X rest (absS Γ Z b)) : PSs X (st :: rest) (absS Γ Z (gSeq a b)) := PSs.imp (pss_cons h1 h2) fun D σ H q => seq_ok q
def gBrk : FS := fun ρ G => .bk ρ G
def gCnt : FS := fun ρ G => .ct ρ G
theorem fs_pass {pos : Pos} : PS X (.Pass pos) (absS Γ Z gNext) := PS.imp ps_pass fun D σ H ⟨c, ρ, e, s, en, th⟩ => by
  subst e
  exact th c σ (Stp.refl c) s rfl en
theorem fs_brk {pos : Pos} : PS X (.Break pos) (absS Γ Z gBrk) := PS.imp ps_break fun D σ H ⟨c, ρ, e, s, en, th⟩ => by
  subst e
  exact th c σ (Stp.refl c) s rfl en
theorem fs_cnt {pos : Pos} : PS X (.Continue pos) (absS Γ Z gCnt) := PS.imp ps_continue fun D σ H ⟨c, ρ, e, s, en, th⟩ => by
  subst e
  exact th c σ (Stp.refl c) s rfl en
def gRet (g : FE) : FS := fun ρ G => (g ρ G).thn ρ fun w G1 => .rt w G1
theorem fs_ret {e : Expr} {g : FE} {pos : Pos} (h : PE X e (absE Γ Z g)) : PS X (.Return (some e) pos) (absS Γ Z (gRet g)) := PS.imp (ps_ret h) fun D σ H q => by
  obtain ⟨c, ρ, e, s, en, th⟩ := absS.bind (rel := Cf.Rp Γ) q
  exact ⟨c, ρ, e, s, en, Th.mono th fun v c1 st ⟨c2, ρ2, a, e2, s2, en2, ra, q⟩ => by rw [← e2]; exact q c2 v (Stp.refl c2) s2 rfl ra⟩
def gRetN : FS := fun ρ G => .rt .non G
theorem fs_retN {pos : Pos} : PS X (.Return none pos) (absS Γ Z gRetN) := PS.imp ps_retN fun D σ H ⟨c, ρ, e, s, en, th⟩ => by
  subst e
  exact th c .non (Stp.refl c) s rfl .non
def gDrop (g : FE) : FS := fun ρ G => (g ρ G).thn ρ fun _ G1 => .nx ρ G1
theorem fs_expr {e : Expr} {g : FE} {pos : Pos} (h : PE X e (absE Γ Z g)) (hs : swapsWith e none pos.line X.env = pure false := by rfl) : PS X (.Expr e pos) (absS Γ Z (gDrop g)) := PS.imp (ps_expr h hs) fun D σ H q => by
  obtain ⟨c, ρ, e, s, en, th⟩ := absS.bind (rel := Cf.Rp Γ) q
  exact ⟨c, ρ, e, s, en, Th.mono th fun v c1 st ⟨c2, ρ2, a, e2, s2, en2, ra, q⟩ => by rw [← e2]; exact q c2 σ (Stp.refl c2) s2 rfl en2⟩
def gIfS (t : FT) (a b : FS) : FS := fun ρ G => (t ρ G).thn ρ fun k G1 => if k then a ρ G1 else b ρ G1
theorem fs_if {t : Expr} {a b : List Stmt} {gt : FT} {ga gb : FS} {pos : Pos} (ht : PT X t (absT Γ Z gt)) (ha : PSs X a (absS Γ Z ga)) (hb : PSs X b (absS Γ Z gb)) : PS X (.If t a b pos) (absS Γ Z (gIfS gt ga gb)) := PS.imp (ps_if ht ha hb) fun D σ H q => by
  obtain ⟨c, ρ, e, s, en, th⟩ := absS.bind (rel := fun _ b b' => b = b') q
  refine ⟨c, ρ, e, s, en, Th.mono th fun v c1 st ⟨c2, ρ2, a, e2, s2, en2, ra, q⟩ => ?_⟩
  subst ra
  cases v with
  | true => exact ⟨c2, ρ2, e2, s2, en2, q⟩
  | false => exact ⟨c2, ρ2, e2, s2, en2, q⟩

/-! ### targets -/
abbrev FG := W → En → GH → RS
/-- a target's reading: only nx comes of it -/
def Agr (sl : List Nat) (σ σ' : L2.St) : Prop := σ'.length = σ.length ∧ ∀ i, i ∉ sl → σ'[i]? = σ[i]?
theorem Agr.refl (sl : List Nat) (σ : L2.St) : Agr sl σ σ := ⟨rfl, fun _ _ => rfl⟩
theorem Agr.trans {a b : List Nat} {σ σ1 σ2 : L2.St} (x : Agr a σ σ1) (y : Agr b σ1 σ2) : Agr (a ++ b) σ σ2 := ⟨y.1.trans x.1, fun i h => by
  rw [List.mem_append, not_or] at h
  rw [y.2 i h.2, x.2 i h.1]⟩
def absG1 (Γ : Gm) (sl : List Nat) (g : W → En → GH → Option (En × GH)) : TG := fun v σ H Q => ∃ (c : Cf) (ρ : En) (w : W), c.H = H ∧ SR Γ c ∧ c.En Γ ρ σ ∧ c.Rp Γ v w ∧
  match g w ρ c.G with
  | some (ρ', G') => ∀ (c' : Cf) (σ' : L2.St), Stp c c' → SR Γ c' → c'.G = G' → c'.En Γ ρ' σ' → Agr sl σ σ' → Q σ' c'.H
  | none => False
abbrev FG1 := W → En → GH → Option (En × GH)
abbrev FGs := List W → En → GH → Option (En × GH)
def absGs (Γ : Gm) (sl : List Nat) (g : FGs) : TGs := fun vs σ H Q => ∃ (c : Cf) (ρ : En) (ws : List W), c.H = H ∧ SR Γ c ∧ c.En Γ ρ σ ∧ c.RpAll Γ vs ws ∧
  match g ws ρ c.G with
  | some (ρ', G') => ∀ (c' : Cf) (σ' : L2.St), Stp c c' → SR Γ c' → c'.G = G' → c'.En Γ ρ' σ' → Agr sl σ σ' → Q σ' c'.H
  | none => False
theorem PG.imp {e : Expr} {t t' : TG} (h : PG X e t) (m : ∀ v σ H Q, t' v σ H Q → t v σ H Q) : PG X e t' := ⟨fun pins s σ H v u Q I r q => h.run pins s σ H v u Q I r (m v σ H Q q)⟩
theorem PGs.imp {e : List Expr} {t t' : TGs} (h : PGs X e t) (m : ∀ v σ H Q, t' v σ H Q → t v σ H Q) : PGs X e t' := ⟨fun pins s σ H v u Q I r q => h.run pins s σ H v u Q I r (m v σ H Q q)⟩
def tgName (i : Nat) : FG1 := fun w ρ G => some (ρ.set i (some w), G)
theorem fg_name {i : Nat} {e : Expr} (h : PG X e (gName i)) : PG X e (absG1 Γ [i] (tgName i)) := PG.imp h fun v σ H Q ⟨c, ρ, w, e, s, en, r, q⟩ => by
  subst e
  exact q c _ (Stp.refl c) s rfl (en.set r i) ⟨List.length_set, fun j h => List.getElem?_set_ne (fun z => h (by simp [z]))⟩
def tgNil : FGs := fun ws ρ G => match ws with
  | [] => some (ρ, G)
  | _ => none
def tgCons (g : FG1) (r : FGs) : FGs := fun ws ρ G => match ws with
  | [] => none
  | w :: ws => match g w ρ G with
    | some (ρ', G') => r ws ρ' G'
    | none => none
theorem fgs_nil : PGs X [] (absGs Γ [] tgNil) := PGs.imp pgs_nil fun vs σ H Q ⟨c, ρ, ws, e, s, en, r, q⟩ => by
  subst e
  cases r with
  | nil => exact ⟨rfl, q c _ (Stp.refl c) s rfl en (Agr.refl _ _)⟩
  | cons _ _ => exact q.elim
theorem fgs_cons {e : Expr} {es : List Expr} {g : FG1} {r : FGs} {sl sl' : List Nat} (h1 : PG X e (absG1 Γ sl g)) (h2 : PGs X es (absGs Γ sl' r)) (hs : (assignEach (e :: es) X.env).map (·.2) = assign e X.env :: (assignEach es X.env).map (·.2) := by rfl) :
    PGs X (e :: es) (absGs Γ (sl ++ sl') (tgCons g r)) := PGs.imp (pgs_cons h1 h2 hs) fun vs σ H Q ⟨c, ρ, ws, e, s, en, rr, q⟩ => by
  cases rr with
  | nil => exact q.elim
  | @cons v w vs ws h t =>
    refine ⟨v, vs, rfl, c, ρ, w, e, s, en, h, ?_⟩
    simp only [tgCons] at q
    cases k : g w ρ c.G with
    | none => rw [k] at q; exact q.elim
    | some p =>
      obtain ⟨ρ', G'⟩ := p
      rw [k] at q
      simp only at q ⊢
      intro c1 σ1 s1 s2 e1 en1 ag1
      subst e1
      refine ⟨c1, ρ', ws, rfl, s2, en1, s1.rpAll s t, ?_⟩
      cases k2 : r ws ρ' c1.G with
      | none => rw [k2] at q; exact q.elim
      | some p2 =>
        obtain ⟨ρ2, G2⟩ := p2
        rw [k2] at q
        exact fun c' σ' a b e d ag => q c' σ' (s1.trans a) b e d (ag1.trans ag)
def tgTup (n : Nat) (r : FGs) : FG1 := fun w ρ G => match w with
  | .tup ws => if ws.length = n then r ws ρ G else none
  | _ => none
theorem fg_tup {es : List Expr} {k : Nat} {r : FGs} {n : Nat} {pos : Pos} {sl : List Nat} (hc : X.calm = true) (h : PGs X es (absGs Γ sl r)) (hn : (assignEach es X.env).length = n := by rfl) (hst : (assignEach es X.env).findIdx? (·.1) = none := by rfl) (hK : Γ.K = X.K := by rfl) :
    PG X (.Tuple es k pos) (absG1 Γ sl (tgTup n r)) := PG.imp (pg_tup hc h hn hst) fun v σ H Q ⟨c, ρ, w, e, s, en, rr, q⟩ => by
  cases rr with
  | @tup a xs ws h1 r1 =>
    simp only [tgTup] at q
    by_cases k : ws.length = n
    · rw [if_pos k] at q
      subst e
      exact ⟨a, xs, rfl, hK ▸ h1, by rw [r1.length]; exact k, c, ρ, ws, rfl, s, en, r1, q⟩
    · rw [if_neg k] at q
      exact q.elim
  | _ => exact q.elim
def gAsg (g : FE) (t : FG1) : FS := fun ρ G => (g ρ G).thn ρ fun w G1 => match t w ρ G1 with
  | some (ρ', G') => .nx ρ' G'
  | none => .no
theorem asg_ok {g : FE} {t : FG1} {sl : List Nat} {D : Ends} {σ : L2.St} {H : Hp} (q : absS Γ Z (gAsg g t) D σ H) : absE Γ Z g σ H (fun v H1 => absG1 Γ sl t v σ H1 D.nx) := by
  obtain ⟨c, ρ, e, s, en, th⟩ := absS.bind (rel := Cf.Rp Γ) q
  refine ⟨c, ρ, e, s, en, Th.mono th fun v c1 st ⟨c2, ρ2, a, e2, s2, en2, ra, q⟩ => ?_⟩
  refine ⟨c2, ρ2, a, e2, s2, en2, ra, ?_⟩
  cases k : t a ρ2 c2.G with
  | none => rw [k] at q; exact q.elim
  | some p => rw [k] at q; exact fun c' σ' a b e d _ => q c' σ' a b e d
theorem fs_asg {tg e : Expr} {g : FE} {t : FG1} {sl : List Nat} {pos : Pos} (he : PE X e (absE Γ Z g)) (hg : PG X tg (absG1 Γ sl t)) (hs : swapsWithSole [tg] e pos.line X.env = pure false := by rfl) (hw : swappedStores [tg] e X.env = pure none := by rfl)
    (h1 : (assignEach [tg] X.env).map (·.2) = [assign tg X.env] := by rfl) : PS X (.Assign [tg] e pos) (absS Γ Z (gAsg g t)) := PS.imp (ps_asg he hg hs hw h1) fun D σ H q => asg_ok q
/-- o[i] = .. of a list -/
def fSet (o i v : W) (G : GH) : Option GH := match o, i with
  | .ref n, .int k => match G.at_ n with
    | some (.lst ws) => match ixN ws.length k with
      | some j => some (G.set n (.lst (ws.set j v)))
      | none => none
    | _ => none
  | _, _ => none
def gSet (gv go gi : FE) : FS := fun ρ G => (gv ρ G).thn ρ fun v G1 => (go ρ G1).thn ρ fun o G2 => (gi ρ G2).thn ρ fun i G3 => match fSet o i v G3 with
  | some G4 => .nx ρ G4
  | none => .no
theorem set_ok {c : Cf} {o i v : V} {wo wi wv : W} {G4 : GH} (s : SR Γ c) (ro : c.Rp Γ o wo) (ri : c.Rp Γ i wi) (rv : c.Rp Γ v wv) (e : fSet wo wi wv c.G = some G4) {Q : Hp → Prop}
    (h : ∀ c', Stp c c' → SR Γ c' → c'.G = G4 → Q c'.H) : rSetL o i v c.H Q := by
  unfold fSet at e
  cases ro with
  | @ref n a hn =>
    cases ri with
    | int k =>
      simp only at e
      cases q : c.G.at_ n with
      | none => simp [q] at e
      | some ob =>
        obtain ⟨b, ho, e1, e2, r⟩ := s.obj n ob q
        rw [hn] at e1; cases e1
        cases r with
        | @lst xs ws r =>
          simp only [q] at e
          cases j : ixN ws.length k with
          | none => simp [j] at e
          | some m =>
            simp only [j, Option.some.injEq] at e
            subst e
            obtain ⟨st, s'⟩ := upd_own (ho := .lst (xs.set m v)) s q hn (.lst (r.set rv m))
            exact ⟨a, xs, k, m, rfl, rfl, e2, by rw [r.length]; exact j, h _ st s' rfl⟩
        | dic _ _ => simp [q] at e
        | ins _ _ => simp [q] at e
    | _ => cases e
  | _ => cases e
theorem fs_set {o i e : Expr} {gv go gi : FE} {p2 pos : Pos} (he : PE X e (absE Γ Z gv)) (ho : PE X o (absE Γ Z go)) (hi : PE X i (absE Γ Z gi))
    (ha : ∀ v, assign (.Subscript o i p2) X.env v = (do
      let ov ← holding [v] (eval o X.env)
      let iv ← holding [v, ov] (eval i X.env)
      standAt p2
      holding [v, ov, iv] (setItem ov iv v)
      release [v, ov, iv] []) := by intro _; rfl) (hs : swapsWithSole [.Subscript o i p2] e pos.line X.env = pure false := by rfl) (hw : swappedStores [.Subscript o i p2] e X.env = pure none := by rfl)
    (h1 : (assignEach [.Subscript o i p2] X.env).map (·.2) = [assign (.Subscript o i p2) X.env] := by rfl) : PS X (.Assign [.Subscript o i p2] e pos) (absS Γ Z (gSet gv go gi)) :=
  PS.imp (ps_asg he (pg_sub ho hi set_list ha) hs hw h1) fun D σ H q => by
    obtain ⟨c, ρ, e, s, en, th⟩ := absS.bind (rel := Cf.Rp Γ) q
    refine ⟨c, ρ, e, s, en, Th.mono th fun v c1 st ⟨c2, ρ2, a, e2, s2, en2, ra, q⟩ => ?_⟩
    refine ⟨c2, ρ2, e2, s2, en2, Th.mono (ThS.bind s2 en2 q) fun ov c3 st3 ⟨c4, b, e4, st4, s4, en4, rb, q4⟩ => ?_⟩
    refine ⟨c4, ρ2, e4, s4, en4, Th.mono (ThS.bind s4 en4 q4) fun iv c5 st5 ⟨c6, b6, e6, st6, s6, en6, rb6, q6⟩ => ?_⟩
    rw [← e6]
    cases k : fSet b b6 a c6.G with
    | none => simp only [k] at q6; exact q6.elim
    | some G4 =>
      simp only [k] at q6
      exact set_ok s6 (st6.rp s4 rb) rb6 (st6.rp s4 (st4.rp s2 ra)) k fun c' st' s' e' => q6 c' σ st' s' e' (st'.en s6 en6)
end
end Fn

set_option Elab.async false
set_option linter.all false
set_option maxRecDepth 100000
namespace Fn
open PySem PySem.Spec PyProof.Rows L2

/-! ### while -/
def whileF (t : FT) (b : FS) : Nat → FS
  | 0 => fun _ _ => .no
  | n + 1 => fun ρ G => (t ρ G).thn ρ fun k G1 => if k then (match b ρ G1 with
      | .nx ρ' G' => whileF t b n ρ' G'
      | .ct ρ' G' => whileF t b n ρ' G'
      | .bk ρ' G' => .nx ρ' G'
      | .rt w G' => .rt w G'
      | .ex x ρ' G' => .ex x ρ' G'
      | .no => .no) else .nx ρ G1
theorem whileF_more (t : FT) (b : FS) : ∀ (n : Nat) (ρ : En) (G : GH), whileF t b n ρ G ≠ .no → ∀ m, n ≤ m → whileF t b m ρ G = whileF t b n ρ G
  | 0, _, _, h, _, _ => absurd rfl h
  | n + 1, ρ, G, h, 0, hm => absurd hm (by omega)
  | n + 1, ρ, G, h, m + 1, hm => by
    unfold whileF at h ⊢
    cases k : t ρ G with
    | ex x G1 => rfl
    | no => rfl
    | ok c G1 =>
      rw [k] at h
      cases c with
      | false => rfl
      | true =>
        simp only [R.thn, if_true] at h ⊢
        cases q : b ρ G1 with
        | nx ρ' G' => rw [q] at h; exact whileF_more t b n ρ' G' h m (by omega)
        | ct ρ' G' => rw [q] at h; exact whileF_more t b n ρ' G' h m (by omega)
        | bk ρ' G' => rfl
        | rt w G' => rfl
        | ex x ρ' G' => rfl
        | no => rfl
open Classical in
noncomputable def gWhile (t : FT) (b : FS) : FS := fun ρ G => if h : ∃ n, whileF t b n ρ G ≠ .no then whileF t b h.choose ρ G else .no
theorem gWhile_of {t : FT} {b : FS} {n : Nat} {ρ : En} {G : GH} (h : whileF t b n ρ G ≠ .no) : gWhile t b ρ G = whileF t b n ρ G := by
  have e : ∃ n, whileF t b n ρ G ≠ .no := ⟨n, h⟩
  unfold gWhile
  rw [dif_pos e]
  rcases Nat.le_total n e.choose with l | l
  · exact whileF_more t b n ρ G h _ l
  · exact (whileF_more t b _ ρ G e.choose_spec _ l).symm
theorem gWhile_eq (t : FT) (b : FS) (ρ : En) (G : GH) : gWhile t b ρ G = (t ρ G).thn ρ fun k G1 => if k then (match b ρ G1 with
      | .nx ρ' G' => gWhile t b ρ' G'
      | .ct ρ' G' => gWhile t b ρ' G'
      | .bk ρ' G' => .nx ρ' G'
      | .rt w G' => .rt w G'
      | .ex x ρ' G' => .ex x ρ' G'
      | .no => .no) else .nx ρ G1 := by
  by_cases e : ∃ n, whileF t b n ρ G ≠ .no
  · obtain ⟨n, h⟩ := e
    rw [gWhile_of h]
    cases n with
    | zero => exact absurd rfl h
    | succ n =>
      unfold whileF at h ⊢
      cases k : t ρ G with
      | ex x G1 => rfl
      | no => rfl
      | ok c G1 =>
        rw [k] at h
        cases c with
        | false => rfl
        | true =>
          simp only [R.thn, if_true] at h ⊢
          cases q : b ρ G1 with
          | nx ρ' G' => rw [q] at h; exact (gWhile_of h).symm
          | ct ρ' G' => rw [q] at h; exact (gWhile_of h).symm
          | bk ρ' G' => rfl
          | rt w G' => rfl
          | ex x ρ' G' => rfl
          | no => rfl
  · have e1 : gWhile t b ρ G = .no := by unfold gWhile; rw [dif_neg e]
    rw [e1]
    have none : ∀ n, whileF t b n ρ G = .no := fun n => Classical.byContradiction fun h => e ⟨n, h⟩
    have n1 := none 1
    unfold whileF at n1
    cases k : t ρ G with
    | ex x G1 => rw [k] at n1; cases n1
    | no => rfl
    | ok c G1 =>
      cases c with
      | false => rw [k] at n1; cases n1
      | true =>
        simp only [R.thn, if_true]
        have step : ∀ n, (match b ρ G1 with
            | .nx ρ' G' => whileF t b n ρ' G'
            | .ct ρ' G' => whileF t b n ρ' G'
            | .bk ρ' G' => .nx ρ' G'
            | .rt w G' => .rt w G'
            | .ex x ρ' G' => .ex x ρ' G'
            | .no => .no) = RS.no := fun n => by
          have := none (n + 1)
          unfold whileF at this
          rw [k] at this
          simpa only [R.thn, if_true] using this
        cases q : b ρ G1 with
        | nx ρ' G' =>
          have z : ¬ ∃ n, whileF t b n ρ' G' ≠ .no := fun ⟨n, h⟩ => h (by have := step n; rwa [q] at this)
          unfold gWhile; simp only; rw [dif_neg z]
        | ct ρ' G' =>
          have z : ¬ ∃ n, whileF t b n ρ' G' ≠ .no := fun ⟨n, h⟩ => h (by have := step n; rwa [q] at this)
          unfold gWhile; simp only; rw [dif_neg z]
        | bk ρ' G' => have := step 0; rw [q] at this; cases this
        | rt w G' => have := step 0; rw [q] at this; cases this
        | ex x ρ' G' => have := step 0; rw [q] at this; cases this
        | no => rfl
section
variable {X : Cx} {Γ : Gm} {Z : WXk}
theorem fs_while {t : Expr} {b : List Stmt} {gt : FT} {gb : FS} {pos : Pos} (hp : PassesOwn (model X.prog X.w) X.A X.env X.xe) (ht : PT X t (absT Γ Z gt)) (hb : PSs X b (absS Γ Z gb)) : PS X (.While t b [] pos) (absS Γ Z (gWhile gt gb)) :=
  PS.imp (ps_while hp ht hb) fun D σ H ⟨c, ρ, e, s, en, th⟩ => by
    have hn : ∃ n, whileF gt gb n ρ c.G ≠ .no := Classical.byContradiction fun q => by
      unfold gWhile at th
      rw [dif_neg q] at th
      exact th
    obtain ⟨n, hn⟩ := hn
    rw [gWhile_of hn] at th
    refine ⟨fun m σ H => ∃ (c : Cf) (ρ : En), c.H = H ∧ SR Γ c ∧ c.En Γ ρ σ ∧ ThS Γ Z D c (whileF gt gb m ρ c.G), ⟨n, c, ρ, e, s, en, th⟩, ?_⟩
    rintro m σ H ⟨c, ρ, e, s, en, th⟩
    cases m with
    | zero => exact th.elim
    | succ m =>
      unfold whileF at th
      refine ⟨c, ρ, e, s, en, Th.mono (ThS.bind (rel := fun _ b b' => b = b') s en th) fun v c1 st ⟨c2, a, e2, st2, s2, en2, ra, q⟩ => ?_⟩
      subst ra
      cases v with
      | false => rw [← e2]; exact q c2 σ (Stp.refl c2) s2 rfl en2
      | true =>
        simp only [if_true] at q ⊢
        refine ⟨fun σ H => ∃ (c : Cf) (ρ : En), c.H = H ∧ SR Γ c ∧ c.En Γ ρ σ ∧ ThS Γ Z D c (whileF gt gb m ρ c.G), fun σ' H' h => ⟨m, Nat.lt_succ_self m, h⟩, c2, ρ, e2, s2, en2, ?_⟩
        cases k : gb ρ c2.G with
        | nx ρ' G' => rw [k] at q; exact fun c' σ' a b e' en' => ⟨c', ρ', rfl, b, en', by subst e'; exact ThS.from a q⟩
        | ct ρ' G' => rw [k] at q; exact fun c' σ' a b e' en' => ⟨c', ρ', rfl, b, en', by subst e'; exact ThS.from a q⟩
        | bk ρ' G' => rw [k] at q; exact q
        | rt w G' => rw [k] at q; exact q
        | ex x ρ' G' => rw [k] at q; exact q
        | no => rw [k] at q; exact q.elim
end

/-! ### for over items that are known -/
structure Walks (Γ : Gm) (c0 : Cf) (J : It) (ws : List W) : Prop where
  go : ∀ c, StpW c0 c → SR Γ c → ∀ i, i < ws.length → J.go i c.H
  stop : ∀ c, StpW c0 c → SR Γ c → ∀ i, ws.length ≤ i → J.stop i c.H
  yld : ∀ c, StpW c0 c → SR Γ c → ∀ i x H', i < ws.length → J.yld i c.H x H' → ∃ (w : W) (c' : Cf), ws[i]? = some w ∧ c'.H = H' ∧ Stp c c' ∧ SR Γ c' ∧ c'.G = c.G ∧ c'.Rp Γ x w
/-- what is walked: items that are known, or an owned list -/
inductive Wk where
  | vals (ws : List W)
  | own (n : Nat)
def RWk (Γ : Gm) (c : Cf) (J : It) : Wk → Prop
  | .vals ws => Walks Γ c J ws
  | .own n => ∃ a, c.ι[n]? = some a ∧ J = Itl Γ.K a
abbrev FI := En → GH → R Wk
abbrev absI (Γ : Gm) (Z : WXk) (g : FI) : TI := absG Γ Z (fun c J k => RWk Γ c J k) g
def lenO (G : GH) (n : Nat) : Nat := match G.at_ n with
  | some (.lst us) => us.length
  | _ => 0
def turnF (t : FG1) (b : FS) (w : W) (ρ : En) (G : GH) (k : En → GH → RS) : RS := match t w ρ G with
  | none => .no
  | some (ρ1, G1) => match b ρ1 G1 with
    | .nx ρ' G' => k ρ' G'
    | .ct ρ' G' => k ρ' G'
    | .bk ρ' G' => .nx ρ' G'
    | .rt w G' => .rt w G'
    | .ex x ρ' G' => .ex x ρ' G'
    | .no => .no
def forF (t : FG1) (b : FS) : List W → FS
  | [] => fun ρ G => .nx ρ G
  | w :: ws => fun ρ G => turnF t b w ρ G (forF t b ws)
/-- over an owned list: what it holds at each turn -/
def forO (n : Nat) (t : FG1) (b : FS) : Nat → Nat → FS
  | 0, i => fun ρ G => match G.at_ n with
    | some (.lst us) => if us.length ≤ i then .nx ρ G else .no
    | _ => .no
  | k + 1, i => fun ρ G => match G.at_ n with
    | some (.lst us) => match us[i]? with
      | some w => turnF t b w ρ G (forO n t b k (i + 1))
      | none => .nx ρ G
    | _ => .no
def forW (t : FG1) (b : FS) (k : Wk) : FS := match k with
  | .vals ws => forF t b ws
  | .own n => fun ρ G => forO n t b (lenO G n) 0 ρ G
def gFor (gi : FI) (t : FG1) (b : FS) : FS := fun ρ G => (gi ρ G).thn ρ fun k G1 => forW t b k ρ G1
section
variable {X : Cx} {Γ : Gm} {Z : WXk}
theorem for_ok {t : FG1} {sl : List Nat} {gb : FS} {D : Ends} {J : It} {ws : List W} {c0 : Cf} {ρ0 : En} {σ0 : L2.St} (s0 : SR Γ c0) (wk : Walks Γ c0 J ws) (en0 : c0.En Γ ρ0 σ0) (th0 : ThS Γ Z D c0 (forF t gb ws ρ0 c0.G)) :
    ∃ Wd : Nat → Nat → L2.St → Hp → Prop, (∃ m, Wd 0 m σ0 c0.H) ∧ ∀ i m σ H, Wd i m σ H →
      (J.stop i H ∧ D.nx σ H) ∨ (J.go i H ∧ ∃ N : L2.St → Hp → Prop, (∀ σ' H', N σ' H' → ∃ m', m' < m ∧ Wd (i + 1) m' σ' H') ∧ ∀ x H', J.yld i H x H' → absG1 Γ sl t x σ H' fun σ2 H2 => absS Γ Z gb { D with nx := N, ct := N, bk := D.nx } σ2 H2) := by
  refine ⟨fun i m σ H => m = ws.length - i ∧ i ≤ ws.length ∧ ∃ (c : Cf) (ρ : En), c.H = H ∧ Stp c0 c ∧ SR Γ c ∧ c.En Γ ρ σ ∧ ThS Γ Z D c (forF t gb (ws.drop i) ρ c.G), ⟨_, rfl, Nat.zero_le _, c0, ρ0, rfl, Stp.refl c0, s0, en0, th0⟩, ?_⟩
  rintro i m σ H ⟨rfl, hi, c, ρ, rfl, st, s, en, th⟩
  by_cases hlt : i < ws.length
  · have ed : ws.drop i = ws[i] :: ws.drop (i + 1) := (List.drop_eq_getElem_cons hlt)
    rw [ed] at th
    refine .inr ⟨wk.go c st.w s i hlt, fun σ H => ∃ (c : Cf) (ρ : En), c.H = H ∧ Stp c0 c ∧ SR Γ c ∧ c.En Γ ρ σ ∧ ThS Γ Z D c (forF t gb (ws.drop (i + 1)) ρ c.G), fun σ' H' h => ⟨_, by omega, rfl, hlt, h⟩, fun x H' y => ?_⟩
    obtain ⟨w, c1, ew, e1, st1, s1, eG, rw1⟩ := wk.yld c st.w s i x H' hlt y
    have ew : ws[i] = w := by rw [List.getElem?_eq_getElem hlt] at ew; exact Option.some.inj ew
    rw [ew] at th
    refine ⟨c1, ρ, w, e1, s1, st1.en s en, rw1, ?_⟩
    unfold forF turnF at th
    rw [eG]
    cases k : t w ρ c.G with
    | none => rw [k] at th; exact th.elim
    | some p =>
      obtain ⟨ρ1, G1⟩ := p
      rw [k] at th
      simp only at th ⊢
      intro c2 σ2 st2 s2 e2 en2 _
      refine ⟨c2, ρ1, rfl, s2, en2, ?_⟩
      rw [e2]
      cases q : gb ρ1 G1 with
      | nx ρ' G' => rw [q] at th; exact fun c' σ' a b e' en' => ⟨c', ρ', rfl, st.trans (st1.trans (st2.trans a)), b, en', by subst e'; exact ThS.from (st1.trans (st2.trans a)) th⟩
      | ct ρ' G' => rw [q] at th; exact fun c' σ' a b e' en' => ⟨c', ρ', rfl, st.trans (st1.trans (st2.trans a)), b, en', by subst e'; exact ThS.from (st1.trans (st2.trans a)) th⟩
      | bk ρ' G' => rw [q] at th; exact ThS.from (r := .nx ρ' G') (D := D) (Z := Z) (st1.trans st2) th
      | rt w G' => rw [q] at th; exact ThS.from (r := .rt w G') (D := D) (Z := Z) (st1.trans st2) th
      | ex x ρ' G' => rw [q] at th; exact ThS.from (r := .ex x ρ' G') (D := D) (Z := Z) (st1.trans st2) th
      | no => rw [q] at th; exact th.elim
  · have e : i = ws.length := by omega
    subst e
    rw [List.drop_length] at th
    exact .inl ⟨wk.stop c st.w s _ (Nat.le_refl _), th c σ (Stp.refl c) s rfl en⟩
theorem forO_ok {t : FG1} {sl : List Nat} {gb : FS} {D : Ends} {n k0 : Nat} {a : Addr} {c0 : Cf} {ρ0 : En} {σ0 : L2.St} (s0 : SR Γ c0) (ha : c0.ι[n]? = some a) (en0 : c0.En Γ ρ0 σ0) (th0 : ThS Γ Z D c0 (forO n t gb k0 0 ρ0 c0.G)) :
    ∃ Wd : Nat → Nat → L2.St → Hp → Prop, (∃ m, Wd 0 m σ0 c0.H) ∧ ∀ i m σ H, Wd i m σ H →
      ((Itl Γ.K a).stop i H ∧ D.nx σ H) ∨ ((Itl Γ.K a).go i H ∧ ∃ N : L2.St → Hp → Prop, (∀ σ' H', N σ' H' → ∃ m', m' < m ∧ Wd (i + 1) m' σ' H') ∧ ∀ x H', (Itl Γ.K a).yld i H x H' → absG1 Γ sl t x σ H' fun σ2 H2 => absS Γ Z gb { D with nx := N, ct := N, bk := D.nx } σ2 H2) := by
  refine ⟨fun i m σ H => ∃ (c : Cf) (ρ : En), c.H = H ∧ Stp c0 c ∧ SR Γ c ∧ c.En Γ ρ σ ∧ ThS Γ Z D c (forO n t gb m i ρ c.G), ⟨_, c0, ρ0, rfl, Stp.refl c0, s0, en0, th0⟩, ?_⟩
  rintro i m σ H ⟨c, ρ, rfl, st, s, en, th⟩
  have hn : c.ι[n]? = some a := st.pre n a ha
  have at_ : ∀ us, c.G.at_ n = some (.lst us) → ∃ xs, SqL Γ.K c.H a xs ∧ c.RpAll Γ xs us := fun us e => by
    obtain ⟨b, ho, e1, e2, r⟩ := s.obj n _ e
    rw [hn] at e1; cases e1
    cases r with
    | lst r => exact ⟨_, .inl (.inl e2), r⟩
  cases m with
  | zero =>
    unfold forO at th
    split at th
    · rename_i us e
      obtain ⟨xs, hq, r⟩ := at_ us e
      by_cases k : us.length ≤ i
      · rw [if_pos k] at th
        exact .inl ⟨⟨xs, hq, by rw [r.length]; exact k⟩, th c σ (Stp.refl c) s rfl en⟩
      · rw [if_neg k] at th; exact th.elim
    · exact th.elim
  | succ m =>
    unfold forO at th
    split at th
    · rename_i us e
      obtain ⟨xs, hq, r⟩ := at_ us e
      split at th
      · rename_i w ew
        obtain ⟨v, ev, rw1⟩ := r.get ew
        refine .inr ⟨⟨xs, v, hq, ev⟩, fun σ H => ∃ (c : Cf) (ρ : En), c.H = H ∧ Stp c0 c ∧ SR Γ c ∧ c.En Γ ρ σ ∧ ThS Γ Z D c (forO n t gb m (i + 1) ρ c.G), fun σ' H' h => ⟨m, Nat.lt_succ_self m, h⟩, fun x H' y => ?_⟩
        obtain ⟨rfl, y⟩ := y
        have := y xs hq
        rw [ev] at this
        cases this
        refine ⟨c, ρ, w, rfl, s, en, rw1, ?_⟩
        unfold turnF at th
        cases k : t w ρ c.G with
        | none => rw [k] at th; exact th.elim
        | some p =>
          obtain ⟨ρ1, G1⟩ := p
          rw [k] at th
          simp only at th ⊢
          intro c2 σ2 st2 s2 e2 en2 _
          refine ⟨c2, ρ1, rfl, s2, en2, ?_⟩
          rw [e2]
          cases q : gb ρ1 G1 with
          | nx ρ' G' => rw [q] at th; exact fun c' σ' a b e' en' => ⟨c', ρ', rfl, st.trans (st2.trans a), b, en', by subst e'; exact ThS.from (st2.trans a) th⟩
          | ct ρ' G' => rw [q] at th; exact fun c' σ' a b e' en' => ⟨c', ρ', rfl, st.trans (st2.trans a), b, en', by subst e'; exact ThS.from (st2.trans a) th⟩
          | bk ρ' G' => rw [q] at th; exact ThS.from (r := .nx ρ' G') (D := D) (Z := Z) st2 th
          | rt w G' => rw [q] at th; exact ThS.from (r := .rt w G') (D := D) (Z := Z) st2 th
          | ex x ρ' G' => rw [q] at th; exact ThS.from (r := .ex x ρ' G') (D := D) (Z := Z) st2 th
          | no => rw [q] at th; exact th.elim
      · rename_i ew
        have hl : us.length ≤ i := List.getElem?_eq_none_iff.mp ew
        exact .inl ⟨⟨xs, hq, by rw [r.length]; exact hl⟩, th c σ (Stp.refl c) s rfl en⟩
    · exact th.elim
theorem fs_for {tg iter : Expr} {b : List Stmt} {gi : FI} {t : FG1} {sl : List Nat} {gb : FS} {pos : Pos} (hp : PassesOwn (model X.prog X.w) X.A X.env X.xe) (hc : X.calm = true) (hi : PI X tg iter (absI Γ Z gi)) (ht : PG X tg (absG1 Γ sl t)) (hb : PSs X b (absS Γ Z gb))
    (hs : ∀ x, foldedSetIterable iter X.env x = pure x := by intro _; rfl) : PS X (.For tg iter b [] pos) (absS Γ Z (gFor gi t gb)) :=
  PS.imp (ps_for hp hc hi ht hb hs) fun D σ H q => by
    obtain ⟨c, ρ, e, s, en, th⟩ := absS.bind (rel := fun c J k => RWk Γ c J k) q
    refine ⟨c, ρ, e, s, en, Th.mono th fun J c1 st ⟨c2, ρ2, k, e2, s2, en2, wk, q⟩ => ?_⟩
    rw [← e2]
    cases k with
    | vals ws => exact for_ok s2 wk en2 q
    | own n =>
      obtain ⟨a, ha, rfl⟩ := wk
      exact forO_ok s2 ha en2 q

/-! ### what is walked -/
theorem PI.imp {tg e : Expr} {t t' : TI} (h : PI X tg e t) (m : ∀ σ H R, t' σ H R → t σ H R) : PI X tg e t' := ⟨fun pins s σ H R I q => h.run pins s σ H R I (m σ H R q)⟩
theorem lstWalks {c : Cf} {a : Addr} {xs : List V} {ws : List W} (k : ∀ c', StpW c c' → SR Γ c' → SqL Γ.K c'.H a xs) (r : c.RpAll Γ xs ws) (s : SR Γ c) : Walks Γ c (Itl Γ.K a) ws where
  go := fun c' st s' i hi => ⟨xs, xs[i]'(by rw [r.length]; exact hi), k c' st s', List.getElem?_eq_getElem _⟩
  stop := fun c' st s' i hi => ⟨xs, k c' st s', by rw [r.length]; exact hi⟩
  yld := fun c' st s' i x H' hi ⟨e, y⟩ => by
    subst e
    obtain ⟨w, ew, rw1⟩ := r.getV (y xs (k c' st s'))
    exact ⟨w, c', ew, rfl, Stp.refl c', s', rfl, st.rp s rw1⟩
theorem tupWalks {c : Cf} {a : Addr} {xs : List V} {ws : List W} (h : SqT Γ.K c.H a xs) (r : c.RpAll Γ xs ws) (s : SR Γ c) : Walks Γ c (Itt Γ.K a) ws where
  go := fun c' st s' i hi => ⟨xs, xs[i]'(by rw [r.length]; exact hi), st.sqT s h, List.getElem?_eq_getElem _⟩
  stop := fun c' st s' i hi => ⟨xs, st.sqT s h, by rw [r.length]; exact hi⟩
  yld := fun c' st s' i x H' hi ⟨e, y⟩ => by
    subst e
    obtain ⟨w, ew, rw1⟩ := r.getV (y xs (st.sqT s h))
    exact ⟨w, c', ew, rfl, Stp.refl c', s', rfl, st.rp s rw1⟩
def iSeqA (K : PySem.W.Frag) (tl : TE) : TI := fun σ H R => tl σ H fun x H1 => ∃ a, x = .ref a ∧ ((∃ xs, SqL K H1 a xs) ∧ R (Itl K a) H1 ∨ (∃ xs, SqT K H1 a xs) ∧ R (Itt K a) H1)
theorem pi_seqA {tg l : Expr} {tl : TE} (hl : PE X l tl) : PI X tg l (iSeqA X.K tl) := by
  refine ⟨fun pins s σ H R I h => ?_⟩
  refine thn (hl.run pins s σ H _ I h) fun v s1 ⟨x, H1, I1, r1, q1⟩ => ?_
  obtain ⟨a, e, q⟩ := q1
  subst e
  cases r1
  rcases q with ⟨⟨xs, hq⟩, q⟩ | ⟨⟨xs, hq⟩, q⟩
  · obtain ⟨its, rv, p, hz⟩ := I1.list hq
    refine wpAny_pyIter_list p.isList ?_
    refine ⟨s1.heap.objs.size, [s1.heap.objs.size], _, _, H1, rfl, I1.kept (t' := s1.toks) fun b o e => Heap.get?_push_of_some _ e, turn_list a _, ⟨_, Heap.get?_push_size _ rfl, rfl, rfl⟩, fun b hb => ?_, q⟩
    have e : b = s1.heap.objs.size := by simpa using hb
    subst e
    exact I1.fpOk (Nat.le_refl _) (I1.hok.fresh (Nat.le_refl _))
  · obtain ⟨its, rv, p, hz⟩ := I1.tuple hq
    refine wpAny_pyIter_tuple (show s1.heap.IsTuple a its.toArray from p) ?_
    refine ⟨s1.heap.objs.size, [s1.heap.objs.size], _, _, H1, rfl, I1.kept (t' := s1.toks) fun b o e => Heap.get?_push_of_some _ e, turn_tuple a _, ⟨_, Heap.get?_push_size _ rfl, rfl, rfl⟩, fun b hb => ?_, q⟩
    have e : b = s1.heap.objs.size := by simpa using hb
    subst e
    exact I1.fpOk (Nat.le_refl _) (I1.hok.fresh (Nat.le_refl _))
/-- a list or a tuple, or an owned list -/
def asSeq (w : W) (G : GH) : R Wk := match w with
  | .lst ws => .ok (.vals ws) G
  | .tup ws => .ok (.vals ws) G
  | .ref n => match G.at_ n with
    | some (.lst _) => .ok (.own n) G
    | _ => .no
  | _ => .no
def iSeq (g : FE) : FI := fun ρ G => (g ρ G).bind asSeq
theorem fi_seq {tg e : Expr} {g : FE} (h : PE X e (absE Γ Z g)) (hK : Γ.K = X.K := by rfl) : PI X tg e (absI Γ Z (iSeq g)) := PI.imp (pi_seqA h) fun σ H R q => by
  obtain ⟨c, ρ, e, s, en, th⟩ := absG.bind q
  refine ⟨c, ρ, e, s, en, Th.mono th fun v c1 st ⟨c2, ρ2, a, e2, s2, en2, ra, q⟩ => ?_⟩
  rw [← e2]
  cases ra with
  | tup h r => exact ⟨_, rfl, .inr ⟨⟨_, hK ▸ h⟩, hK ▸ q c2 _ (Stp.refl c2) s2 rfl (tupWalks h r s2)⟩⟩
  | lst h n r => exact ⟨_, rfl, .inl ⟨⟨_, by rw [← hK]; exact .inl h⟩, hK ▸ q c2 _ (Stp.refl c2) s2 rfl (lstWalks (fun c' st' s' => .inl (st'.rd n h)) r s2)⟩⟩
  | lstK h1 h2 h3 h4 h5 h6 r => exact ⟨_, rfl, .inl ⟨⟨_, by rw [← hK]; exact .inr ⟨_, _, _, h1, h2, h3, h4, h5, h6⟩⟩, hK ▸ q c2 _ (Stp.refl c2) s2 rfl (lstWalks (fun c' st' s' => .inr ⟨_, _, _, h1, h2, h3, h4, h5, h6⟩) r s2)⟩⟩
  | @ref n a h1 =>
    unfold asSeq at q
    simp only at q
    split at q
    · rename_i us e
      obtain ⟨b, ho, e1, e2, r⟩ := s2.obj n _ e
      rw [h1] at e1; cases e1
      cases r with
      | lst r => exact ⟨_, rfl, .inl ⟨⟨_, by rw [← hK]; exact .inl (.inl e2)⟩, hK ▸ q c2 _ (Stp.refl c2) s2 rfl ⟨_, h1, rfl⟩⟩⟩
    · exact q.elim
  | _ => exact q.elim
/-- lo, lo + 1, .. -/
def rngW (lo : Int) : Nat → List W
  | 0 => []
  | n + 1 => .int lo :: rngW (lo + 1) n
theorem rngW_length : ∀ (n : Nat) (lo : Int), (rngW lo n).length = n
  | 0, _ => rfl
  | n + 1, lo => by rw [rngW, List.length_cons, rngW_length n]
theorem rngW_get : ∀ (n : Nat) (lo : Int) (i : Nat), i < n → (rngW lo n)[i]? = some (.int (lo + i))
  | 0, _, _, h => absurd h (by omega)
  | n + 1, lo, 0, _ => by simp [rngW]
  | n + 1, lo, i + 1, h => by
    rw [rngW, List.getElem?_cons_succ, rngW_get n (lo + 1) i (by omega)]
    congr 2
    omega
theorem rngWalks {c : Cf} {lo : Int} {n : Nat} : Walks Γ c (Itr lo n) (rngW lo n) where
  go := fun c' st s' i hi => by rw [rngW_length] at hi; exact hi
  stop := fun c' st s' i hi => by rw [rngW_length] at hi; exact hi
  yld := fun c' st s' i x H' hi ⟨e, y⟩ => by
    subst e y
    rw [rngW_length] at hi
    exact ⟨_, c', rngW_get n lo i hi, rfl, Stp.refl c', s', rfl, .int _⟩
def small62 (i : Int) : Bool := decide (-(2 ^ 62) ≤ i) && decide (i < 2 ^ 62)
def asRng1 (ws : List W) (G : GH) : R Wk := match ws with
  | [.int j] => if small62 j then .ok (.vals (rngW 0 j.toNat)) G else .no
  | _ => .no
def asRng2 (ws : List W) (G : GH) : R Wk := match ws with
  | [.int i, .int j] => if small62 i && small62 j then .ok (.vals (rngW i (j - i).toNat)) G else .no
  | _ => .no
def iRng (f : List W → GH → R Wk) (g : FA) : FI := fun ρ G => (g ρ G).bind f
theorem small62_ok {i : Int} (h : small62 i = true) : -(2 ^ 62) ≤ i ∧ i < 2 ^ 62 := by
  unfold small62 at h
  simpa only [Bool.and_eq_true, decide_eq_true_eq] using h
theorem RpAll.one {c : Cf} {vs : List V} {w : W} (r : c.RpAll Γ vs [w]) : ∃ v, vs = [v] ∧ c.Rp Γ v w := by
  cases r with
  | cons h t => cases t; exact ⟨_, rfl, h⟩
theorem RpAll.two {c : Cf} {vs : List V} {w u : W} (r : c.RpAll Γ vs [w, u]) : ∃ v x, vs = [v, x] ∧ c.Rp Γ v w ∧ c.Rp Γ x u := by
  cases r with
  | cons h t => obtain ⟨x, e, h2⟩ := RpAll.one (c := c) t; subst e; exact ⟨_, _, rfl, h, h2⟩
theorem Rp.int_of {c : Cf} {v : V} {i : Int} (r : c.Rp Γ v (.int i)) : v = .int i := by cases r; rfl
theorem Rp.str_of {c : Cf} {v : V} {i : Str} (r : c.Rp Γ v (.str i)) : v = .str i := by cases r; rfl
theorem Rp.bl_of {c : Cf} {v : V} {i : Bool} (r : c.Rp Γ v (.bl i)) : v = .bl i := by cases r; rfl
theorem Rp.non_of {c : Cf} {v : V} (r : c.Rp Γ v .non) : v = .non := by cases r; rfl
theorem fi_rng1 {tg a : Expr} {g : FA} {p pos : Pos} (hg : Gl X "range") (hm : X.mg "range" = none) (ha : PA X [a] (absA Γ Z g)) (hs : starEach [a] X.env = [(false, eval a X.env)] := by rfl) : PI X tg (.Call (.Name "range" p) [a] [] pos) (absI Γ Z (iRng asRng1 g)) :=
  PI.imp (pi_range1 hg hm ha hs) fun σ H R q => by
    obtain ⟨c, ρ, e, s, en, th⟩ := absG.bind q
    refine ⟨c, ρ, e, s, en, Th.mono th fun v c1 st ⟨c2, ρ2, ws, e2, s2, en2, ra, q⟩ => ?_⟩
    rw [← e2]
    unfold asRng1 at q
    split at q
    · rename_i j
      obtain ⟨v, rfl, r1⟩ := RpAll.one (c := c2) ra
      cases Rp.int_of (c := c2) r1
      by_cases k : small62 j = true
      · rw [if_pos k] at q
        exact ⟨j, rfl, (small62_ok k).1, (small62_ok k).2, q c2 _ (Stp.refl c2) s2 rfl rngWalks⟩
      · rw [if_neg k] at q
        exact q.elim
    · exact q.elim
theorem fi_rng2 {tg a b : Expr} {g : FA} {p pos : Pos} (hg : Gl X "range") (hm : X.mg "range" = none) (ha : PA X [a, b] (absA Γ Z g)) (hs : starEach [a, b] X.env = [(false, eval a X.env), (false, eval b X.env)] := by rfl) (hs2 : starEach [b] X.env = [(false, eval b X.env)] := by rfl) :
    PI X tg (.Call (.Name "range" p) [a, b] [] pos) (absI Γ Z (iRng asRng2 g)) :=
  PI.imp (pi_range2 hg hm ha hs hs2) fun σ H R q => by
    obtain ⟨c, ρ, e, s, en, th⟩ := absG.bind q
    refine ⟨c, ρ, e, s, en, Th.mono th fun v c1 st ⟨c2, ρ2, ws, e2, s2, en2, ra, q⟩ => ?_⟩
    rw [← e2]
    unfold asRng2 at q
    split at q
    · rename_i i j
      obtain ⟨v, x, rfl, r1, r2⟩ := RpAll.two (c := c2) ra
      cases Rp.int_of (c := c2) r1
      cases Rp.int_of (c := c2) r2
      by_cases k : (small62 i && small62 j) = true
      · rw [if_pos k] at q
        simp only [Bool.and_eq_true] at k
        exact ⟨i, j, rfl, ⟨(small62_ok k.1).1, (small62_ok k.1).2, (small62_ok k.2).1, (small62_ok k.2).2⟩, q c2 _ (Stp.refl c2) s2 rfl rngWalks⟩
      · rw [if_neg k] at q
        exact q.elim
    · exact q.elim
end
end Fn

set_option Elab.async false
set_option linter.all false
set_option maxRecDepth 100000
namespace Fn
open PySem PySem.Spec PyProof.Rows L2

abbrev Z0 : WXk := fun _ _ _ _ => False
def R.calm {α : Type} (r : R α) : R α := match r with
  | .ok a G => .ok a G
  | _ => .no
theorem R.calm_th {α β : Type} {Γ : Gm} {E E' : XK} {rel : Cf → β → α → Prop} {c : Cf} {Q : β → Hp → Prop} {r : R α} (h : Th Γ E rel c Q r.calm) : Th Γ E' rel c Q r := by
  cases r with
  | ok a G => exact h
  | ex x G => exact h.elim
  | no => exact h.elim
def wipeW (ρ : En) : List Nat → En
  | [] => ρ
  | v :: vs => (wipeW ρ vs).set v none
theorem wipeW_en {Γ : Gm} {c : Cf} {ρ : En} {σ : L2.St} (h : c.En Γ ρ σ) : ∀ vs, c.En Γ (wipeW ρ vs) (wipe σ vs)
  | [] => h
  | v :: vs => by
    have ih := wipeW_en h vs
    refine ⟨by rw [wipeW, wipe, List.length_set, List.length_set]; exact ih.1, fun i w e => ?_⟩
    rw [wipeW] at e
    rw [wipe]
    by_cases hi : v = i
    · subst hi
      by_cases hv : v < (wipeW ρ vs).length
      · rw [List.getElem?_set_self hv] at e; cases e
      · rw [List.getElem?_eq_none (by rw [List.length_set]; omega)] at e; cases e
    · rw [List.getElem?_set_ne hi] at e
      rw [List.getElem?_set_ne hi]
      exact ih.2 i w e
theorem wipe_none {σ : L2.St} {i : Nat} : ∀ {vs : List Nat}, i ∈ vs → i < σ.length → (wipe σ vs)[i]? = some none
  | v :: vs, h, hl => by
    rw [wipe]
    by_cases e : v = i
    · subst e
      exact List.getElem?_set_self (by rw [wipe_length]; exact hl)
    · rw [List.getElem?_set_ne e]
      exact wipe_none (by rcases List.mem_cons.mp h with z | z; exact absurd z.symm e; exact z) hl
theorem wipe_agr {σ σ' : L2.St} {vs sl : List Nat} (h : Agr sl (wipe σ vs) σ') (hs : ∀ i ∈ sl, i ∈ vs) : wipe σ' vs = wipe σ vs := by
  have hl : σ'.length = σ.length := by rw [h.1, wipe_length]
  apply List.ext_getElem?
  intro i
  by_cases hi : i ∈ vs
  · by_cases hb : i < σ.length
    · rw [wipe_none hi (by rw [hl]; exact hb), wipe_none hi hb]
    · rw [List.getElem?_eq_none (by rw [wipe_length]; omega), List.getElem?_eq_none (by rw [wipe_length]; omega)]
  · rw [wipe_out hi, h.2 i fun z => hi (hs i z)]

/-- one turn: the item, its test, its element -/
def lcTurn (t : FG1) (tt : FT) (te : FE) (ρw : En) (w : W) (G : GH) : R (Option W) := match t w ρw G with
  | none => .no
  | some (ρ1, G1) => (tt ρ1 G1).calm.bind fun b G2 => if b then (te ρ1 G2).calm.bind fun y G3 => .ok (some y) G3 else .ok none G2
def addO : Option W → List W → List W
  | some y, r => y :: r
  | none, r => r
def lcF (t : FG1) (tt : FT) (te : FE) (ρw : En) : List W → GH → R (List W)
  | [], G => .ok [] G
  | w :: ws, G => (lcTurn t tt te ρw w G).bind fun o G1 => (lcF t tt te ρw ws G1).bind fun rest G2 => .ok (addO o rest) G2
/-- over an owned list -/
def lcO (n : Nat) (t : FG1) (tt : FT) (te : FE) (ρw : En) : Nat → Nat → GH → R (List W)
  | 0, i, G => match G.at_ n with
    | some (.lst us) => if us.length ≤ i then .ok [] G else .no
    | _ => .no
  | k + 1, i, G => match G.at_ n with
    | some (.lst us) => match us[i]? with
      | some w => (lcTurn t tt te ρw w G).bind fun o G1 => (lcO n t tt te ρw k (i + 1) G1).bind fun rest G2 => .ok (addO o rest) G2
      | none => .ok [] G
    | _ => .no
def lcW (t : FG1) (tt : FT) (te : FE) (ρw : En) (k : Wk) (G : GH) : R (List W) := match k with
  | .vals ws => lcF t tt te ρw ws G
  | .own n => lcO n t tt te ρw (lenO G n) 0 G
def gLc (own : Bool) (gi : FI) (t : FG1) (tt : FT) (te : FE) (vs : List Nat) : FE := fun ρ G => (gi ρ G).bind fun k G1 => (lcW t tt te (wipeW ρ vs) k G1).calm.bind fun r G2 => if r.length ≤ sizeLine then mkL own r G2 else .no

section
variable {X : Cx} {Γ : Gm} {Z : WXk}
/-- a list is hidden -/
theorem hide {c : Cf} (s : SR Γ c) {p : Addr} (hp : c.H p = none) (x : Hd) : StpW c ⟨c.ι, c.G, upd c.H p x.ho, fun a => c.B a ∨ a = p⟩ ∧ SR Γ ⟨c.ι, c.G, upd c.H p x.ho, fun a => c.B a ∨ a = p⟩ := by
  have np : p ∉ c.ι := fun h => s.all p h hp
  have st : StpW c ⟨c.ι, c.G, upd c.H p x.ho, fun a => c.B a ∨ a = p⟩ := ⟨fun _ _ h => h, fun a o h _ => by
      show upd c.H p _ a = some o
      rw [upd_ne (ne_of_none h hp)]; exact h, fun a h => by
      show upd c.H p _ a ≠ none
      by_cases e : a = p
      · subst e; rw [upd_same]; simp
      · rw [upd_ne e]; exact h, fun a h => by
      rcases h with h | h | h
      · exact .inl (.inl h)
      · exact .inl (.inr h)
      · exact .inr (h ▸ hp)⟩
  refine ⟨st, ⟨s.len, s.nd, fun a h => st.there a (s.all a h), fun n o h => ?_, fun a h => ?_⟩⟩
  · obtain ⟨a, q, e1, e2, r⟩ := s.obj n o h
    exact ⟨a, q, e1, by show upd c.H p _ a = some q; rw [upd_ne (ne_of_none e2 hp)]; exact e2, r.stpW s st⟩
  · rcases h with h | h
    · obtain ⟨⟨ys, e⟩, na⟩ := s.hid a h
      exact ⟨⟨ys, by show upd c.H p _ a = _; rw [upd_ne (ne_of_none e hp)]; exact e⟩, na⟩
    · subst h
      exact ⟨⟨x, upd_same⟩, np⟩
/-- a hidden list is written -/
theorem hidSet {c : Cf} (s : SR Γ c) {p : Addr} (hp : c.B p) (x : Hd) : StpW c ⟨c.ι, c.G, upd c.H p x.ho, c.B⟩ ∧ SR Γ ⟨c.ι, c.G, upd c.H p x.ho, c.B⟩ := by
  obtain ⟨⟨xs, ep⟩, np⟩ := s.hid p hp
  have st : StpW c ⟨c.ι, c.G, upd c.H p x.ho, c.B⟩ := ⟨fun _ _ h => h, fun a o h n => by
      show upd c.H p _ a = some o
      rw [upd_ne (show a ≠ p from fun e => n (.inr (e ▸ hp)))]; exact h, fun a h => by
      show upd c.H p _ a ≠ none
      by_cases e : a = p
      · subst e; rw [upd_same]; simp
      · rw [upd_ne e]; exact h, fun a h => .inl h⟩
  refine ⟨st, ⟨s.len, s.nd, fun a h => st.there a (s.all a h), fun n o h => ?_, fun a h => ?_⟩⟩
  · obtain ⟨a, q, e1, e2, r⟩ := s.obj n o h
    refine ⟨a, q, e1, ?_, r.stpW s st⟩
    show upd c.H p _ a = some q
    rw [upd_ne (show a ≠ p from fun e => np (e ▸ List.mem_of_getElem? e1))]; exact e2
  · by_cases e : a = p
    · subst e; exact ⟨⟨x, upd_same⟩, np⟩
    · obtain ⟨⟨zs, e1⟩, na⟩ := s.hid a h
      exact ⟨⟨zs, by show upd c.H p _ a = _; rw [upd_ne e]; exact e1⟩, na⟩
/-- a hidden list is a value, or owned -/
theorem unhide {c0 c : Cf} {p : Addr} {xs : List V} {ws : List W} {own : Bool} {E : XK} {Q : V → Hp → Prop} (s0 : SR Γ c0) (hp : c0.H p = none) (s : SR Γ c) (st : StpW c0 c) (kp : ∀ a o, c0.H a = some o → ¬ c0.Ow a → c.H a = some o) (hB : c.B = fun a => c0.B a ∨ a = p) (hx : c.H p = some (.lst xs)) (r : c.RpAll Γ xs ws)
    (h : Th Γ E (Cf.Rp Γ) c0 Q (mkL own ws c.G)) : Q (.ref p) c.H := by
  have np : p ∉ c.ι := (s.hid p (by rw [hB]; exact .inr rfl)).2
  have nB0 : ¬ c0.B p := fun z => by
    obtain ⟨⟨xs, e⟩, _⟩ := s0.hid p z
    rw [hp] at e; cases e
  have owS : ∀ a, c.Ow a → c0.Ow a ∨ c0.H a = none := fun a z => by
    rcases st.own a (.inl z) with (q | q) | q
    · exact .inl q
    · exact absurd (show a ∈ c.ι from by obtain ⟨n, o, _, e⟩ := z; exact List.mem_of_getElem? e) (s.hid a (by rw [hB]; exact .inl q)).2
    · exact .inr q
  cases own with
  | false =>
    -- the list is a value
    have st1 : Stp c0 ⟨c.ι, c.G, c.H, c0.B⟩ := ⟨st.pre, kp, st.there, owS, rfl⟩
    have wk : StpW c ⟨c.ι, c.G, c.H, c0.B⟩ := ⟨fun _ _ h => h, fun _ _ h _ => h, fun _ h => h, fun a z => by
      rcases z with z | z
      · exact .inl (.inl z)
      · exact .inl (.inr (by rw [hB]; exact .inl z))⟩
    have s1 : SR Γ ⟨c.ι, c.G, c.H, c0.B⟩ := ⟨s.len, s.nd, s.all, fun n o e => by
      obtain ⟨a, q, e1, e2, r⟩ := s.obj n o e
      exact ⟨a, q, e1, e2, r.stpW s wk⟩, fun a z => s.hid a (by rw [hB]; exact .inl z)⟩
    refine h ⟨c.ι, c.G, c.H, c0.B⟩ _ st1 s1 rfl (.lst (.inl hx) (fun z => ?_) (wk.rpAll s r))
    rcases z with ⟨n, o, _, e⟩ | z
    · exact np (List.mem_of_getElem? e)
    · exact nB0 z
  | true =>
    have pre : ∀ (n : Nat) (a : Addr), c.ι[n]? = some a → (c.ι ++ [p])[n]? = some a := fun n a h => by
      rw [List.getElem?_append_left (List.getElem?_eq_some_iff.mp h).1]; exact h
    have owN : ∀ a, Own (c.ι ++ [p]) (c.G.push (.lst ws)) a → c.Ow a ∨ a = p := fun a ⟨n, u, h1, h2⟩ => by
      have h1 : (if n = c.G.n then some (AO.lst ws) else c.G.at_ n) = some u := h1
      by_cases e : n = c.G.n
      · subst e
        rw [← s.len, List.getElem?_append_right (Nat.le_refl _), Nat.sub_self] at h2
        cases h2
        exact .inr rfl
      · rw [if_neg e] at h1
        obtain ⟨b, _, e1, _, _⟩ := s.obj n u h1
        rw [pre n b e1] at h2
        cases h2
        exact .inl ⟨n, u, h1, e1⟩
    have st1 : Stp c0 ⟨c.ι ++ [p], c.G.push (.lst ws), c.H, c0.B⟩ := ⟨fun n a e => pre n a (st.pre n a e), kp, st.there, fun a z => by
      rcases owN a z with z | z
      · exact owS a z
      · exact .inr (z ▸ hp), rfl⟩
    have wk : StpW c ⟨c.ι ++ [p], c.G.push (.lst ws), c.H, c0.B⟩ := ⟨pre, fun _ _ h _ => h, fun _ h => h, fun a z => by
      rcases z with z | z
      · rcases owN a z with z | z
        · exact .inl (.inl z)
        · exact .inl (.inr (by rw [hB]; exact .inr z))
      · exact .inl (.inr (by rw [hB]; exact .inl z))⟩
    have s1 : SR Γ ⟨c.ι ++ [p], c.G.push (.lst ws), c.H, c0.B⟩ := by
      refine ⟨by show (c.ι ++ [p]).length = c.G.n + 1; rw [List.length_append, s.len]; rfl, ?_, fun a z => ?_, fun n u e => ?_, fun a z => ?_⟩
      · refine List.nodup_append.mpr ⟨s.nd, by simp, fun a ha b hb => ?_⟩
        have : b = p := by simpa using hb
        subst this
        exact fun e => np (e ▸ ha)
      · rcases List.mem_append.mp z with z | z
        · exact s.all a z
        · have : a = p := by simpa using z
          subst this
          show c.H a ≠ none
          rw [hx]; simp
      · have e : (if n = c.G.n then some (AO.lst ws) else c.G.at_ n) = some u := e
        by_cases k : n = c.G.n
        · subst k
          rw [if_pos rfl] at e
          cases e
          exact ⟨p, _, new_own_at s p, hx, .lst (wk.rpAll s r)⟩
        · rw [if_neg k] at e
          obtain ⟨a, q, e1, e2, r'⟩ := s.obj n u e
          exact ⟨a, q, pre n a e1, e2, r'.stpW s wk⟩
      · obtain ⟨e, na⟩ := s.hid a (by rw [hB]; exact .inl z)
        refine ⟨e, fun m => ?_⟩
        rcases List.mem_append.mp m with m | m
        · exact na m
        · have : a = p := by simpa using m
          exact nB0 (this ▸ z)
    exact h ⟨c.ι ++ [p], c.G.push (.lst ws), c.H, c0.B⟩ _ st1 s1 rfl (.ref (new_own_at s p))

theorem lc_ok {own : Bool} {t : FG1} {sl vs : List Nat} {tt : FT} {te : FE} {J : It} {ws : List W} {c0 : Cf} {ρ0 : En} {σ0 : L2.St} {E : XK} {Q : V → Hp → Prop} (hsl : ∀ i ∈ sl, i ∈ vs) (s0 : SR Γ c0) (wk : Walks Γ c0 J ws) (en0 : c0.En Γ ρ0 σ0)
    (th0 : Th Γ E (Cf.Rp Γ) c0 Q ((lcF t tt te (wipeW ρ0 vs) ws c0.G).calm.bind fun r G2 => if r.length ≤ sizeLine then mkL own r G2 else .no)) {D : Addr} (hD : c0.H D = none) :
    ∃ Wd : Nat → Nat → Hp → Prop, (∃ m, Wd 0 m (upd c0.H D (.lst []))) ∧ ∀ i m H, Wd i m H →
      (J.stop i H ∧ Q (.ref D) H) ∨ (J.go i H ∧ ∃ Nx : Hp → Prop, (∀ H', Nx H' → ∃ m', m' < m ∧ Wd (i + 1) m' H') ∧ ∀ x H', J.yld i H x H' → absG1 Γ sl t x (wipe σ0 vs) H' fun σ2 H2 => wipe σ2 vs = wipe σ0 vs ∧ absT Γ Z0 tt σ2 H2 fun b H3 =>
        if b = true then absE Γ Z0 te σ2 H3 fun y H4 => ∃ acc, H4 D = some (.lst acc) ∧ acc.length < sizeLine ∧ Nx (upd H4 D (.lst (acc ++ [y]))) else Nx H3) := by
  -- what holds ahead of turn i
  refine ⟨fun i m H => m = ws.length - i ∧ i ≤ ws.length ∧ ∃ (c : Cf) (xs : List V) (acc : List W), c.H = H ∧ SR Γ c ∧ StpW c0 c ∧ (∀ a o, c0.H a = some o → ¬ c0.Ow a → c.H a = some o) ∧ (c.B = fun a => c0.B a ∨ a = D) ∧ c.H D = some (.lst xs) ∧ c.RpAll Γ xs acc ∧
    Th Γ E (Cf.Rp Γ) c0 Q ((lcF t tt te (wipeW ρ0 vs) (ws.drop i) c.G).calm.bind fun r G2 => if (acc ++ r).length ≤ sizeLine then mkL own (acc ++ r) G2 else .no), ?_, ?_⟩
  · obtain ⟨st1, s1⟩ := hide s0 hD (.l [])
    refine ⟨_, rfl, Nat.zero_le _, ⟨c0.ι, c0.G, upd c0.H D (.lst []), fun a => c0.B a ∨ a = D⟩, [], [], rfl, s1, st1, fun a o e _ => ?_, rfl, upd_same, .nil, by simpa using th0⟩
    show upd c0.H D _ a = some o
    rw [upd_ne (ne_of_none e hD)]; exact e
  · rintro i m H ⟨rfl, hi, c, xs, acc, rfl, s, st, kp, hB, hx, rx, th⟩
    by_cases hlt : i < ws.length
    · have ed : ws.drop i = ws[i] :: ws.drop (i + 1) := (List.drop_eq_getElem_cons hlt)
      rw [ed] at th
      refine .inr ⟨wk.go c st s i hlt, fun H => ∃ (c : Cf) (xs : List V) (acc : List W), c.H = H ∧ SR Γ c ∧ StpW c0 c ∧ (∀ a o, c0.H a = some o → ¬ c0.Ow a → c.H a = some o) ∧ (c.B = fun a => c0.B a ∨ a = D) ∧ c.H D = some (.lst xs) ∧ c.RpAll Γ xs acc ∧
        Th Γ E (Cf.Rp Γ) c0 Q ((lcF t tt te (wipeW ρ0 vs) (ws.drop (i + 1)) c.G).calm.bind fun r G2 => if (acc ++ r).length ≤ sizeLine then mkL own (acc ++ r) G2 else .no), fun H' h => ⟨_, by omega, rfl, hlt, h⟩, fun x H' y => ?_⟩
      obtain ⟨w, c1, ew, e1, st1, s1, eG, rw1⟩ := wk.yld c st s i x H' hlt y
      have ew : ws[i] = w := by rw [List.getElem?_eq_getElem hlt] at ew; exact Option.some.inj ew
      rw [ew] at th
      have oB : ¬ c.Ow D := fun ⟨n, o, _, e⟩ => (s.hid D (by rw [hB]; exact .inr rfl)).2 (List.mem_of_getElem? e)
      -- a state that is a step on keeps all this
      have on : ∀ c', Stp c c' → SR Γ c' → StpW c0 c' ∧ (∀ a o, c0.H a = some o → ¬ c0.Ow a → c'.H a = some o) ∧ (c'.B = fun a => c0.B a ∨ a = D) ∧ c'.H D = some (.lst xs) ∧ c'.RpAll Γ xs acc := fun c' st' s' =>
        ⟨st.trans st'.w, (fun a o e n => by
          refine st'.keep a o (kp a o e n) fun z => ?_
          rcases st.own a (.inl z) with (q | q) | q
          · exact n q
          · exact (s.hid a (by rw [hB]; exact .inl q)).2 (by obtain ⟨n, o, _, e⟩ := z; exact List.mem_of_getElem? e)
          · rw [q] at e; cases e), st'.bl.trans hB, st'.keep D _ hx oB, st'.rpAll s rx⟩
      refine ⟨c1, wipeW ρ0 vs, w, e1, s1, wipeW_en (st1.en s (st.en s0 en0)) vs, rw1, ?_⟩
      unfold lcF lcTurn at th
      rw [eG]
      cases k : t w (wipeW ρ0 vs) c.G with
      | none => rw [k] at th; exact th.elim
      | some p =>
        obtain ⟨ρ1, G1⟩ := p
        rw [k] at th
        simp only at th ⊢
        intro c2 σ2 st2 s2 e2 en2 ag
        refine ⟨wipe_agr ag hsl, c2, ρ1, rfl, s2, en2, ?_⟩
        rw [e2]
        cases kt : tt ρ1 G1 with
        | ex x G2 => rw [kt] at th; exact th.elim
        | no => rw [kt] at th; exact th.elim
        | ok b G2 =>
          rw [kt] at th
          intro c3 b' st3 s3 e3 eb
          subst eb
          have st13 : Stp c c3 := st1.trans (st2.trans st3)
          cases b' with
          | false =>
            rw [if_neg Bool.false_ne_true]
            obtain ⟨a1, a2, a3, a4, a5⟩ := on c3 st13 s3
            refine ⟨c3, xs, acc, rfl, s3, a1, a2, a3, a4, a5, ?_⟩
            rw [e3]
            simp only [R.calm, R.bind, Bool.false_eq_true, if_false] at th
            cases q : lcF t tt te (wipeW ρ0 vs) (ws.drop (i + 1)) G2 with
            | ok r G3 => rw [q] at th; exact th
            | ex x G3 => rw [q] at th; exact th.elim
            | no => rw [q] at th; exact th.elim
          | true =>
            rw [if_pos rfl]
            refine ⟨c3, ρ1, rfl, s3, st3.en s2 en2, ?_⟩
            rw [e3]
            simp only [R.calm, R.bind, if_true] at th
            cases kv : te ρ1 G2 with
            | ex x G3 => rw [kv] at th; exact th.elim
            | no => rw [kv] at th; exact th.elim
            | ok y G3 =>
              rw [kv] at th
              simp only at th
              intro c4 v st4 s4 e4 rv
              have st14 : Stp c c4 := st13.trans st4
              obtain ⟨a1, a2, a3, a4, a5⟩ := on c4 st14 s4
              have hBD : c4.B D := by rw [a3]; exact .inr rfl
              obtain ⟨st5, s5⟩ := hidSet s4 hBD (.l (xs ++ [v]))
              cases q : lcF t tt te (wipeW ρ0 vs) (ws.drop (i + 1)) G3 with
              | ex x G3 => rw [q] at th; exact th.elim
              | no => rw [q] at th; exact th.elim
              | ok r G4 =>
                rw [q] at th
                have th : Th Γ E (Cf.Rp Γ) c0 Q (if (acc ++ (y :: r)).length ≤ sizeLine then mkL own (acc ++ (y :: r)) G4 else .no) := th
                have hz : acc.length < sizeLine := by
                  by_cases z : (acc ++ (y :: r)).length ≤ sizeLine
                  · rw [List.length_append, List.length_cons] at z
                    omega
                  · rw [if_neg z] at th; exact th.elim
                refine ⟨xs, a4, by rw [a5.length]; exact hz, ⟨c4.ι, c4.G, upd c4.H D (.lst (xs ++ [v])), c4.B⟩, xs ++ [v], acc ++ [y], rfl, s5, a1.trans st5, fun a o e n => ?_, a3, upd_same, st5.rpAll s4 (a5.append (.cons rv .nil)), ?_⟩
                · show upd c4.H D _ a = some o
                  rw [upd_ne (ne_of_none e hD)]
                  exact a2 a o e n
                · show Th Γ E (Cf.Rp Γ) c0 Q ((lcF t tt te (wipeW ρ0 vs) (ws.drop (i + 1)) c4.G).calm.bind _)
                  rw [e4, q]
                  have ea : acc ++ [y] ++ r = acc ++ (y :: r) := by simp
                  show Th Γ E (Cf.Rp Γ) c0 Q (if (acc ++ [y] ++ r).length ≤ sizeLine then mkL own (acc ++ [y] ++ r) G4 else .no)
                  rw [ea]
                  exact th
    · have e : i = ws.length := by omega
      subst e
      rw [List.drop_length] at th
      simp only [lcF, R.calm, R.bind, List.append_nil] at th
      by_cases z : acc.length ≤ sizeLine
      · rw [if_pos z] at th
        exact .inl ⟨wk.stop c st s _ (Nat.le_refl _), unhide s0 hD s st kp hB hx rx th⟩
      · rw [if_neg z] at th
        exact th.elim

theorem lcO_ok {own : Bool} {t : FG1} {sl vs : List Nat} {tt : FT} {te : FE} {n k0 : Nat} {a0 : Addr} {c0 : Cf} {ρ0 : En} {σ0 : L2.St} {E : XK} {Q : V → Hp → Prop} (hsl : ∀ i ∈ sl, i ∈ vs) (s0 : SR Γ c0) (ha : c0.ι[n]? = some a0) (en0 : c0.En Γ ρ0 σ0)
    (th0 : Th Γ E (Cf.Rp Γ) c0 Q ((lcO n t tt te (wipeW ρ0 vs) k0 0 c0.G).calm.bind fun r G2 => if r.length ≤ sizeLine then mkL own r G2 else .no)) {D : Addr} (hD : c0.H D = none) :
    ∃ Wd : Nat → Nat → Hp → Prop, (∃ m, Wd 0 m (upd c0.H D (.lst []))) ∧ ∀ i m H, Wd i m H →
      ((Itl Γ.K a0).stop i H ∧ Q (.ref D) H) ∨ ((Itl Γ.K a0).go i H ∧ ∃ Nx : Hp → Prop, (∀ H', Nx H' → ∃ m', m' < m ∧ Wd (i + 1) m' H') ∧ ∀ x H', (Itl Γ.K a0).yld i H x H' → absG1 Γ sl t x (wipe σ0 vs) H' fun σ2 H2 => wipe σ2 vs = wipe σ0 vs ∧ absT Γ Z0 tt σ2 H2 fun b H3 =>
        if b = true then absE Γ Z0 te σ2 H3 fun y H4 => ∃ acc, H4 D = some (.lst acc) ∧ acc.length < sizeLine ∧ Nx (upd H4 D (.lst (acc ++ [y]))) else Nx H3) := by
  -- what holds ahead of turn i
  refine ⟨fun i m H => ∃ (c : Cf) (xs : List V) (acc : List W), c.H = H ∧ SR Γ c ∧ StpW c0 c ∧ (∀ a o, c0.H a = some o → ¬ c0.Ow a → c.H a = some o) ∧ (c.B = fun a => c0.B a ∨ a = D) ∧ c.H D = some (.lst xs) ∧ c.RpAll Γ xs acc ∧
    Th Γ E (Cf.Rp Γ) c0 Q ((lcO n t tt te (wipeW ρ0 vs) m i c.G).calm.bind fun r G2 => if (acc ++ r).length ≤ sizeLine then mkL own (acc ++ r) G2 else .no), ?_, ?_⟩
  · obtain ⟨st1, s1⟩ := hide s0 hD (.l [])
    refine ⟨_, ⟨c0.ι, c0.G, upd c0.H D (.lst []), fun a => c0.B a ∨ a = D⟩, [], [], rfl, s1, st1, fun a o e _ => ?_, rfl, upd_same, .nil, by simpa using th0⟩
    show upd c0.H D _ a = some o
    rw [upd_ne (ne_of_none e hD)]; exact e
  · rintro i m H ⟨c, xs, acc, rfl, s, st, kp, hB, hx, rx, th⟩
    have hn : c.ι[n]? = some a0 := st.pre n a0 ha
    have at_ : ∀ us, c.G.at_ n = some (.lst us) → ∃ xs, SqL Γ.K c.H a0 xs ∧ c.RpAll Γ xs us := fun us e => by
      obtain ⟨b, ho, e1, e2, r⟩ := s.obj n _ e
      rw [hn] at e1; cases e1
      cases r with
      | lst r => exact ⟨_, .inl (.inl e2), r⟩
    have ends : Th Γ E (Cf.Rp Γ) c0 Q (if acc.length ≤ sizeLine then mkL own acc c.G else .no) → Q (.ref D) c.H := fun th => by
      by_cases z : acc.length ≤ sizeLine
      · rw [if_pos z] at th
        exact unhide s0 hD s st kp hB hx rx th
      · rw [if_neg z] at th
        exact th.elim
    cases m with
    | zero =>
      unfold lcO at th
      split at th
      · rename_i us e
        obtain ⟨ys, hq, r⟩ := at_ us e
        by_cases k : us.length ≤ i
        · rw [if_pos k] at th
          simp only [R.calm, R.bind, List.append_nil] at th
          exact .inl ⟨⟨ys, hq, by rw [r.length]; exact k⟩, ends th⟩
        · rw [if_neg k] at th; exact th.elim
      · exact th.elim
    | succ m =>
      unfold lcO at th
      split at th
      rotate_left
      · exact th.elim
      rename_i us e
      obtain ⟨ys, hq, r⟩ := at_ us e
      split at th
      rotate_left
      · rename_i ew
        have hl : us.length ≤ i := List.getElem?_eq_none_iff.mp ew
        simp only [R.calm, R.bind, List.append_nil] at th
        exact .inl ⟨⟨ys, hq, by rw [r.length]; exact hl⟩, ends th⟩
      rename_i w ew
      obtain ⟨v, ev, rw1⟩ := r.get ew
      refine .inr ⟨⟨ys, v, hq, ev⟩, fun H => ∃ (c : Cf) (xs : List V) (acc : List W), c.H = H ∧ SR Γ c ∧ StpW c0 c ∧ (∀ a o, c0.H a = some o → ¬ c0.Ow a → c.H a = some o) ∧ (c.B = fun a => c0.B a ∨ a = D) ∧ c.H D = some (.lst xs) ∧ c.RpAll Γ xs acc ∧
        Th Γ E (Cf.Rp Γ) c0 Q ((lcO n t tt te (wipeW ρ0 vs) m (i + 1) c.G).calm.bind fun r G2 => if (acc ++ r).length ≤ sizeLine then mkL own (acc ++ r) G2 else .no), fun H' h => ⟨m, Nat.lt_succ_self m, h⟩, fun x H' y => ?_⟩
      obtain ⟨rfl, y⟩ := y
      have := y ys hq
      rw [ev] at this
      cases this
      have oB : ¬ c.Ow D := fun ⟨n, o, _, e⟩ => (s.hid D (by rw [hB]; exact .inr rfl)).2 (List.mem_of_getElem? e)
      -- a state that is a step on keeps all this
      have on : ∀ c', Stp c c' → SR Γ c' → StpW c0 c' ∧ (∀ a o, c0.H a = some o → ¬ c0.Ow a → c'.H a = some o) ∧ (c'.B = fun a => c0.B a ∨ a = D) ∧ c'.H D = some (.lst xs) ∧ c'.RpAll Γ xs acc := fun c' st' s' =>
        ⟨st.trans st'.w, (fun a o e n => by
          refine st'.keep a o (kp a o e n) fun z => ?_
          rcases st.own a (.inl z) with (q | q) | q
          · exact n q
          · exact (s.hid a (by rw [hB]; exact .inl q)).2 (by obtain ⟨n, o, _, e⟩ := z; exact List.mem_of_getElem? e)
          · rw [q] at e; cases e), st'.bl.trans hB, st'.keep D _ hx oB, st'.rpAll s rx⟩
      refine ⟨c, wipeW ρ0 vs, w, rfl, s, wipeW_en (st.en s0 en0) vs, rw1, ?_⟩
      unfold lcTurn at th
      cases k : t w (wipeW ρ0 vs) c.G with
      | none => rw [k] at th; exact th.elim
      | some p =>
        obtain ⟨ρ1, G1⟩ := p
        rw [k] at th
        simp only at th ⊢
        intro c2 σ2 st2 s2 e2 en2 ag
        refine ⟨wipe_agr ag hsl, c2, ρ1, rfl, s2, en2, ?_⟩
        rw [e2]
        cases kt : tt ρ1 G1 with
        | ex x G2 => rw [kt] at th; exact th.elim
        | no => rw [kt] at th; exact th.elim
        | ok b G2 =>
          rw [kt] at th
          intro c3 b' st3 s3 e3 eb
          subst eb
          have st13 : Stp c c3 := st2.trans st3
          cases b' with
          | false =>
            rw [if_neg Bool.false_ne_true]
            obtain ⟨a1, a2, a3, a4, a5⟩ := on c3 st13 s3
            refine ⟨c3, xs, acc, rfl, s3, a1, a2, a3, a4, a5, ?_⟩
            rw [e3]
            simp only [R.calm, R.bind, Bool.false_eq_true, if_false] at th
            cases q : lcO n t tt te (wipeW ρ0 vs) m (i + 1) G2 with
            | ok r G3 => rw [q] at th; exact th
            | ex x G3 => rw [q] at th; exact th.elim
            | no => rw [q] at th; exact th.elim
          | true =>
            rw [if_pos rfl]
            refine ⟨c3, ρ1, rfl, s3, st3.en s2 en2, ?_⟩
            rw [e3]
            simp only [R.calm, R.bind, if_true] at th
            cases kv : te ρ1 G2 with
            | ex x G3 => rw [kv] at th; exact th.elim
            | no => rw [kv] at th; exact th.elim
            | ok y G3 =>
              rw [kv] at th
              simp only at th
              intro c4 v st4 s4 e4 rv
              have st14 : Stp c c4 := st13.trans st4
              obtain ⟨a1, a2, a3, a4, a5⟩ := on c4 st14 s4
              have hBD : c4.B D := by rw [a3]; exact .inr rfl
              obtain ⟨st5, s5⟩ := hidSet s4 hBD (.l (xs ++ [v]))
              cases q : lcO n t tt te (wipeW ρ0 vs) m (i + 1) G3 with
              | ex x G3 => rw [q] at th; exact th.elim
              | no => rw [q] at th; exact th.elim
              | ok r G4 =>
                rw [q] at th
                have th : Th Γ E (Cf.Rp Γ) c0 Q (if (acc ++ (y :: r)).length ≤ sizeLine then mkL own (acc ++ (y :: r)) G4 else .no) := th
                have hz : acc.length < sizeLine := by
                  by_cases z : (acc ++ (y :: r)).length ≤ sizeLine
                  · rw [List.length_append, List.length_cons] at z
                    omega
                  · rw [if_neg z] at th; exact th.elim
                refine ⟨xs, a4, by rw [a5.length]; exact hz, ⟨c4.ι, c4.G, upd c4.H D (.lst (xs ++ [v])), c4.B⟩, xs ++ [v], acc ++ [y], rfl, s5, a1.trans st5, fun a o e n => ?_, a3, upd_same, st5.rpAll s4 (a5.append (.cons rv .nil)), ?_⟩
                · show upd c4.H D _ a = some o
                  rw [upd_ne (ne_of_none e hD)]
                  exact a2 a o e n
                · show Th Γ E (Cf.Rp Γ) c0 Q ((lcO n t tt te (wipeW ρ0 vs) m (i + 1) c4.G).calm.bind _)
                  rw [e4, q]
                  have ea : acc ++ [y] ++ r = acc ++ (y :: r) := by simp
                  show Th Γ E (Cf.Rp Γ) c0 Q (if (acc ++ [y] ++ r).length ≤ sizeLine then mkL own (acc ++ [y] ++ r) G4 else .no)
                  rw [ea]
                  exact th
theorem PTs.imp {e : List Expr} {t t' : TT} (h : PTs X e t) (m : ∀ σ H Q, t' σ H Q → t σ H Q) : PTs X e t' := ⟨fun pins s σ H Q I q => h.run pins s σ H Q I (m σ H Q q)⟩
def gYes : FT := fun _ G => .ok true G
theorem fts_nil : PTs X [] (absT Γ Z gYes) := PTs.imp pts_nil fun σ H Q ⟨c, ρ, e, s, en, th⟩ => by
  subst e
  exact Th.pure (v := true) s th rfl
theorem fts_one {a : Expr} {g : FT} (h : PT X a (absT Γ Z g)) : PTs X [a] (absT Γ Z g) := pts_one h
theorem lc_imp {own : Bool} {gi : FI} {t : FG1} {sl vs : List Nat} {tt : FT} {te : FE} {σ : L2.St} {H : Hp} {Q : V → Hp → Prop} (hsl : ∀ i ∈ sl, i ∈ vs) (q : absE Γ Z (gLc own gi t tt te vs) σ H Q) : tLc (absI Γ Z gi) (absG1 Γ sl t) (absT Γ Z0 tt) (absE Γ Z0 te) vs σ H Q := by
  obtain ⟨c, ρ, e, s, en, th⟩ := absG.bind q
  refine ⟨c, ρ, e, s, en, Th.mono th fun J c1 st ⟨c2, ρ2, k, e2, s2, en2, wk, q⟩ => ?_⟩
  rw [← e2]
  cases k with
  | vals ws => exact fun D hD => lc_ok hsl s2 wk en2 q hD
  | own n =>
    obtain ⟨a, ha, rfl⟩ := wk
    exact fun D hD => lcO_ok hsl s2 ha en2 q hD
theorem fe_lc {own : Bool} {elt tg iter : Expr} {ifs : List Expr} {scope : Scope} {onames : List (Str × Nat)} {pos : Pos} {gi : FI} {t : FG1} {sl : List Nat} {tt : FT} {te : FE} (hc : X.calm = true) (hN : X.N.Nodup) (hi : PI X tg iter (absI Γ Z gi)) (ok : BlkOk X.N X.env.scope scope onames)
    (hg : ∀ (s : Shared) (H : Hp) (C : Addr) (cl : List (Str × Addr)) (fp : List Addr), PG (X.blk s H scope (compEnvC scope cl C X.env) fp) tg (absG1 Γ sl t))
    (ht : ∀ (s : Shared) (H : Hp) (C : Addr) (cl : List (Str × Addr)) (fp : List Addr), PTs (X.blk s H scope (compEnvC scope cl C X.env) fp) ifs (absT Γ Z0 tt))
    (he : ∀ (s : Shared) (H : Hp) (C : Addr) (cl : List (Str × Addr)) (fp : List Addr), PE (X.blk s H scope (compEnvC scope cl C X.env) fp) elt (absE Γ Z0 te)) (hsl : ∀ i ∈ sl, i ∈ onames.map (·.2) := by decide) (hs : ∀ x, foldedSetIterable iter X.env x = pure x := by intro _; rfl) :
    PE X (.ListComp elt [⟨tg, iter, ifs, 0⟩] scope pos) (absE Γ Z (gLc own gi t tt te (onames.map (·.2)))) :=
  PE.imp (pe_lc hc hN hi ok hg ht he hs) fun σ H Q q => lc_imp hsl q
/-- y = [..] -/
theorem fs_lc {own : Bool} {i : Nat} {y : Str} {py : Pos} {elt tg iter : Expr} {ifs : List Expr} {scope : Scope} {onames : List (Str × Nat)} {pos spos : Pos} {gi : FI} {t : FG1} {sl : List Nat} {tt : FT} {te : FE} (hc : X.calm = true) (hN : X.N.Nodup) (hy : X.N[i]? = some y) (hyl : X.env.scope.names.lookup y = some .local)
    (hsw : swapsWith (.ListComp elt [⟨tg, iter, ifs, 0⟩] scope pos) (some (.Name y py)) spos.line X.env = pure true) (hi : PI X tg iter (absI Γ Z gi)) (ok : BlkOk X.N X.env.scope scope onames)
    (hg : ∀ (s : Shared) (H : Hp) (C : Addr) (cl : List (Str × Addr)) (fp : List Addr), PG (X.blk s H scope (compEnvC scope cl C X.env) fp) tg (absG1 Γ sl t))
    (ht : ∀ (s : Shared) (H : Hp) (C : Addr) (cl : List (Str × Addr)) (fp : List Addr), PTs (X.blk s H scope (compEnvC scope cl C X.env) fp) ifs (absT Γ Z0 tt))
    (he : ∀ (s : Shared) (H : Hp) (C : Addr) (cl : List (Str × Addr)) (fp : List Addr), PE (X.blk s H scope (compEnvC scope cl C X.env) fp) elt (absE Γ Z0 te)) (hsl : ∀ i ∈ sl, i ∈ onames.map (·.2) := by decide) (hs : ∀ x, foldedSetIterable iter X.env x = pure x := by intro _; rfl) :
    PS X (.Assign [.Name y py] (.ListComp elt [⟨tg, iter, ifs, 0⟩] scope pos) spos) (absS Γ Z (gAsg (gLc own gi t tt te (onames.map (·.2))) (tgName i))) :=
  PS.imp (ps_setLc hc hN hy hyl hsw hi ok hg ht he hs) fun D σ H q => by
    have z := asg_ok (sl := [i]) q
    have z2 : absE Γ Z (gLc own gi t tt te (onames.map (·.2))) σ H (fun v H1 => gName i v σ H1 D.nx) := absE.mono z fun v H' ⟨c, ρ, w, e, s, en, r, q⟩ => by
      subst e
      exact q c _ (Stp.refl c) s rfl (en.set r i) ⟨List.length_set, fun j h => List.getElem?_set_ne (fun z => h (by simp [z]))⟩
    exact lc_imp hsl z2
end
end Fn

set_option Elab.async false
set_option linter.all false
set_option maxRecDepth 100000
namespace Fn
open PySem PySem.Spec PyProof.Rows L2
section
variable {X : Cx} {Γ : Gm} {Z : WXk}

/-! ### a call of a built-in -/
abbrev FC := List W → GH → R W
def CallF (X : Cx) (Γ : Gm) (f : Value) (g : FC) : Prop :=
  ∃ r, CallR X f r ∧ ∀ (c : Cf) (vs : List V) (ws : List W) (Q : VK) (E : XK), SR Γ c → c.RpAll Γ vs ws → Th Γ E (Cf.Rp Γ) c Q (g ws c.G) → r vs c.H Q
def gCall (g : FC) (ga : FA) : FE := fun ρ G => (ga ρ G).bind g
theorem call_imp {r : List V → Hp → VK → Prop} {g : FC} {ga : FA} {σ : L2.St} {H : Hp} {Q : VK} (h : ∀ (c : Cf) (vs : List V) (ws : List W) (Q : VK) (E : XK), SR Γ c → c.RpAll Γ vs ws → Th Γ E (Cf.Rp Γ) c Q (g ws c.G) → r vs c.H Q)
    (q : absE Γ Z (gCall g ga) σ H Q) : tCB r (absA Γ Z ga) σ H Q := by
  obtain ⟨c, ρ, e, s, en, th⟩ := absG.bind q
  refine ⟨c, ρ, e, s, en, Th.mono th fun vs c1 st ⟨c2, ρ2, ws, e2, s2, en2, ra, q⟩ => ?_⟩
  rw [← e2]
  exact h c2 vs ws Q _ s2 ra q
theorem fe_callB {id : String} {g : FC} {ga : FA} {x : Str} {p pos : Pos} {e : Expr} {es : List Expr} (hc : CallF X Γ (.builtin id) g) (hg : Gl X x) (hm : X.mg x = none) (hv : bootBuiltins x = some (.builtin id)) (ha : PA X (e :: es) (absA Γ Z ga)) (hn : x ≠ "__name__" := by decide) (hdb : (x == ("__debug__" : Str)) = false := by decide)
    (he : starEach (e :: es) X.env = (false, eval e X.env) :: starEach es X.env := by rfl) (hpl : (backTo pos (starEach es X.env)).any (·.1) = false := by rfl) : PE X (.Call (.Name x p) (e :: es) [] pos) (absE Γ Z (gCall g ga)) := by
  obtain ⟨r, hr, h⟩ := hc
  exact PE.imp (pe_callB hr hg hm hv ha hn hdb he hpl) fun σ H Q q => call_imp h q
theorem fe_callTy {T : String} {g : FC} {ga : FA} {x : Str} {p pos : Pos} {e : Expr} {es : List Expr} (hc : CallF X Γ (.type T) g) (hg : Gl X x) (hm : X.mg x = none) (hv : bootBuiltins x = some (.type T)) (ha : PA X (e :: es) (absA Γ Z ga)) (hn : x ≠ "__name__" := by decide) (hdb : (x == ("__debug__" : Str)) = false := by decide)
    (he : starEach (e :: es) X.env = (false, eval e X.env) :: starEach es X.env := by rfl) (hpl : (backTo pos (starEach es X.env)).any (·.1) = false := by rfl) : PE X (.Call (.Name x p) (e :: es) [] pos) (absE Γ Z (gCall g ga)) := by
  obtain ⟨r, hr, h⟩ := hc
  exact PE.imp (pe_callTy hr hg hm hv ha hn hdb he hpl) fun σ H Q q => call_imp h q
/-- a type as a value -/
theorem fe_ty {x : Str} {T : String} {pos : Pos} (hg : Gl X x) (hm : X.mg x = none) (hv : bootBuiltins x = some (.type T)) (hn : x ≠ "__name__" := by decide) (hd : (x == ("__debug__" : Str)) = false := by decide) : PE X (.Name x pos) (absE Γ Z (gC (.op (.ty T)))) :=
  fe_c (pe_bltn (v := .ty T) hg hm hv rfl hn hd) fun _ => .op _

/-! ### len, int, str, list, tuple, isinstance -/
def cLen : FC := fun ws G => match ws with
  | [.str y] => if y.length ≤ sizeLine then .ok (.int y.length) G else .no
  | [w] => match sqs G w with
    | some ws => .ok (.int ws.length) G
    | none => .no
  | _ => .no
theorem cf_len (hK : Γ.K = X.K := by rfl) : CallF X Γ (.builtin "len") cLen := ⟨_, call_len, fun c vs ws Q E s ra h => by
  unfold cLen at h
  split at h
  · rename_i y
    obtain ⟨v, rfl, r⟩ := RpAll.one (c := c) ra
    cases Rp.str_of (c := c) r
    by_cases k : y.length ≤ sizeLine
    · rw [if_pos k] at h
      exact ⟨_, _, rfl, ⟨k, rfl⟩, h.pure s (.int _)⟩
    · rw [if_neg k] at h; exact h.elim
  · obtain ⟨v, rfl, r⟩ := RpAll.one (c := c) ra
    split at h
    · obtain ⟨p, xs, rfl, hq, rr⟩ := sqs_ok s (by assumption) r
      refine ⟨_, xs.length, rfl, ?_, ?_⟩
      · rcases hq with hq | hq
        · exact .inl ⟨xs, hK ▸ hq, rfl⟩
        · exact .inr ⟨xs, hK ▸ hq, rfl⟩
      · rw [rr.length]
        exact h.pure s (.int _)
    · exact h.elim
  · exact h.elim⟩
def cInt : FC := fun ws G => match ws with
  | [.int i] => .ok (.int i) G
  | [.bl k] => .ok (.int (if k then 1 else 0)) G
  | _ => .no
theorem cf_int : CallF X Γ (.type "int") cInt := ⟨_, call_int1, fun c vs ws Q E s ra h => by
  unfold cInt at h
  split at h
  · obtain ⟨v, rfl, r⟩ := RpAll.one (c := c) ra
    cases Rp.int_of (c := c) r
    exact .inl ⟨_, rfl, h.pure s (.int _)⟩
  · obtain ⟨v, rfl, r⟩ := RpAll.one (c := c) ra
    cases Rp.bl_of (c := c) r
    exact .inr ⟨_, rfl, h.pure s (.int _)⟩
  · exact h.elim⟩
def cStr : FC := fun ws G => match ws with
  | [.int i] => if i.natAbs.log2 < 1920 then .ok (.str (toString i)) G else .no
  | _ => .no
theorem cf_str : CallF X Γ (.type "str") cStr := ⟨_, call_str_int, fun c vs ws Q E s ra h => by
  unfold cStr at h
  split at h
  · rename_i i
    obtain ⟨v, rfl, r⟩ := RpAll.one (c := c) ra
    cases Rp.int_of (c := c) r
    by_cases k : i.natAbs.log2 < 1920
    · rw [if_pos k] at h
      exact ⟨_, rfl, k, h.pure s (.str _)⟩
    · rw [if_neg k] at h; exact h.elim
  · exact h.elim⟩
def cList (own : Bool) : FC := fun ws G => match ws with
  | [w] => match sqs G w with
    | some ws => mkL own ws G
    | none => .no
  | _ => .no
theorem cf_list {own : Bool} (hK : Γ.K = X.K := by rfl) : CallF X Γ (.type "list") (cList own) := ⟨_, call_list_of, fun c vs ws Q E s ra h => by
  unfold cList at h
  split at h
  · obtain ⟨v, rfl, r⟩ := RpAll.one (c := c) ra
    split at h
    · obtain ⟨p, xs, rfl, hq, rr⟩ := sqs_ok s (by assumption) r
      exact ⟨p, xs, rfl, hK ▸ hq, fun l hl => mkL_ok s rr h hl⟩
    · exact h.elim
  · exact h.elim⟩
def cTuple : FC := fun ws G => match ws with
  | [w] => match sqs G w with
    | some ws => .ok (.tup ws) G
    | none => .no
  | _ => .no
theorem cf_tuple (hK : Γ.K = X.K := by rfl) : CallF X Γ (.type "tuple") cTuple := ⟨_, call_tuple_of, fun c vs ws Q E s ra h => by
  unfold cTuple at h
  split at h
  · obtain ⟨v, rfl, r⟩ := RpAll.one (c := c) ra
    split at h
    · rename_i w _ us e
      unfold sqs at e
      split at e
      · cases e
        obtain ⟨p, xs, rfl, hq, rr⟩ := tsq_ok (by assumption) r
        refine ⟨p, xs, rfl, .inr ⟨hK ▸ hq, ?_⟩⟩
        rename_i e
        have ew : w = .tup us := by
          unfold tsq at e
          split at e
          · cases e; rfl
          · cases e
        subst ew
        exact h.pure s r
      · obtain ⟨p, xs, rfl, hq, rr⟩ := lsq_ok s e r
        exact ⟨p, xs, rfl, .inl ⟨hK ▸ hq, fun l hl => mkT_ok s rr h hl⟩⟩
    · exact h.elim
  · exact h.elim⟩
/-- isinstance of data -/
def isaD (T : String) (d : PyData) : Option Bool :=
  if T = "tuple" then some d.isTuple else if T = "bool" then some d.isBool else if T = "int" then some d.isInt else if T = "str" then some d.isStr else if T = "list" then some d.isList else none
def rIsaD (K : PySem.W.Frag) : List V → Hp → VK → Prop := fun xs H Q => ∃ x T d b, xs = [x, .ty T] ∧ Dp K H x d ∧ isaD T d = some b ∧ Q (.bl b) H
theorem call_isaD : CallR X (.builtin "isinstance") (rIsaD X.K) := by
  intro pins s σ H xs us Q I r h
  obtain ⟨x, T, d, b, rfl, hd, e, q⟩ := h
  obtain ⟨u1, u2, rfl, r1, r2⟩ := vals2 r
  cases (show u2 = Value.type T from r2)
  obtain ⟨as, rr⟩ := Dp.reads I d x u1 hd r1
  have fin : ∀ tk, EP X pins σ Q (.bool b) { s with toks := tk } := fun tk => ⟨.bl b, H, I.tok tk, rfl, q⟩
  unfold isaD at e
  split at e
  · subst T; cases e; exact PySem.W.isinstance_tuple_data rr fun tk _ => fin tk
  · split at e
    · subst T; cases e; exact PySem.W.isinstance_bool_data rr fun tk _ => fin tk
    · split at e
      · subst T; cases e; exact PySem.W.isinstance_int_data rr fun tk _ => fin tk
      · split at e
        · subst T; cases e; exact PySem.W.isinstance_str_data rr fun tk _ => fin tk
        · split at e
          · subst T; cases e; exact PySem.W.isinstance_list_data rr fun tk _ => fin tk
          · cases e
/-- .. by values: nothing within is looked at -/
def isaW (T : String) (w : W) : Option Bool := match w with
  | .non => isaD T .none
  | .bl b => isaD T (.bool b)
  | .int i => isaD T (.int i)
  | .str x => isaD T (.str x)
  | .tup _ => isaD T (.tuple [])
  | .lst _ => isaD T (.list [])
  | _ => none
def cIsa : FC := fun ws G => match ws with
  | [w, .op (.ty T)] => if (res G w).pl then match isaW T (res G w) with
      | some b => .ok (.bl b) G
      | none => .no
    else .no
  | _ => .no
theorem isaW_toD {T : String} {w : W} {b : Bool} (h : isaW T w = some b) : isaD T w.toD = some b := by
  cases w with
  | tup ws => exact h
  | lst ws => exact h
  | dic _ _ => cases h
  | ins _ _ _ => cases h
  | ref _ => cases h
  | op _ => cases h
  | cl _ => cases h
  | _ => exact h
theorem cf_isa (hK : Γ.K = X.K := by rfl) : CallF X Γ (.builtin "isinstance") cIsa := ⟨_, call_isaD, fun c vs ws Q E s ra h => by
  unfold cIsa at h
  split at h
  · rename_i w T
    obtain ⟨v, x, rfl, r1, r2⟩ := RpAll.two (c := c) ra
    cases r2
    by_cases k : (res c.G w).pl = true
    · rw [if_pos k] at h
      split at h
      · exact ⟨v, T, _, _, rfl, hK ▸ res_dp s r1 k, isaW_toD (by assumption), h.pure s (.bl _)⟩
      · exact h.elim
    · rw [if_neg k] at h; exact h.elim
  · exact h.elim⟩

/-! ### a def -/
/-- a def's promise, by the function that it computes -/
def absF (Γ : Gm) (n : Nat) (F : FC) : Sp := fun vs H Q E => vs.length = n ∧ ∃ (c : Cf) (ws : List W), c.H = H ∧ SR Γ c ∧ c.RpAll Γ vs ws ∧ Th Γ E (Cf.Rp Γ) c Q (F ws c.G)
def RS.fin (r : RS) : R W := match r with
  | .nx _ G => .ok .non G
  | .rt w G => .ok w G
  | .ex x _ G => .ex x G
  | _ => .no
def startW (n : Nat) (ws : List W) : En := ws.map some ++ List.replicate (n - ws.length) none
def fnF (n : Nat) (g : FS) : FC := fun ws G => (g (startW n ws) G).fin
theorem startW_en {c : Cf} {N : List Str} {vs : List V} {ws : List W} (r : c.RpAll Γ vs ws) : c.En Γ (startW N.length ws) (L2.start N vs) := by
  have hl := r.length
  unfold startW L2.start
  refine ⟨by simp [hl], fun i w e => ?_⟩
  by_cases hi : i < ws.length
  · rw [List.getElem?_append_left (by simpa using hi), List.getElem?_map] at e
    cases k : ws[i]? with
    | none => rw [k] at e; cases e
    | some u =>
      rw [k] at e
      cases e
      obtain ⟨v, e1, rv⟩ := r.get k
      refine ⟨v, ?_, rv⟩
      rw [List.getElem?_append_left (by rw [List.length_map, hl]; exact hi), List.getElem?_map, e1]
      rfl
  · rw [List.getElem?_append_right (by simpa using hi), List.getElem?_replicate] at e
    split at e <;> cases e
theorem fn_end {E : XK} {Q : VK} {c : Cf} {N : List Str} {vs : List V} {ws : List W} {g : FS} (s : SR Γ c) (r : c.RpAll Γ vs ws) (h : Th Γ E (Cf.Rp Γ) c Q (fnF N.length g ws c.G)) :
    absS Γ (fun cls d _ H => E cls d H) g { nx := fun _ H' => Q .non H', rt := Q } (L2.start N vs) c.H := by
  refine ⟨c, startW N.length ws, rfl, s, startW_en r, ?_⟩
  unfold fnF at h
  cases k : g (startW N.length ws) c.G with
  | nx ρ G => rw [k] at h; exact fun c' σ a b e en => h c' .non a b e .non
  | rt w G => rw [k] at h; exact fun c' v a b e rv => h c' v a b e rv
  | ex x ρ G => rw [k] at h; exact fun c' σ cls d a b e en rx => h c' cls d a b e rx
  | bk ρ G => rw [k] at h; exact h.elim
  | ct ρ G => rw [k] at h; exact h.elim
  | no => rw [k] at h; exact h.elim
def fnC (n : Nat) (g : FS) : FC := fun ws G => (fnF n g ws G).calm
/-- THE RULE for a def that raises nothing -/
theorem fn0 {P : Program} {w : World} {mg : Str → Option Value} {base : Heap} {x qual : Str} {st : Stmt} {f : Addr} {fd : FuncData} {N ps : List Str} {k : Nat} {g : FS} (F : Fun Γ.K x qual st f fd) (S : FnScope N ps (defScope st))
    (hbody : ∀ (cdv : Value) (A : Around) (outer : List Env) (s : Shared) (H : Hp) (E : XK), Room k (A.deeper (envOfC qual (defScope st) s.heap.objs.size f cdv)) →
      PSs (cxOf CX0 P w Γ.K mg base N qual (defScope st) f cdv A outer s H E).nox (defBody st) (absS Γ Z0 g)) : FnOk P w Γ.K mg base CX0 (k + 1) f fd ps (absF Γ ps.length (fnC N.length g)) := by
  refine F.ok S (fun vs H Q E h => h.1) (fun cdv A outer s H vs Q E hr h => ?_)
  obtain ⟨hl, c, ws, rfl, sr, r, th⟩ := h
  exact ⟨_, hbody cdv A outer s c.H E hr, fn_end (E := E0) sr r (R.calm_th th)⟩
def cFn (n : Nat) (F : FC) : FC := fun ws G => if ws.length = n then (F ws G).calm else .no
/-- a call of such a def -/
theorem fe_call {k : Nat} {f : Addr} {fd : FuncData} {ps : List Str} {n : Nat} {F : FC} {ga : FA} {x : Str} {p pos : Pos} {e : Expr} {es : List Expr} (F0 : FnOk X.prog X.w X.K X.mg X.base CX0 k f fd ps (absF Γ n F)) (hr : Room k X.A) (hg : Gl X x) (hm : X.mg x = some (.ref f)) (hk : PySem.W.keepIn X.K (.ref f) = true)
    (hb : Binds X.K fd ps []) (ha : PA X (e :: es) (absA Γ Z ga)) (hdb : (x == ("__debug__" : Str)) = false := by decide) (he : starEach (e :: es) X.env = (false, eval e X.env) :: starEach es X.env := by rfl) (hpl : (backTo pos (starEach es X.env)).any (·.1) = false := by rfl) :
    PE X (.Call (.Name x p) (e :: es) [] pos) (absE Γ Z (gCall (cFn n F) ga)) := PE.imp (pe_call F0 hr hg hm hk hb .nil pass0 ha hdb he hpl) fun σ H Q q => by
  obtain ⟨c, ρ, e, s, en, th⟩ := absG.bind q
  refine ⟨c, ρ, e, s, en, Th.mono th fun vs c1 st ⟨c2, ρ2, ws, e2, s2, en2, ra, q⟩ => ?_⟩
  unfold cFn at q
  by_cases hl : ws.length = n
  · rw [if_pos hl] at q
    rw [List.append_nil]
    exact ⟨ra.length.trans hl, c2, ws, e2, s2, ra, R.calm_th q⟩
  · rw [if_neg hl] at q
    exact q.elim
theorem fe_call0 {k : Nat} {f : Addr} {fd : FuncData} {F : FC} {x : Str} {p pos : Pos} {ps : List Str} (F0 : FnOk X.prog X.w X.K X.mg X.base CX0 k f fd ps (absF Γ 0 F)) (hr : Room k X.A) (hg : Gl X x) (hm : X.mg x = some (.ref f)) (hk : PySem.W.keepIn X.K (.ref f) = true)
    (hb : Binds X.K fd ps []) (hdb : (x == ("__debug__" : Str)) = false := by decide) : PE X (.Call (.Name x p) [] [] pos) (absE Γ Z (gCall (cFn 0 F) gNil)) := PE.imp (pe_call0 F0 hr hg hm hk hb .nil pass0 hdb) fun σ H Q q => by
  obtain ⟨c, ρ, e, s, en, th⟩ := q
  subst e
  exact ⟨rfl, c, [], rfl, s, .nil, R.calm_th th⟩
end
end Fn

set_option Elab.async false
set_option linter.all false
set_option maxRecDepth 100000
namespace Fn
open PySem PySem.Spec PyProof.Rows L2
section
variable {X : Cx} {Γ : Gm} {Z : WXk}
/-- a, b = x, y: stored from the right -/
def gPar (i j : Nat) (ga : FA) : FS := fun ρ G => (ga ρ G).thn ρ fun ws G1 => match ws with
  | [a, b] => .nx ((ρ.set i (some a)).set j (some b)) G1
  | _ => .no
theorem fs_par {i j : Nat} {x y : Str} {a b : Expr} {ga : FA} {px py pt pos : Pos} {kt k2 : Nat} {pt2 : Pos} (hc : X.calm = true) (hN : X.N.Nodup) (hi : X.N[i]? = some x) (hj : X.N[j]? = some y) (hij : i ≠ j)
    (hx : X.env.scope.names.lookup x = some .local) (hy : X.env.scope.names.lookup y = some .local) (ha : PA X [a, b] (absA Γ Z ga))
    (hw : swappedStores [.Tuple [.Name x px, .Name y py] kt pt] (.Tuple [a, b] k2 pt2) X.env = pure (some [x, y]))
    (hs : swapsWithSole [.Tuple [.Name x px, .Name y py] kt pt] (.Tuple [a, b] k2 pt2) pos.line X.env = pure false := by rfl) :
    PS X (.Assign [.Tuple [.Name x px, .Name y py] kt pt] (.Tuple [a, b] k2 pt2) pos) (absS Γ Z (gPar i j ga)) :=
  PS.imp (ps_par hc hN hi hj hij hx hy ha hw hs) fun D σ H q => by
    obtain ⟨c, ρ, e, s, en, th⟩ := absS.bind (rel := Cf.RpAll Γ) q
    refine ⟨c, ρ, e, s, en, Th.mono th fun vs c1 st ⟨c2, ρ2, ws, e2, s2, en2, ra, q⟩ => ?_⟩
    rw [← e2]
    split at q
    · obtain ⟨v, u, rfl, r1, r2⟩ := RpAll.two (c := c2) ra
      exact ⟨v, u, rfl, q c2 _ (Stp.refl c2) s2 rfl ((en2.set r1 i).set r2 j)⟩
    · exact q.elim
/-- name op= e -/
def gAug (i : Nat) (f : F2) (g : FE) : FS := fun ρ G => match ρ[i]? with
  | some (some a) => (g ρ G).thn ρ fun b G1 => (f a b G1).thn ρ fun w G2 => .nx (ρ.set i (some w)) G2
  | _ => .no
theorem fs_aug {i : Nat} {x : Str} {e : Expr} {op : Operator} {f : F2} {g : FE} {pos pos' : Pos} (hN : X.N.Nodup) (hi : X.N[i]? = some x) (hx : Loc X.env.scope x) (ho : OpF X Γ (inplaceOp op) f) (he : PE X e (absE Γ Z g)) (hf : X.fn x = true ∨ X.env.scope.names.lookup x = some .local := by first | exact .inl rfl | exact .inr rfl | assumption) :
    PS X (.AugAssign (.Name x pos') op e pos) (absS Γ Z (gAug i f g)) := by
  obtain ⟨r, hr, h⟩ := ho
  have ip : PIp X op r := fun pins s σ H x y v u Q I r1 r2 q => augR hr I r1 r2 q
  refine PS.imp (ps_aug hN hi hx he ip hf) fun D σ H q => ?_
  obtain ⟨c, ρ, e, s, en, th⟩ := q
  subst e
  unfold gAug at th
  split at th
  · rename_i a ea
    obtain ⟨v, e1, rv⟩ := en.2 _ _ ea
    refine ⟨v, e1, c, ρ, rfl, s, en, Th.mono (ThS.bind (rel := Cf.Rp Γ) s en th) fun u c1 st ⟨c2, b, e2, st2, s2, en2, rb, q⟩ => ?_⟩
    rw [← e2]
    refine h c2 v u a b _ (fun cls d H' => Z cls d σ H') s2 (st2.rp s rv) rb ?_
    exact Th.mono (ThS.bind (rel := Cf.Rp Γ) s2 en2 q) fun z c3 st3 ⟨c4, w, e4, st4, s4, en4, rw4, q4⟩ => by rw [← e4]; exact q4 c4 _ (Stp.refl c4) s4 rfl (en4.set rw4 i)
  · exact th.elim
def fIadd : F2 := fun a b G => match a, b with
  | .int i, .int j => .ok (.int (i + j)) G
  | .str i, .str j => if i.length + j.length ≤ sizeLine then .ok (.str (i ++ j)) G else .no
  | _, _ => .no
theorem of_iadd : OpF X Γ (inplaceOp .Add) fIadd := ⟨_, iop_add.or iop_add_str, fun c x y a b Q E s ra rb h => by
  unfold fIadd at h
  split at h
  · exact .inl (rI0_int (g := fun i j => i + j) c x y _ _ Q E s ra rb h)
  · rename_i i j
    cases ra
    cases rb
    refine .inr ⟨i, j, rfl, rfl, ?_⟩
    by_cases k : i.length + j.length ≤ sizeLine
    · rw [if_pos k] at h
      exact ⟨k, h.pure s (.str _)⟩
    · rw [if_neg k] at h
      exact h.elim
  · exact h.elim⟩
theorem of_isub : OpF X Γ (inplaceOp .Sub) fSub := ⟨_, iop_sub, rI0_int⟩

/-! ### methods of lists -/
def lw (G : GH) : W → Option (Nat × List W)
  | .ref n => match G.at_ n with
    | some (.lst ws) => some (n, ws)
    | _ => none
  | _ => none
theorem lw_ok {c : Cf} (s : SR Γ c) {v : V} {w : W} {n : Nat} {ws : List W} (h : lw c.G w = some (n, ws)) (r : c.Rp Γ v w) : ∃ a xs, v = .ref a ∧ c.H a = some (.lst xs) ∧ c.RpAll Γ xs ws ∧ c.ι[n]? = some a ∧ c.G.at_ n = some (.lst ws) := by
  unfold lw at h
  cases r with
  | @ref m a h1 =>
    simp only at h
    cases e : c.G.at_ m with
    | none => simp [e] at h
    | some o =>
      obtain ⟨b, ho, e1, e2, r⟩ := s.obj m o e
      rw [h1] at e1; cases e1
      cases r with
      | lst r => simp only [e, Option.some.injEq, Prod.mk.injEq] at h; obtain ⟨rfl, rfl⟩ := h; exact ⟨a, _, rfl, e2, r, h1, e⟩
      | dic _ _ => simp [e] at h
      | ins _ _ => simp [e] at h
  | _ => cases h
/-- o.m(e ..), o a list that is owned -/
def gMth (g : W → List W → GH → R W) (go : FE) (ga : FA) : FE := fun ρ G => (go ρ G).bind fun o G1 => (ga ρ G1).bind fun ws G2 => g o ws G2
def MthF (X : Cx) (Γ : Gm) (T id : String) (g : W → List W → GH → R W) : Prop :=
  ∃ r, MtR X id r ∧ ∀ (c : Cf) (o : V) (vs : List V) (wo : W) (ws : List W) (Q : VK) (E : XK), SR Γ c → c.Rp Γ o wo → c.RpAll Γ vs ws → Th Γ E (Cf.Rp Γ) c Q (g wo ws c.G) → r o vs c.H Q
/-- of what type a value surely is -/
def isTy (T : String) (G : GH) (w : W) : Bool := match w with
  | .str _ => T == "str"
  | .lst _ => T == "list"
  | .ref n => match G.at_ n with
    | some (.lst _) => T == "list"
    | some (.dic _ _) => T == "dict"
    | _ => false
  | _ => false
theorem isTy_ok {c : Cf} (s : SR Γ c) {v : V} {w : W} {T : String} (h : isTy T c.G w = true) (r : c.Rp Γ v w) : tyV Γ.K T v c.H := by
  unfold isTy at h
  cases r with
  | str x => exact beq_iff_eq.mp h
  | lst h1 n r => exact .inl ⟨beq_iff_eq.mp h, _, .inl h1⟩
  | lstK h1 h2 h3 h4 h5 h6 r => exact .inl ⟨beq_iff_eq.mp h, _, .inr ⟨_, _, _, h1, h2, h3, h4, h5, h6⟩⟩
  | @ref n a h1 =>
    simp only at h
    cases e : c.G.at_ n with
    | none => simp [e] at h
    | some o =>
      obtain ⟨b, ho, e1, e2, r⟩ := s.obj n o e
      rw [h1] at e1; cases e1
      cases r with
      | lst r => simp only [e] at h; exact .inl ⟨beq_iff_eq.mp h, _, .inl (.inl e2)⟩
      | dic l r => simp only [e] at h; exact .inr (.inr (.inl ⟨beq_iff_eq.mp h, .inl ⟨_, e2⟩⟩))
      | ins _ _ => simp [e] at h
  | _ => cases h
def gMt (T : String) (g : W → List W → GH → R W) (go : FE) (ga : FA) : FE := fun ρ G => (go ρ G).bind fun o G1 => if isTy T G1 o then (ga ρ G1).bind fun ws G2 => g o ws G2 else .no
theorem fe_mt {T id : String} {name : Str} {g : W → List W → GH → R W} {o e : Expr} {es : List Expr} {go : FE} {ga : FA} {apos cpos : Pos} (pa : PlainAttrs T) (slot : Slot T name id) (hty : typeOf (.builtin id) = pure (.type "method_descriptor")) (hm : MthF X Γ T id g) (ho : PE X o (absE Γ Z go)) (ha : PA X (e :: es) (absA Γ Z ga)) (hK : Γ.K = X.K := by rfl)
    (hbase : attributeBase o name X.env (eval o X.env) = eval o X.env := by rfl)
    (hfew : ((backTo cpos (starEach (e :: es) X.env)).all (fun x => !x.1) && (backToKw cpos (keywordEach [] X.env)).all (fun x => x.1.isSome)
      && decide ((e :: es).length + ([] : List Keyword).length + (if ([] : List Keyword).isEmpty then 0 else 1) < 30)) = true := by rfl)
    (hline : (apos.endLine == cpos.line) = true := by rfl) (hs : starEach (e :: es) X.env = (false, eval e X.env) :: starEach es X.env := by rfl) (hplain : (backTo cpos (starEach es X.env)).any (·.1) = false := by rfl) :
    PE X (.Call (.Attribute o name apos) (e :: es) [] cpos) (absE Γ Z (gMt T g go ga)) := by
  obtain ⟨r, hr, h⟩ := hm
  refine PE.imp (pe_bm pa slot hty hr ho ha hbase hfew hline hs hplain) fun σ H Q q => ?_
  obtain ⟨c, ρ, e, s, en, th⟩ := absG.bind q
  refine ⟨c, ρ, e, s, en, Th.mono th fun v c1 st ⟨c2, ρ2, wo, e2, s2, en2, ra, q⟩ => ?_⟩
  by_cases k : isTy T c2.G wo = true
  · rw [if_pos k] at q
    refine ⟨by rw [← e2, ← hK]; exact isTy_ok s2 k ra, c2, ρ2, e2, s2, en2, Th.mono (Th.bind q) fun vs c3 st3 ⟨c4, ws, e4, st4, s4, rb, q4⟩ => ?_⟩
    rw [← e4]
    exact h c4 v vs wo ws Q _ s4 (st4.rp s2 ra) rb q4
  · rw [if_neg k] at q
    exact q.elim
theorem fe_mt0 {T id : String} {name : Str} {g : W → List W → GH → R W} {o : Expr} {go : FE} {apos cpos : Pos} (pa : PlainAttrs T) (slot : Slot T name id) (hty : typeOf (.builtin id) = pure (.type "method_descriptor")) (hm : MthF X Γ T id g) (ho : PE X o (absE Γ Z go)) (hK : Γ.K = X.K := by rfl)
    (hbase : attributeBase o name X.env (eval o X.env) = eval o X.env := by rfl) (hline : (apos.endLine == cpos.line) = true := by rfl) : PE X (.Call (.Attribute o name apos) [] [] cpos) (absE Γ Z (gMt T g go gNil)) := by
  obtain ⟨r, hr, h⟩ := hm
  refine PE.imp (pe_bm0 pa slot hty hr ho hbase hline) fun σ H Q q => ?_
  obtain ⟨c, ρ, e, s, en, th⟩ := absG.bind q
  refine ⟨c, ρ, e, s, en, Th.mono th fun v c1 st ⟨c2, ρ2, wo, e2, s2, en2, ra, q⟩ => ?_⟩
  by_cases k : isTy T c2.G wo = true
  · rw [if_pos k] at q
    rw [← e2]
    exact ⟨hK ▸ isTy_ok s2 k ra, h c2 v [] wo [] Q _ s2 ra .nil q⟩
  · rw [if_neg k] at q
    exact q.elim
def mAppend : W → List W → GH → R W := fun o ws G => match lw G o, ws with
  | some (n, xs), [w] => if xs.length < sizeLine then .ok .non (G.set n (.lst (xs ++ [w]))) else .no
  | _, _ => .no
theorem mf_append : MthF X Γ "list" "list.append" mAppend := ⟨_, mt_append, fun c o vs wo ws Q E s ro rv h => by
  unfold mAppend at h
  split at h
  · rename_i n xs w e
    obtain ⟨a, ys, rfl, hH, r, hn, hG⟩ := lw_ok s e ro
    obtain ⟨v, rfl, r1⟩ := RpAll.one (c := c) rv
    by_cases k : xs.length < sizeLine
    · rw [if_pos k] at h
      obtain ⟨st, s'⟩ := upd_own (ho := .lst (ys ++ [v])) s hG hn (.lst (r.append (.cons r1 .nil)))
      exact ⟨a, ys, v, rfl, rfl, hH, by rw [r.length]; exact k, h _ _ st s' rfl .non⟩
    · rw [if_neg k] at h; exact h.elim
  · exact h.elim⟩
theorem RpAll.dropLast {c : Cf} {vs : List V} {ws : List W} (r : c.RpAll Γ vs ws) : c.RpAll Γ vs.dropLast ws.dropLast := by
  rw [List.dropLast_eq_take, List.dropLast_eq_take, r.length]
  exact r.take _
def mPop : W → List W → GH → R W := fun o ws G => match lw G o, ws with
  | some (n, xs), [] => match xs[xs.length - 1]? with
    | some w => .ok w (G.set n (.lst xs.dropLast))
    | none => .no
  | _, _ => .no
theorem mf_pop : MthF X Γ "list" "list.pop" mPop := ⟨_, mt_pop, fun c o vs wo ws Q E s ro rv h => by
  unfold mPop at h
  split at h
  · rename_i n xs e
    obtain ⟨a, ys, rfl, hH, r, hn, hG⟩ := lw_ok s e ro
    cases rv
    split at h
    · rename_i w ew
      obtain ⟨v, ev, rv⟩ := r.get ew
      obtain ⟨st, s'⟩ := upd_own (ho := .lst ys.dropLast) s hG hn (.lst (RpAll.dropLast (c := c) r))
      exact ⟨a, ys, v, rfl, rfl, hH, by rw [r.length]; exact ev, h _ _ st s' rfl (st.rp s rv)⟩
    · exact h.elim
  · exact h.elim⟩
def mReverse : W → List W → GH → R W := fun o ws G => match lw G o, ws with
  | some (n, xs), [] => .ok .non (G.set n (.lst xs.reverse))
  | _, _ => .no
theorem RpAll.reverse {c : Cf} : ∀ {vs : List V} {ws : List W}, c.RpAll Γ vs ws → c.RpAll Γ vs.reverse ws.reverse
  | _, _, .nil => .nil
  | _, _, .cons h t => by
    rw [List.reverse_cons, List.reverse_cons]
    exact RpAll.append (RpAll.reverse t) (.cons h .nil)
theorem mf_reverse : MthF X Γ "list" "list.reverse" mReverse := ⟨_, mt_reverse, fun c o vs wo ws Q E s ro rv h => by
  unfold mReverse at h
  split at h
  · rename_i n xs e
    obtain ⟨a, ys, rfl, hH, r, hn, hG⟩ := lw_ok s e ro
    cases rv
    obtain ⟨st, s'⟩ := upd_own (ho := .lst ys.reverse) s hG hn (.lst (RpAll.reverse (c := c) r))
    exact ⟨a, ys, rfl, rfl, hH, h _ _ st s' rfl .non⟩
  · exact h.elim⟩
end
end Fn

set_option Elab.async false
set_option linter.all false
set_option maxRecDepth 100000
namespace Fn
open PySem PySem.Spec PyProof.Rows L2
section
variable {X : Cx} {Γ : Gm} {Z : WXk}
/-! ### any, all, of truth values -/
def blsOf : List W → Option (List Bool)
  | [] => some []
  | .bl b :: ws => match blsOf ws with
    | some bs => some (b :: bs)
    | none => none
  | _ :: _ => none
def intsOf : List W → Option (List Int)
  | [] => some []
  | .int b :: ws => match intsOf ws with
    | some bs => some (b :: bs)
    | none => none
  | _ :: _ => none
theorem blsOf_eq : ∀ {ws : List W} {bs : List Bool}, blsOf ws = some bs → ws = bs.map W.bl
  | [], _, h => by cases h; rfl
  | .bl b :: ws, bs, h => by
    unfold blsOf at h
    cases e : blsOf ws with
    | none => rw [e] at h; cases h
    | some cs => rw [e] at h; cases h; rw [List.map_cons, ← blsOf_eq e]
  | .non :: _, _, h | .int _ :: _, _, h | .str _ :: _, _, h | .tup _ :: _, _, h | .lst _ :: _, _, h | .dic _ _ :: _, _, h | .ins _ _ _ :: _, _, h | .ref _ :: _, _, h | .op _ :: _, _, h | .cl _ :: _, _, h => by cases h
theorem intsOf_eq : ∀ {ws : List W} {bs : List Int}, intsOf ws = some bs → ws = bs.map W.int
  | [], _, h => by cases h; rfl
  | .int b :: ws, bs, h => by
    unfold intsOf at h
    cases e : intsOf ws with
    | none => rw [e] at h; cases h
    | some cs => rw [e] at h; cases h; rw [List.map_cons, ← intsOf_eq e]
  | .non :: _, _, h | .bl _ :: _, _, h | .str _ :: _, _, h | .tup _ :: _, _, h | .lst _ :: _, _, h | .dic _ _ :: _, _, h | .ins _ _ _ :: _, _, h | .ref _ :: _, _, h | .op _ :: _, _, h | .cl _ :: _, _, h => by cases h
@[simp] theorem blsOf_map : ∀ bs : List Bool, blsOf (bs.map W.bl) = some bs
  | [] => rfl
  | b :: bs => by rw [List.map_cons, blsOf, blsOf_map bs]
@[simp] theorem intsOf_map : ∀ bs : List Int, intsOf (bs.map W.int) = some bs
  | [] => rfl
  | b :: bs => by rw [List.map_cons, intsOf, intsOf_map bs]
theorem RpAll.bls {c : Cf} : ∀ {bs : List Bool} {vs : List V}, c.RpAll Γ vs (bs.map W.bl) → vs = bs.map V.bl
  | [], _, r => by cases r; rfl
  | b :: bs, _, r => by
    cases r with
    | cons h t => cases h; rw [List.map_cons, RpAll.bls (c := c) t]
theorem RpAll.ints {c : Cf} : ∀ {bs : List Int} {vs : List V}, c.RpAll Γ vs (bs.map W.int) → vs = bs.map V.int
  | [], _, r => by cases r; rfl
  | b :: bs, _, r => by
    cases r with
    | cons h t => cases h; rw [List.map_cons, RpAll.ints (c := c) t]
theorem dp_bls {K : PySem.W.Frag} {H : Hp} : ∀ bs : List Bool, DpAll K H (bs.map V.bl) (bs.map PyData.bool)
  | [] => .nil
  | b :: bs => .cons (.bl b) (dp_bls bs)
theorem dp_ints {K : PySem.W.Frag} {H : Hp} : ∀ bs : List Int, DpAll K H (bs.map V.int) (bs.map PyData.int)
  | [] => .nil
  | b :: bs => .cons (.int b) (dp_ints bs)
theorem plain_bls : ∀ bs : List Bool, PyData.plainAll (bs.map PyData.bool) = true
  | [] => rfl
  | b :: bs => by simp only [List.map_cons, PyData.plainAll, plain_bls bs, PyData.plain, Bool.and_self]
theorem any_bls : ∀ bs : List Bool, (bs.map PyData.bool).any PyData.truthy = bs.any id
  | [] => rfl
  | b :: bs => by rw [List.map_cons, List.any_cons, List.any_cons, any_bls bs]; rfl
theorem all_bls : ∀ bs : List Bool, (bs.map PyData.bool).all PyData.truthy = bs.all id
  | [] => rfl
  | b :: bs => by rw [List.map_cons, List.all_cons, List.all_cons, all_bls bs]; rfl
theorem fits_bls (bs : List Bool) : ∀ x ∈ bs.map PyData.bool, x.fits63 := fun x h => by
  obtain ⟨b, _, rfl⟩ := List.mem_map.mp h
  trivial
theorem depth_ints : ∀ bs : List Int, PyData.depthAll (bs.map PyData.int) = 0
  | [] => rfl
  | b :: bs => by simp only [List.map_cons, PyData.depthAll, depth_ints bs, PyData.depth, Nat.max_self]
def rAnyB (K : PySem.W.Frag) : List V → Hp → VK → Prop := fun xs H Q => ∃ (a : Addr) (bs : List Bool), xs = [.ref a] ∧ (SqL K H a (bs.map V.bl) ∨ SqT K H a (bs.map V.bl)) ∧ Q (.bl (bs.any id)) H
def rAllB (K : PySem.W.Frag) : List V → Hp → VK → Prop := fun xs H Q => ∃ (a : Addr) (bs : List Bool), xs = [.ref a] ∧ (SqL K H a (bs.map V.bl) ∨ SqT K H a (bs.map V.bl)) ∧ Q (.bl (bs.all id)) H
theorem call_anyB (hc : X.calm = true) : CallR X (.builtin "any") (rAnyB X.K) := by
  intro pins s σ H xs us Q I r h
  obtain ⟨a, bs, rfl, hq, q⟩ := h
  obtain ⟨u, rfl, r1⟩ := r.one
  cases r1
  rcases hq with hq | hq
  · obtain ⟨its, rv, p, hz⟩ := I.list hq
    obtain ⟨as, hr⟩ := Dp.readsAll I _ _ its (dp_bls bs) rv
    refine PySem.W.any_list_data (I.ok.hd hc) p.isList hr (plain_bls bs) (fits_bls bs) fun h' tk k => ?_
    rw [any_bls]
    exact ⟨.bl _, H, I.kept k, rfl, q⟩
  · obtain ⟨its, rv, p, hz⟩ := I.tuple hq
    obtain ⟨as, hr⟩ := Dp.readsAll I _ _ its (dp_bls bs) rv
    refine PySem.W.any_tuple_data (I.ok.hd hc) (show s.heap.IsTuple a its.toArray from p) hr (plain_bls bs) (fits_bls bs) fun h' tk k => ?_
    rw [any_bls]
    exact ⟨.bl _, H, I.kept k, rfl, q⟩
theorem call_allB (hc : X.calm = true) : CallR X (.builtin "all") (rAllB X.K) := by
  intro pins s σ H xs us Q I r h
  obtain ⟨a, bs, rfl, hq, q⟩ := h
  obtain ⟨u, rfl, r1⟩ := r.one
  cases r1
  rcases hq with hq | hq
  · obtain ⟨its, rv, p, hz⟩ := I.list hq
    obtain ⟨as, hr⟩ := Dp.readsAll I _ _ its (dp_bls bs) rv
    refine PySem.W.all_list_data (I.ok.hd hc) p.isList hr (plain_bls bs) (fits_bls bs) fun h' tk k => ?_
    rw [all_bls]
    exact ⟨.bl _, H, I.kept k, rfl, q⟩
  · obtain ⟨its, rv, p, hz⟩ := I.tuple hq
    obtain ⟨as, hr⟩ := Dp.readsAll I _ _ its (dp_bls bs) rv
    refine PySem.W.all_tuple_data (I.ok.hd hc) (show s.heap.IsTuple a its.toArray from p) hr (plain_bls bs) (fits_bls bs) fun h' tk k => ?_
    rw [all_bls]
    exact ⟨.bl _, H, I.kept k, rfl, q⟩
def cAny : FC := fun ws G => match ws with
  | [w] => match sqs G w with
    | some us => match blsOf us with
      | some bs => .ok (.bl (bs.any id)) G
      | none => .no
    | none => .no
  | _ => .no
def cAll : FC := fun ws G => match ws with
  | [w] => match sqs G w with
    | some us => match blsOf us with
      | some bs => .ok (.bl (bs.all id)) G
      | none => .no
    | none => .no
  | _ => .no
theorem cf_any (hc : X.calm = true) (hK : Γ.K = X.K := by rfl) : CallF X Γ (.builtin "any") cAny := ⟨_, call_anyB hc, fun c vs ws Q E s ra h => by
  unfold cAny at h
  split at h
  · obtain ⟨v, rfl, r⟩ := RpAll.one (c := c) ra
    split at h
    · rename_i us e
      split at h
      · rename_i bs eb
        obtain ⟨p, xs, rfl, hq, rr⟩ := sqs_ok s e r
        rw [blsOf_eq eb] at rr
        cases RpAll.bls (c := c) rr
        exact ⟨p, bs, rfl, hq.imp (fun z => hK ▸ z) (fun z => hK ▸ z), h.pure s (.bl _)⟩
      · exact h.elim
    · exact h.elim
  · exact h.elim⟩
theorem cf_all (hc : X.calm = true) (hK : Γ.K = X.K := by rfl) : CallF X Γ (.builtin "all") cAll := ⟨_, call_allB hc, fun c vs ws Q E s ra h => by
  unfold cAll at h
  split at h
  · obtain ⟨v, rfl, r⟩ := RpAll.one (c := c) ra
    split at h
    · rename_i us e
      split at h
      · rename_i bs eb
        obtain ⟨p, xs, rfl, hq, rr⟩ := sqs_ok s e r
        rw [blsOf_eq eb] at rr
        cases RpAll.bls (c := c) rr
        exact ⟨p, bs, rfl, hq.imp (fun z => hK ▸ z) (fun z => hK ▸ z), h.pure s (.bl _)⟩
      · exact h.elim
    · exact h.elim
  · exact h.elim⟩
/-! ### min and max of numbers, default=d -/
theorem alike_ints (bs : List Int) : PySem.W.AlikeAll (bs.map PyData.int) := ⟨fun x hx y hy => by
  obtain ⟨i, _, rfl⟩ := List.mem_map.mp hx
  obtain ⟨j, _, rfl⟩ := List.mem_map.mp hy
  simp only [PySem.W.alike], fun x hx => by
  obtain ⟨i, _, rfl⟩ := List.mem_map.mp hx
  exact fun e => by cases e⟩
def bestOr (f : Int → Int → Int) (d : V) : List Int → V
  | [] => d
  | n :: ns => .int (ns.foldl f n)
def rBestD (K : PySem.W.Frag) (f : Int → Int → Int) : List V → List V → Hp → VK → Prop := fun xs zs H Q => ∃ (a : Addr) (ns : List Int) (d : V), xs = [.ref a] ∧ zs = [d] ∧ SqL K H a (ns.map V.int) ∧ Q (bestOr f d ns) H
theorem call_minD (hc : X.calm = true) (hu : X.A.units + 64 < cLine) : CallRK X (.builtin "min") [Str.ofString "default"] (rBestD X.K min) := by
  intro pins s σ H xs zs us ws Q I r rz h
  obtain ⟨a, ns, d, rfl, rfl, hq, q⟩ := h
  obtain ⟨u, rfl, r1⟩ := r.one
  obtain ⟨dv, rfl, r2⟩ := rz.one
  cases r1
  obtain ⟨its, rv, p, hz⟩ := I.list hq
  obtain ⟨as, hr⟩ := Dp.readsAll I _ _ its (dp_ints ns) rv
  refine PySem.W.min_list_default (d := dv) (I.ok.hd hc) p.isList hr (alike_ints ns) (by rw [depth_ints]; omega) (fun e h' tk k => ?_) fun y ys i v h' tk bs e ev hb k => ?_
  · have : ns = [] := List.map_eq_nil_iff.mp e
    subst this
    exact ⟨d, H, I.kept k, r2, q⟩
  · cases ns with
    | nil => cases e
    | cons n ns =>
      cases e
      rw [PySem.W.minD_ints] at hb
      cases hb
      exact ⟨.int _, H, I.kept k, ⟨_, rfl⟩, q⟩
theorem call_maxD (hc : X.calm = true) (hu : X.A.units + 64 < cLine) : CallRK X (.builtin "max") [Str.ofString "default"] (rBestD X.K max) := by
  intro pins s σ H xs zs us ws Q I r rz h
  obtain ⟨a, ns, d, rfl, rfl, hq, q⟩ := h
  obtain ⟨u, rfl, r1⟩ := r.one
  obtain ⟨dv, rfl, r2⟩ := rz.one
  cases r1
  obtain ⟨its, rv, p, hz⟩ := I.list hq
  obtain ⟨as, hr⟩ := Dp.readsAll I _ _ its (dp_ints ns) rv
  refine PySem.W.max_list_default (d := dv) (I.ok.hd hc) p.isList hr (alike_ints ns) (by rw [depth_ints]; omega) (fun e h' tk k => ?_) fun y ys i v h' tk bs e ev hb k => ?_
  · have : ns = [] := List.map_eq_nil_iff.mp e
    subst this
    exact ⟨d, H, I.kept k, r2, q⟩
  · cases ns with
    | nil => cases e
    | cons n ns =>
      cases e
      rw [PySem.W.maxD_ints] at hb
      cases hb
      exact ⟨.int _, H, I.kept k, ⟨_, rfl⟩, q⟩
abbrev FCK := List W → List W → GH → R W
def CallFK (X : Cx) (Γ : Gm) (f : Value) (ks : List Str) (g : FCK) : Prop :=
  ∃ r, CallRK X f ks r ∧ ∀ (c : Cf) (vs zs : List V) (ws us : List W) (Q : VK) (E : XK), SR Γ c → c.RpAll Γ vs ws → c.RpAll Γ zs us → Th Γ E (Cf.Rp Γ) c Q (g ws us c.G) → r vs zs c.H Q
def gCallK (g : FCK) (ga gk : FA) : FE := fun ρ G => (ga ρ G).bind fun ws G1 => (gk ρ G1).bind fun us G2 => g ws us G2
theorem PK.imp {k : List Keyword} {t t' : TA} (h : PK X k t) (m : ∀ σ H Q, t' σ H Q → t σ H Q) : PK X k t' := ⟨fun pos pins s σ H Q I q => h.run pos pins s σ H Q I (m σ H Q q)⟩
theorem fk_nil : PK X [] (absA Γ Z gNil) := PK.imp pk_nil fun σ H Q ⟨c, ρ, e, s, en, th⟩ => by
  subst e
  exact th c [] (Stp.refl c) s rfl .nil
theorem fk_cons {nm : Option Str} {e : Expr} {kpos : Pos} {kws : List Keyword} {g : FE} {gr : FA} (ha : PE X e (absE Γ Z g)) (hr : PK X kws (absA Γ Z gr)) : PK X (⟨nm, e, kpos⟩ :: kws) (absA Γ Z (gCons g gr)) := PK.imp (pk_cons ha hr) fun σ H Q q => by
  obtain ⟨c, ρ, e, s, en, th⟩ := absG.bind q
  refine ⟨c, ρ, e, s, en, Th.mono th fun v c1 st ⟨c2, ρ2, w, e2, s2, en2, rw, q⟩ => ?_⟩
  refine ⟨c2, ρ2, e2, s2, en2, Th.mono (Th.bind q) fun vs c3 st3 ⟨c4, ws, e4, st4, s4, rws, q4⟩ => ?_⟩
  rw [← e4]
  exact q4 c4 _ (Stp.refl c4) s4 rfl (.cons (st4.rp s2 rw) rws)
theorem fe_callK {id : String} {ks : List Str} {g : FCK} {ga gk : FA} {x : Str} {p pos : Pos} {e : Expr} {es : List Expr} {kws : List Keyword} (hc : CallFK X Γ (.builtin id) ks g) (hg : Gl X x) (hm : X.mg x = none) (hv : bootBuiltins x = some (.builtin id)) (ha : PA X (e :: es) (absA Γ Z ga)) (hk : PK X kws (absA Γ Z gk))
    (hn : x ≠ "__name__" := by decide) (hdb : (x == ("__debug__" : Str)) = false := by decide)
    (he : backTo pos (starEach (e :: es) X.env) = (false, eval e X.env) :: backTo pos (starEach es X.env) := by rfl) (hpl : (backTo pos (starEach (e :: es) X.env)).any (·.1) = false := by rfl)
    (hall : (backToKw pos (keywordEach kws X.env)).all (·.1.isSome) = true := by rfl) (hnone : (backToKw pos (keywordEach kws X.env)).any (·.1.isNone) = false := by rfl) (hks : (backToKw pos (keywordEach kws X.env)).filterMap (·.1) = ks := by rfl) :
    PE X (.Call (.Name x p) (e :: es) kws pos) (absE Γ Z (gCallK g ga gk)) := by
  obtain ⟨r, hr, h⟩ := hc
  refine PE.imp (pe_callBK hr hg hm hv ha hk hn hdb he hpl hall hnone hks) fun σ H Q q => ?_
  obtain ⟨c, ρ, e, s, en, th⟩ := absG.bind q
  refine ⟨c, ρ, e, s, en, Th.mono th fun vs c1 st ⟨c2, ρ2, ws, e2, s2, en2, ra, q⟩ => ?_⟩
  refine ⟨c2, ρ2, e2, s2, en2, Th.mono (Th.bind q) fun zs c3 st3 ⟨c4, us, e4, st4, s4, rb, q4⟩ => ?_⟩
  rw [← e4]
  exact h c4 vs zs ws us Q _ s4 (st4.rpAll s2 ra) rb q4
def bestW (f : Int → Int → Int) (d : W) : List Int → W
  | [] => d
  | n :: ns => .int (ns.foldl f n)
def cBest (f : Int → Int → Int) : FCK := fun ws us G => match ws, us with
  | [w], [d] => match lsq G w with
    | some us => match intsOf us with
      | some ns => .ok (bestW f d ns) G
      | none => .no
    | none => .no
  | _, _ => .no
theorem best_ok {f : Int → Int → Int} (hK : Γ.K = X.K) (c : Cf) (vs zs : List V) (ws us : List W) (Q : VK) (E : XK) (s : SR Γ c) (ra : c.RpAll Γ vs ws) (rz : c.RpAll Γ zs us) (h : Th Γ E (Cf.Rp Γ) c Q (cBest f ws us c.G)) : rBestD X.K f vs zs c.H Q := by
  unfold cBest at h
  split at h
  · obtain ⟨v, rfl, r⟩ := RpAll.one (c := c) ra
    obtain ⟨d, rfl, rd⟩ := RpAll.one (c := c) rz
    split at h
    · rename_i us e
      split at h
      · rename_i ns eb
        obtain ⟨p, xs, rfl, hq, rr⟩ := lsq_ok s e r
        rw [intsOf_eq eb] at rr
        cases RpAll.ints (c := c) rr
        refine ⟨p, ns, d, rfl, rfl, hK ▸ hq, ?_⟩
        cases ns with
        | nil => exact h.pure s rd
        | cons n ns => exact h.pure s (.int _)
      · exact h.elim
    · exact h.elim
  · exact h.elim
theorem cf_minD (hc : X.calm = true) (hu : X.A.units + 64 < cLine) (hK : Γ.K = X.K := by rfl) : CallFK X Γ (.builtin "min") [Str.ofString "default"] (cBest min) := ⟨_, call_minD hc hu, best_ok hK⟩
theorem cf_maxD (hc : X.calm = true) (hu : X.A.units + 64 < cLine) (hK : Γ.K = X.K := by rfl) : CallFK X Γ (.builtin "max") [Str.ofString "default"] (cBest max) := ⟨_, call_maxD hc hu, best_ok hK⟩
/-! ### l.insert(i, x) -/
def mInsert : W → List W → GH → R W := fun o ws G => match lw G o, ws with
  | some (n, xs), [.int i, w] => if xs.length < sizeLine ∧ 0 ≤ i ∧ i < 2 ^ 63 then .ok .non (G.set n (.lst (xs.take i.toNat ++ [w] ++ xs.drop i.toNat))) else .no
  | _, _ => .no
theorem mf_insert : MthF X Γ "list" "list.insert" mInsert := ⟨_, mt_insert, fun c o vs wo ws Q E s ro rv h => by
  unfold mInsert at h
  split at h
  · rename_i n xs i w e
    obtain ⟨a, ys, rfl, hH, r, hn, hG⟩ := lw_ok s e ro
    obtain ⟨v, x, rfl, r1, r2⟩ := RpAll.two (c := c) rv
    cases Rp.int_of (c := c) r1
    by_cases k : xs.length < sizeLine ∧ 0 ≤ i ∧ i < 2 ^ 63
    · rw [if_pos k] at h
      obtain ⟨st, s'⟩ := upd_own (ho := .lst (ys.take i.toNat ++ [x] ++ ys.drop i.toNat)) s hG hn (.lst (((r.take i.toNat).append (.cons r2 .nil)).append (r.drop i.toNat)))
      exact ⟨a, ys, i, x, rfl, rfl, hH, by rw [r.length]; exact k.1, k.2.1, k.2.2, h _ _ st s' rfl .non⟩
    · rw [if_neg k] at h; exact h.elim
  · exact h.elim⟩
end
end Fn

set_option Elab.async false
set_option linter.all false
set_option maxRecDepth 100000
namespace Fn
open PySem PySem.Spec PyProof.Rows L2
/-! ### dicts: what they hold at a key -/
theorem tab_pairs {P : Program} {w : World} : ∀ {es : List DictEntry} {tab : List (Key × V)}, Paired (fun (e : DictEntry) (kv : Key × V) => keyIs kv.1 e.key = true ∧ e.hash = keyH w kv.1 ∧ RelV kv.2 e.val) es tab →
    ∃ vs : List (Key × Value), KV tab vs ∧ Pairs (mixKind P w) es vs ∧ vs.map (·.1) = tab.map (·.1) ∧ ∀ e ∈ es, ∃ k, keyIs k e.key = true ∧ e.hash = keyH w k
  | _, _, .nil => ⟨[], .nil, .nil, rfl, fun e h => absurd h (by simp)⟩
  | _, _, .cons (a := e) (b := kv) h t => by
    obtain ⟨vs, r, p, m, k⟩ := tab_pairs (P := P) t
    refine ⟨(kv.1, e.val) :: vs, .cons ⟨rfl, h.2.2⟩ r, .cons h.1 rfl p, by rw [List.map_cons, List.map_cons, m], fun x hx => ?_⟩
    rcases List.mem_cons.mp hx with rfl | hx
    · exact ⟨kv.1, h.1, h.2.1⟩
    · exact k x hx
section
variable {X : Cx} {pins : List (Addr × Obj)} {σ : L2.St} {H : Hp} {s : Shared} {a : Addr}
theorem kt_dict {tab : List (Key × V)} (I : Inv X pins σ H s) (t : KTab X.K X.w a tab) : (a == sysModules) = false ∧ ∃ vs, KV tab vs ∧ s.heap.DictOf (mixKind X.prog X.w) a vs := by
  obtain ⟨⟨es, n, hl, hp⟩, lo, nd⟩ := t
  obtain ⟨vs, r, p, m, k⟩ := tab_pairs (P := X.prog) hp
  exact ⟨lo, vs, r, _, es, n, I.kIn _ _ hl, ⟨rfl, rfl, rfl⟩, rfl, fun e he => k e (Array.mem_toList_iff.mpr he), p, by rw [m]; exact nd⟩
/-- a is a dict with these entries, tracked or of the top -/
def DK (K : PySem.W.Frag) (w : World) (H : Hp) (a : Addr) (kvs : List (Key × V)) : Prop := Rd H a (.dK kvs) ∨ KTab K w a kvs
theorem DK.at_ {kvs : List (Key × V)} (I : Inv X pins σ H s) (d : DK X.K X.w H a kvs) : (a == sysModules) = false ∧ ∃ vs, KV kvs vs ∧ s.heap.DictOf (mixKind X.prog X.w) a vs := by
  rcases d with d | d
  · exact (dk_rd I.hok d).2
  · exact kt_dict I d
end
section
variable {X : Cx} {Γ : Gm} {Z : WXk}
def rInDk (K : PySem.W.Frag) (w : World) (neg : Bool) : R2 := fun x y H Q => ∃ a kvs k, y = .ref a ∧ x = kV k ∧ DK K w H a kvs ∧ Q (.bl (if neg then !(valV kvs k).isSome else (valV kvs k).isSome)) H
theorem op_inDk : OpR X (compareOp .In) (rInDk X.K X.w false) := by
  intro pins s σ H x y v u Q I rx ry h
  obtain ⟨a, kvs, k, rfl, rfl, d, q⟩ := h
  cases ry
  obtain ⟨lo, vs, rel, dd⟩ := d.at_ I
  refine wpAny_in_of (kV_is rx) lo dd.mapOf ?_
  rw [← (rel.val k).isSome_eq]
  exact ⟨.bl _, H, I.tok _, rfl, q⟩
theorem op_notInDk : OpR X (compareOp .NotIn) (rInDk X.K X.w true) := by
  intro pins s σ H x y v u Q I rx ry h
  obtain ⟨a, kvs, k, rfl, rfl, d, q⟩ := h
  cases ry
  obtain ⟨lo, vs, rel, dd⟩ := d.at_ I
  refine wpAny_notIn_of (kV_is rx) lo dd.mapOf ?_
  rw [← (rel.val k).isSome_eq]
  exact ⟨.bl _, H, I.tok _, rfl, q⟩
def rIxDk (K : PySem.W.Frag) (w : World) : R2 := fun x y H Q => ∃ a kvs k v, x = .ref a ∧ y = kV k ∧ DK K w H a kvs ∧ valV kvs k = some v ∧ Q v H
theorem ix_Dk : IxR X (rIxDk X.K X.w) := by
  intro value slice pins s σ H x y v u Q I rx ry h hs
  obtain ⟨a, kvs, k, z, rfl, rfl, d, e, q⟩ := h
  obtain rfl : v = Value.ref a := rx
  obtain ⟨lo, vs, rel, dd⟩ := d.at_ I
  obtain ⟨w', hw, rw'⟩ := RelO.some_of (v := z) (o := valueAt vs k) (by rw [← e]; exact rel.val k)
  exact tail_any dd.mapOf.typeIs slot_dict_getitem.lookup (wpAny_getItem_of (kV_is ry) dd.mapOf hw ⟨z, H, I.tok _, rw', q⟩) hs
def rGet (K : PySem.W.Frag) (w : World) : V → List V → Hp → VK → Prop := fun x xs H Q => ∃ a kvs k, x = .ref a ∧ xs = [kV k] ∧ DK K w H a kvs ∧ Q ((valV kvs k).getD .non) H
theorem mt_getDk : MtR X "dict.get" (rGet X.K X.w) := by
  intro pins s σ H x xs v us Q I rx rxs h
  obtain ⟨a, kvs, k, rfl, rfl, d, q⟩ := h
  obtain rfl : v = Value.ref a := rx
  obtain ⟨u, rfl, ru⟩ := rxs.one
  obtain ⟨lo, vs, rel, dd⟩ := d.at_ I
  exact call_meetsIn PySem.F.slot_dict_get dd.typeIs PySem.F.entry_dict_get (PySem.F.args_dict_get_2 _ _) (meets_dict_get (mixKind X.prog X.w) a (kV_is ru) lo) ⟨_, dd.mapOf, ⟨_, H, I.tok _, (rel.val k).getD (show RelV .non Value.none from rfl), q⟩⟩
/-! .. by values -/
def keyW : W → Option Key
  | .int i => some (.inl i)
  | .str x => some (.inr x)
  | _ => none
theorem keyW_ok {c : Cf} {v : V} {w : W} {k : Key} (r : c.Rp Γ v w) (h : keyW w = some k) : v = kV k := by
  unfold keyW at h
  cases r <;> first | (cases h; rfl) | cases h
def getW : List Key → List W → Key → Option W
  | k :: ks, w :: ws, j => if k = j then some w else getW ks ws j
  | _, _, _ => none
theorem getW_ok {c : Cf} {j : Key} : ∀ {ks : List Key} {xs : List V} {ws : List W}, ks.length = xs.length → c.RpAll Γ xs ws → (∃ v w, valV (ks.zip xs) j = some v ∧ getW ks ws j = some w ∧ c.Rp Γ v w) ∨ (valV (ks.zip xs) j = none ∧ getW ks ws j = none)
  | [], [], _, _, r => by cases r; exact .inr ⟨rfl, rfl⟩
  | [], _ :: _, _, l, _ => by simp at l
  | _ :: _, [], _, l, _ => by simp at l
  | k :: ks, x :: xs, _, l, r => by
    cases r with
    | @cons _ w _ ws h t =>
      by_cases e : k = j
      · subst e
        exact .inl ⟨x, w, valV_pos rfl, by rw [getW, if_pos rfl], h⟩
      · rw [List.zip_cons_cons, valV_neg e, getW, if_neg e]
        exact getW_ok (by simpa using l) t
/-- a dict, by its keys and values -/
def dlook (G : GH) : W → Option (List Key × List W)
  | .dic ks ws => some (ks, ws)
  | .ref n => match G.at_ n with
    | some (.dic ks ws) => some (ks, ws)
    | _ => none
  | _ => none
theorem dlook_ok {c : Cf} (s : SR Γ c) {v : V} {w : W} {ks : List Key} {ws : List W} (r : c.Rp Γ v w) (h : dlook c.G w = some (ks, ws)) : ∃ a xs, v = .ref a ∧ ks.length = xs.length ∧ c.RpAll Γ xs ws ∧ DK Γ.K Γ.w c.H a (ks.zip xs) := by
  unfold dlook at h
  cases r with
  | dic h1 l n r => cases h; exact ⟨_, _, rfl, l, r, .inl h1⟩
  | dicK h1 l r => cases h; exact ⟨_, _, rfl, l, r, .inr h1⟩
  | @ref n a h1 =>
    simp only at h
    cases e : c.G.at_ n with
    | none => simp [e] at h
    | some o =>
      obtain ⟨b, ho, e1, e2, r⟩ := s.obj n o e
      rw [h1] at e1; cases e1
      cases r with
      | lst r => simp [e] at h
      | dic l r => simp only [e, Option.some.injEq, Prod.mk.injEq] at h; obtain ⟨rfl, rfl⟩ := h; exact ⟨_, _, rfl, l, r, .inl (.inl e2)⟩
      | ins _ _ => simp [e] at h
  | _ => cases h
/-- k in d, or x in a list that is data -/
def fInX (neg : Bool) : F2 := fun a b G => match dlook G b with
  | some (ks, ws) => match keyW a with
    | some k => .ok (.bl (if neg then !(getW ks ws k).isSome else (getW ks ws k).isSome)) G
    | none => .no
  | none => fIn neg a b G
def rInX (K : PySem.W.Frag) (w : World) (neg : Bool) : R2 := fun x y H Q => rInF K neg x y H Q ∨ rInDk K w neg x y H Q
theorem inX_ok {neg : Bool} (hK : Γ.K = X.K) (hw : Γ.w = X.w) (c : Cf) (x y : V) (a b : W) (Q : VK) (E : XK) (s : SR Γ c) (ra : c.Rp Γ x a) (rb : c.Rp Γ y b) (h : Th Γ E (Cf.Rp Γ) c Q (fInX neg a b c.G)) : rInX X.K X.w neg x y c.H Q := by
  unfold fInX at h
  cases e : dlook c.G b with
  | none => rw [e] at h; exact .inl (in_ok hK c x y a b Q E s ra rb h)
  | some p =>
    obtain ⟨ks, ws⟩ := p
    rw [e] at h
    simp only at h
    cases ek : keyW a with
    | none => rw [ek] at h; exact h.elim
    | some k =>
      rw [ek] at h
      simp only at h
      obtain ⟨p, xs, rfl, l, r, d⟩ := dlook_ok s rb e
      refine .inr ⟨p, _, k, rfl, keyW_ok ra ek, hK ▸ hw ▸ d, ?_⟩
      rcases getW_ok (j := k) l r with ⟨v, w, e1, e2, _⟩ | ⟨e1, e2⟩
      · rw [e1]; rw [e2] at h; exact h.pure s (.bl _)
      · rw [e1]; rw [e2] at h; exact h.pure s (.bl _)
theorem of_inX (hu : X.A.units + 64 < cLine) (hK : Γ.K = X.K := by rfl) (hw : Γ.w = X.w := by rfl) : OpF X Γ (compareOp .In) (fInX false) := ⟨_, (op_inF hu).or op_inDk, inX_ok hK hw⟩
theorem of_notInX (hu : X.A.units + 64 < cLine) (hK : Γ.K = X.K := by rfl) (hw : Γ.w = X.w := by rfl) : OpF X Γ (compareOp .NotIn) (fInX true) := ⟨_, (op_notInF hu).or op_notInDk, inX_ok hK hw⟩
/-- d[k], or l[i] -/
def fIxX : F2 := fun a b G => match dlook G a with
  | some (ks, ws) => match keyW b with
    | some k => match getW ks ws k with
      | some w => .ok w G
      | none => .no
    | none => .no
  | none => fIx a b G
def rIxX (K : PySem.W.Frag) (w : World) : R2 := fun x y H Q => rIx K x y H Q ∨ rIxDk K w x y H Q
theorem ix_X : IxR X (rIxX X.K X.w) := fun value slice pins s σ H x y v u Q I rx ry h hs => h.elim (fun h => ix_seq value slice pins s σ H x y v u Q I rx ry h hs) fun h => ix_Dk value slice pins s σ H x y v u Q I rx ry h hs
theorem fe_ixX {a b : Expr} {ga gb : FE} {pos : Pos} (ha : PE X a (absE Γ Z ga)) (hb : PE X b (absE Γ Z gb)) (hs : PlainIx b := by exact fun _ _ => rfl) (hK : Γ.K = X.K := by rfl) (hw : Γ.w = X.w := by rfl) : PE X (.Subscript a b pos) (absE Γ Z (gOp fIxX ga gb)) :=
  PE.imp (pe_ix ix_X ha hb hs) fun σ H Q q => op_ok (fun c x y a b Q E s ra rb h => by
    unfold fIxX at h
    cases e : dlook c.G a with
    | none => rw [e] at h; exact .inl (hK ▸ ix_ok c x y a b Q E s ra rb h)
    | some p =>
      obtain ⟨ks, ws⟩ := p
      rw [e] at h
      simp only at h
      cases ek : keyW b with
      | none => rw [ek] at h; exact h.elim
      | some k =>
        rw [ek] at h
        obtain ⟨p, xs, rfl, l, r, d⟩ := dlook_ok s ra e
        rcases getW_ok (j := k) l r with ⟨v, w, e1, e2, rv⟩ | ⟨e1, e2⟩
        · simp only [e2] at h
          exact .inr ⟨p, _, k, v, rfl, keyW_ok rb ek, hK ▸ hw ▸ d, e1, h.pure s rv⟩
        · simp only [e2] at h; exact h.elim) q
/-- d.get(k) -/
def mGet : W → List W → GH → R W := fun o ws G => match dlook G o, ws with
  | some (ks, vs), [k] => match keyW k with
    | some k => .ok ((getW ks vs k).getD .non) G
    | none => .no
  | _, _ => .no
theorem get_ok (hK : Γ.K = X.K) (hw : Γ.w = X.w) (c : Cf) (o : V) (vs : List V) (wo : W) (ws : List W) (Q : VK) (E : XK) (s : SR Γ c) (ro : c.Rp Γ o wo) (rv : c.RpAll Γ vs ws) (h : Th Γ E (Cf.Rp Γ) c Q (mGet wo ws c.G)) : rGet X.K X.w o vs c.H Q := by
  unfold mGet at h
  split at h
  · rename_i ks us kw e
    obtain ⟨v, rfl, r1⟩ := RpAll.one (c := c) rv
    cases ek : keyW kw with
    | none => rw [ek] at h; exact h.elim
    | some k =>
      rw [ek] at h
      simp only at h
      obtain ⟨p, xs, rfl, l, r, d⟩ := dlook_ok s ro e
      refine ⟨p, _, k, rfl, by rw [keyW_ok r1 ek], hK ▸ hw ▸ d, ?_⟩
      rcases getW_ok (j := k) l r with ⟨v, w, e1, e2, rv⟩ | ⟨e1, e2⟩
      · rw [e1]; rw [e2] at h; exact h.pure s rv
      · rw [e1]; rw [e2] at h; exact h.pure s .non
  · exact h.elim
/-- o.get(e), whatever dict o is -/
def tGetDk (K : PySem.W.Frag) (w : World) (td ty : TE) : TE := fun σ H Q => td σ H fun x H1 => ∃ a kvs, x = .ref a ∧ DK K w H1 a kvs ∧ ty σ H1 fun y H2 => rGet K w x [y] H2 Q
theorem pe_getDk {o e : Expr} {td ty : TE} {apos cpos : Pos} (ho : PE X o td) (he : PE X e ty) (m : M1 X o "get" apos e cpos) : PE X (.Call (.Attribute o "get" apos) [e] [] cpos) (tGetDk X.K X.w td ty) := by
  refine ⟨fun pins s σ H Q I h => ?_⟩
  refine wpAny_Call_method m.base m.few m.line PySem.F.plainAttrs_dict PySem.F.slot_dict_get PySem.F.type_dict_get (thn (ho.run pins s σ H _ I h) fun u s1 ⟨x, H1, I1, rx, a, kvs, ex, d, q1⟩ => ?_)
  subst ex
  obtain rfl : u = Value.ref a := rx
  obtain ⟨lo, vs, rel, dd⟩ := d.at_ I1
  refine ⟨dd.typeIs, fun b q => ?_, ?_⟩
  · cases q
    obtain ⟨ob, _, _, h1, h2, _⟩ := dd
    exact ⟨ob, h1, h2.2.1⟩
  · rw [m.trees]
    refine Calls.callWith_builtin rfl (Calls.evalArgs_plain (Calls.spliced_cons (thn (he.run pins s1 σ H1 _ I1 q1) fun iv s2 ⟨y, H2, I2, ry, q2⟩ => Calls.spliced_nil ?_)))
    exact mt_getDk pins s2 σ H2 (.ref a) [y] (.ref a) [iv] Q I2 rfl (.cons ry .nil) q2
def gGet (go ge : FE) : FE := fun ρ G => (go ρ G).bind fun o G1 => if (dlook G1 o).isSome then (ge ρ G1).bind fun w G2 => mGet o [w] G2 else .no
theorem fe_get {o e : Expr} {go ge : FE} {apos cpos : Pos} (ho : PE X o (absE Γ Z go)) (he : PE X e (absE Γ Z ge)) (hK : Γ.K = X.K := by rfl) (hw : Γ.w = X.w := by rfl)
    (hbase : attributeBase o "get" X.env (eval o X.env) = eval o X.env := by rfl)
    (hfew : ((backTo cpos (starEach [e] X.env)).all (fun x => !x.1) && (backToKw cpos (keywordEach [] X.env)).all (fun x => x.1.isSome)
      && decide (([e] : List Expr).length + ([] : List Keyword).length + (if ([] : List Keyword).isEmpty then 0 else 1) < 30)) = true := by rfl)
    (hline : (apos.endLine == cpos.line) = true := by rfl) (htr : backTo cpos (starEach [e] X.env) = [(false, eval e X.env)] := by rfl) :
    PE X (.Call (.Attribute o "get" apos) [e] [] cpos) (absE Γ Z (gGet go ge)) :=
  PE.imp (pe_getDk ho he ⟨hbase, hfew, hline, htr⟩) fun σ H Q q => by
    obtain ⟨c, ρ, e, s, en, th⟩ := absG.bind q
    refine ⟨c, ρ, e, s, en, Th.mono th fun v c1 st ⟨c2, ρ2, wo, e2, s2, en2, ra, q⟩ => ?_⟩
    cases k : dlook c2.G wo with
    | none => rw [k] at q; exact q.elim
    | some p =>
      obtain ⟨ks, ws⟩ := p
      obtain ⟨a, xs, rfl, l, r, d⟩ := dlook_ok s2 ra k
      rw [k] at q
      simp only [Option.isSome_some, if_true] at q
      refine ⟨a, _, rfl, by rw [← e2, ← hK, ← hw]; exact d, c2, ρ2, e2, s2, en2, Th.mono (Th.bind q) fun y c3 st3 ⟨c4, b, e4, st4, s4, rb, q4⟩ => ?_⟩
      rw [← e4]
      exact get_ok hK hw c4 (.ref a) [y] wo [b] Q _ s4 (st4.rp s2 ra) (.cons rb .nil) q4
/-! ### names of the top -/
def vW : V → W
  | .non => .non
  | .bl b => .bl b
  | .int i => .int i
  | .str x => .str x
  | v => .op v
theorem vW_rp (c : Cf) : ∀ v : V, c.Rp Γ v (vW v)
  | .non => .non
  | .bl b => .bl b
  | .int i => .int i
  | .str x => .str x
  | .byt b => .op _
  | .flt b => .op _
  | .ref a => .op _
  | .ty n => .op _
theorem vWs_rp (c : Cf) : ∀ vs : List V, c.RpAll Γ vs (vs.map vW)
  | [] => .nil
  | v :: vs => .cons (vW_rp c v) (vWs_rp c vs)
/-- a number, a text of the top -/
theorem fe_gl {x : Str} {v : V} {u : Value} {pos : Pos} (hg : Gl X x) (hm : X.mg x = some u) (r : RelV v u) (hd : (x == ("__debug__" : Str)) = false := by decide) : PE X (.Name x pos) (absE Γ Z (gC (vW v))) := fe_c (pe_glob hg hm r hd) fun c => vW_rp c v
/-- a tuple of such -/
def KTup (K : PySem.W.Frag) (a : Addr) (vs : List V) : Prop := ∃ (o : Obj) (its : Array Value) (n : Nat), K.lookup a = some o ∧ o.cls = .type "tuple" ∧ o.data = .seq its n ∧ its.size ≤ sizeLine ∧ Vals vs its.toList
theorem fe_glT {x : Str} {vs : List V} {a : Addr} {pos : Pos} (hg : Gl X x) (hm : X.mg x = some (.ref a)) (h : KTup Γ.K a vs) (hd : (x == ("__debug__" : Str)) = false := by decide) : PE X (.Name x pos) (absE Γ Z (gC (.tup (vs.map vW)))) :=
  fe_c (pe_glob (v := .ref a) hg hm rfl hd) fun c => .tup (.inr h) (vWs_rp c vs)
/-- a dict of such -/
theorem fe_glD {x : Str} {tab : List (Key × V)} {a : Addr} {pos : Pos} (hg : Gl X x) (hm : X.mg x = some (.ref a)) (h : KTab Γ.K Γ.w a tab) (hd : (x == ("__debug__" : Str)) = false := by decide) : PE X (.Name x pos) (absE Γ Z (gC (.dic (tab.map (·.1)) (tab.map fun kv => vW kv.2)))) :=
  fe_c (pe_glob (v := .ref a) hg hm rfl hd) fun c => by
    have e : (tab.map (·.1)).zip (tab.map (·.2)) = tab := by
      rw [List.zip_map', show (fun kv : Key × V => (kv.1, kv.2)) = id from rfl, List.map_id]
    have r := vWs_rp (Γ := Γ) c (tab.map (·.2))
    rw [List.map_map] at r
    exact .dicK (xs := tab.map (·.2)) (by rw [e]; exact h) (by simp) r
end
end Fn

set_option Elab.async false
set_option linter.all false
set_option maxRecDepth 100000
namespace Fn
open PySem PySem.Spec PyProof.Rows L2
section
variable {X : Cx} {Γ : Gm} {Z : WXk}
theorem len_le' {n : Nat} (h : n ≤ 1000) : n ≤ sizeLine := by rw [sizeLine_eq]; omega
/-! ### a < b < c -/
def gChain (f f' : F2) (ga gb gc : FE) : FE := fun ρ G => (ga ρ G).bind fun x G1 => (gb ρ G1).bind fun y G2 => (f x y G2).bind fun k G3 => match k with
  | .bl true => (gc ρ G3).bind fun z G4 => f' y z G4
  | .bl false => .ok (.bl false) G3
  | _ => .no
theorem chain_okF {r r' : R2} {f f' : F2} {ga gb gc : FE} {σ : L2.St} {H : Hp} {Q : VK} (hr : ∀ (c : Cf) (x y : V) (a b : W) (Q : VK) (E : XK), SR Γ c → c.Rp Γ x a → c.Rp Γ y b → Th Γ E (Cf.Rp Γ) c Q (f a b c.G) → r x y c.H Q)
    (hr' : ∀ (c : Cf) (x y : V) (a b : W) (Q : VK) (E : XK), SR Γ c → c.Rp Γ x a → c.Rp Γ y b → Th Γ E (Cf.Rp Γ) c Q (f' a b c.G) → r' x y c.H Q)
    (h : absE Γ Z (gChain f f' ga gb gc) σ H Q) : tChain r r' (absE Γ Z ga) (absE Γ Z gb) (absE Γ Z gc) σ H Q := by
  obtain ⟨c, ρ, e, s, en, th⟩ := absG.bind h
  refine ⟨c, ρ, e, s, en, Th.mono th fun v c1 st ⟨c2, ρ2, a, e2, s2, en2, ra, q⟩ => ?_⟩
  refine ⟨c2, ρ2, e2, s2, en2, Th.mono (Th.bind q) fun u c3 st3 ⟨c4, b, e4, st4, s4, rb, q4⟩ => ?_⟩
  rw [← e4]
  refine hr c4 v u a b _ _ s4 (st4.rp s2 ra) rb (Th.mono (Th.bind q4) fun z c5 st5 ⟨c6, k, e6, st6, s6, rk, q6⟩ => ?_)
  have en6 := st6.en s4 (st4.en s2 en2)
  cases rk with
  | bl k =>
    cases k with
    | false => exact ⟨false, rfl, by rw [if_neg Bool.false_ne_true, ← e6]; exact q6.pure s6 (.bl false)⟩
    | true =>
      refine ⟨true, rfl, ?_⟩
      rw [if_pos rfl]
      refine ⟨c6, ρ2, e6, s6, en6, Th.mono (Th.bind q6) fun w c7 st7 ⟨c8, d, e8, st8, s8, rd, q8⟩ => ?_⟩
      rw [← e8]
      exact hr' c8 u w b d Q _ s8 (st8.rp s6 (st6.rp s4 rb)) rd q8
  | _ => exact q6.elim
theorem fe_chain {op op' : CmpOp} {f f' : F2} {a b d : Expr} {ga gb gc : FE} {pos : Pos} (ho : OpF X Γ (compareOp op) f) (ho' : OpF X Γ (compareOp op') f') (ha : PE X a (absE Γ Z ga)) (hb : PE X b (absE Γ Z gb)) (hc : PE X d (absE Γ Z gc))
    (hm : lastMarks [op, op'] [b, d] = false := by with_unfolding_all rfl) : PE X (.Compare a [op, op'] [b, d] pos) (absE Γ Z (gChain f f' ga gb gc)) := by
  obtain ⟨r, hr, h⟩ := ho
  obtain ⟨r', hr', h'⟩ := ho'
  exact PE.imp (pe_chain hr hr' ha hb hc hm) fun σ H Q q => chain_okF h h' q
theorem ft_chain {op op' : CmpOp} {f f' : F2} {a b d : Expr} {ga gb gc : FE} {pos : Pos} (ho : OpF X Γ (compareOp op) f) (ho' : OpF X Γ (compareOp op') f') (ha : PE X a (absE Γ Z ga)) (hb : PE X b (absE Γ Z gb)) (hc : PE X d (absE Γ Z gc))
    (hm : lastMarks [op, op'] [b, d] = false := by with_unfolding_all rfl) : PT X (.Compare a [op, op'] [b, d] pos) (absT Γ Z (gTest (gChain f f' ga gb gc))) := by
  obtain ⟨r, hr, h⟩ := ho
  obtain ⟨r', hr', h'⟩ := ho'
  exact PT.imp (pt_chain hr hr' ha hb hc hm) fun σ H Q q => chain_okF h h' (test_ok q)
/-! ### text times number, list times number -/
def strMul (z : Str) (n : Int) : Str := if n < 1 then Str.empty else if (n == 1 || z.length == 0) = true then z else ⟨(List.replicate n.toNat z.cps).foldl (· ++ ·) #[]⟩
def rMulS : R2 := fun x y H Q => ∃ (z : Str) (n : Int), x = .str z ∧ y = .int n ∧ 0 ≤ n ∧ n < 2 ^ 31 ∧ z.length * n.toNat ≤ sizeLine ∧ (strMul z n).length ≤ sizeLine ∧ Q (.str (strMul z n)) H
theorem op_mulS : OpR X (binaryOp .Mult) rMulS := by
  intro pins s σ H x y v u Q I rx ry h
  obtain ⟨z, n, rfl, rfl, h0, h1, hz, hl, q⟩ := h
  obtain ⟨t, rfl⟩ := rx
  obtain ⟨t2, rfl⟩ := ry
  refine PySem.P.mul_str (by rw [decide_eq_false (by omega), decide_eq_false (by omega)]; rfl) (fun n1 _ => ?_) (fun _ _ => ?_) ?_
  · have hs := sizeLine_eq
    have : (z.length : Int) * n ≤ 16777216 := by
      have : ((z.length * n.toNat : Nat) : Int) ≤ (sizeLine : Int) := by exact_mod_cast hz
      rw [hs, Int.natCast_mul, Int.toNat_of_nonneg h0] at this
      exact this
    intro g
    have g2 : (z.length : Int) ≥ (2 ^ 63 - 1) / n + 1 := by omega
    have g3 : (2 ^ 63 - 1) / n * n + n ≤ 16777216 := by
      have := Int.mul_le_mul_of_nonneg_right g2 (show 0 ≤ n by omega)
      rw [Int.add_mul, Int.one_mul] at this
      omega
    have g4 := Int.emod_add_mul_ediv (2 ^ 63 - 1) n
    have g5 := Int.emod_lt_of_pos (2 ^ 63 - 1) (show 0 < n by omega)
    rw [Int.mul_comm] at g4
    omega
  · unfold Builtin.Str.tooLong
    exact decide_eq_false (by omega)
  · unfold strMul at q hl
    split
    · rw [if_pos (by assumption)] at q hl
      exact ⟨hl, .str _, H, I.tok _, ⟨_, rfl⟩, q⟩
    · rw [if_neg (by assumption)] at q hl
      split
      · rw [if_pos (by assumption)] at q hl
        exact ⟨.str _, H, I, ⟨_, rfl⟩, q⟩
      · rw [if_neg (by assumption)] at q hl
        exact ⟨hl, .str _, H, I.tok _, ⟨_, rfl⟩, q⟩
/-- numbers, a text and a number, an owned list and a number -/
def fMulX : F2 := fun a b G => match a, b with
  | .str z, .int n => if 0 ≤ n ∧ n < 2 ^ 31 ∧ z.length * n.toNat ≤ sizeLine ∧ (strMul z n).length ≤ sizeLine then .ok (.str (strMul z n)) G else .no
  | .ref m, .int n => match G.at_ m with
    | some (.lst ws) => if 0 ≤ n ∧ n < 2 ^ 31 ∧ ws.length * n.toNat ≤ sizeLine then .ok (.lst (List.replicate n.toNat ws).flatten) G else .no
    | _ => .no
  | a, b => fMul a b G
def rMulX (r : R2) : R2 := fun x y H Q => r x y H Q ∨ (rMulS x y H Q ∨ rRep x y H Q)
theorem RpAll.repl {c : Cf} {vs : List V} {ws : List W} (r : c.RpAll Γ vs ws) : ∀ n : Nat, c.RpAll Γ (List.replicate n vs).flatten (List.replicate n ws).flatten
  | 0 => .nil
  | n + 1 => by rw [List.replicate_succ, List.replicate_succ, List.flatten_cons, List.flatten_cons]; exact r.append (RpAll.repl r n)
theorem of_mulX : OpF X Γ (binaryOp .Mult) fMulX := by
  obtain ⟨r, hr, h0⟩ := (of_mul : OpF X Γ (binaryOp .Mult) fMul)
  refine ⟨rMulX r, hr.or (op_mulS.or op_rep), fun c x y a b Q E s ra rb h => ?_⟩
  unfold fMulX at h
  split at h
  · rename_i z n
    cases Rp.str_of (c := c) ra
    cases Rp.int_of (c := c) rb
    by_cases k : 0 ≤ n ∧ n < 2 ^ 31 ∧ z.length * n.toNat ≤ sizeLine ∧ (strMul z n).length ≤ sizeLine
    · rw [if_pos k] at h
      exact .inr (.inl ⟨z, n, rfl, rfl, k.1, k.2.1, k.2.2.1, k.2.2.2, h.pure s (.str _)⟩)
    · rw [if_neg k] at h; exact h.elim
  · rename_i m n
    cases Rp.int_of (c := c) rb
    split at h
    · rename_i ws e
      cases ra with
      | ref h1 =>
        obtain ⟨b, ho, e1, e2, r⟩ := s.obj m _ e
        rw [h1] at e1; cases e1
        cases r with
        | @lst xs ws r =>
          by_cases k : 0 ≤ n ∧ n < 2 ^ 31 ∧ ws.length * n.toNat ≤ sizeLine
          · rw [if_pos k] at h
            exact .inr (.inr ⟨_, n, xs, rfl, rfl, e2, by omega, by omega, by rw [r.length]; exact k.2.2, fun p hp => mkL_ok (own := false) s (RpAll.repl r n.toNat) h hp⟩)
          · rw [if_neg k] at h; exact h.elim
    · exact h.elim
  · exact .inl (h0 c x y a b Q E s ra rb h)
/-! ### l.extend(x) -/
def rExt (K : PySem.W.Frag) : V → List V → Hp → VK → Prop := fun x vs H Q => ∃ l b xs zs, x = .ref l ∧ vs = [.ref b] ∧ H l = some (.lst xs) ∧ (SqL K H b zs ∨ SqT K H b zs) ∧ xs.length + zs.length ≤ sizeLine ∧ Q .non (upd H l (.lst (xs ++ zs)))
theorem wpAny_extend_into {prog : Program} {w : World} {A : Around} {s : Shared} {R : Result → Shared → Prop} (S it : Addr) (res : Value) {T : String} {o oS : Obj} {mine items : Array Value} {n nS : Nat} (hT : T = "list" ∨ T = "tuple")
    (hS : s.heap.get? S = some oS) (hSd : oS.data = .seq mine nS) (ho : s.heap.get? it = some o) (hc : o.cls = .type T) (hd : o.data = .seq items n) (h1 : mine.size + items.size ≤ sizeLine)
    (hR : R (.ok (.ret res)) { s with heap := s.heap.update S (Obj.mapSeq (· ++ items)) }) :
    wpAny (model prog w) A.in1 (Builtin.List.listExtendWith (.ref S) (.ref it) res)
      (fun fin s' => match fin with | .done f => R (.ok f) s' | .again c' => c'.quiet = true ∧ codeAny (model prog w) A c' R s') (fun e s' => R (.error e) s') s := by
  unfold Builtin.List.listExtendWith
  refine wpAny_bind (wpAny_typeOf ⟨o, ho, hc⟩ ?_)
  have h2 : (Builtin.List.listSameRef (.ref S) (.ref it) || Value.type T == Value.type "list" || Value.type T == Value.type "tuple") = true := by
    rcases hT with rfl | rfl <;> simp
  simp only [h2, if_true]
  refine wpAny_bind ?_
  unfold Builtin.List.listItems
  refine wpAny_bind (wpAny_seqItems ho hd (wpAny_pure ?_))
  refine wpAny_bind ?_
  refine wpAny_bind (wpAny_seqItems hS hSd (wpAny_pure ?_))
  rw [notLongL h1, Bool.and_false]
  show wpAny _ A.in1 (updateSeq S (· ++ items) >>= fun _ => ret res) _ _ s
  refine wpAny_bind (wpAny_updateSeq hS hSd ?_ (by omega) (by rw [Array.size_append]; omega))
  exact wpAny_pure hR
theorem mt_ext : MtR X "list.extend" (rExt X.K) := by
  intro pins s σ H x vs v us Q I rx rv h
  obtain ⟨l, b, xs, zs, rfl, rfl, hH, hB, hz, q⟩ := h
  cases rx
  obtain ⟨u, rfl, ru⟩ := rv.one
  cases ru
  obtain ⟨z, its, n, r, hl, e⟩ := I.lstM hH
  have fin : ∀ (its2 : List Value), Vals zs its2 → EP X pins σ Q Value.none { s with heap := s.heap.update l (Obj.mapSeq (· ++ its2.toArray)) } := fun its2 r2 => by
    refine ⟨.non, _, I.lset (its' := its ++ its2) (t' := s.toks) hH e (by simp) (r.append r2) ?_, rfl, q⟩
    rw [List.length_append]; omega
  have go : ∀ (T : String) (o : Obj) (its2 : List Value) (m : Nat), (T = "list" ∨ T = "tuple") → s.heap.get? b = some o → o.cls = .type T → o.data = .seq its2.toArray m → Vals zs its2 → wpAny (model X.prog X.w) X.A (call (.builtin "list.extend") [.ref l, .ref b]) (EP X pins σ Q) X.xe s := fun T o its2 m hT ho hc hd r2 => by
    have l2 := r2.length
    refine wpAny_call (codeAny_call_builtin F.slot_list_extend.plain F.entry_list_extend (F.slot_list_extend.check _ _ _ _ _ _ _ _ ⟨_, e, rfl⟩ (F.args_list_extend_2 _ _) ?_))
    have ee : Builtin.«list.extend» ⟨[.ref l, .ref b], []⟩ = Builtin.List.listExtendWith (.ref l) (.ref b) .none := by first | rfl | kernel_rfl
    rw [ee]
    exact wpAny_extend_into (R := wants (EP X pins σ Q) X.xe) l b Value.none hT e rfl ho hc hd (by rw [List.size_toArray, List.size_toArray]; omega) (fin its2 r2)
  rcases hB with hB | hB
  · obtain ⟨its2, r2, ⟨o, m, ho, hc, _, hd⟩, _⟩ := I.list hB
    exact go "list" o its2 m (.inl rfl) ho hc hd r2
  · obtain ⟨its2, r2, ⟨o, ho, hc, m, hd⟩, _⟩ := I.tuple hB
    exact go "tuple" o its2 m (.inr rfl) ho hc hd r2
def mExtend : W → List W → GH → R W := fun o ws G => match lw G o, ws with
  | some (n, xs), [w] => match sqs G w with
    | some ys => if xs.length + ys.length ≤ sizeLine then .ok .non (G.set n (.lst (xs ++ ys))) else .no
    | none => .no
  | _, _ => .no
theorem mf_extend (hK : Γ.K = X.K := by rfl) : MthF X Γ "list" "list.extend" mExtend := ⟨_, mt_ext, fun c o vs wo ws Q E s ro rv h => by
  unfold mExtend at h
  split at h
  · rename_i n xs w e
    obtain ⟨a, ys, rfl, hH, r, hn, hG⟩ := lw_ok s e ro
    obtain ⟨v, rfl, r1⟩ := RpAll.one (c := c) rv
    split at h
    · rename_i us eu
      obtain ⟨b, zs, rfl, hq, rr⟩ := sqs_ok s eu r1
      by_cases k : xs.length + us.length ≤ sizeLine
      · rw [if_pos k] at h
        obtain ⟨st, s'⟩ := upd_own (ho := .lst (ys ++ zs)) s hG hn (.lst (r.append rr))
        exact ⟨a, b, ys, zs, rfl, rfl, hH, hq.imp (fun z => hK ▸ z) (fun z => hK ▸ z), by rw [r.length, rr.length]; exact k, h _ _ st s' rfl .non⟩
      · rw [if_neg k] at h; exact h.elim
    · exact h.elim
  · exact h.elim⟩
/-! ### l.pop(i) -/
def mPopAt : W → List W → GH → R W := fun o ws G => match lw G o, ws with
  | some (n, xs), [.int i] => if xs.length ≤ sizeLine then match L2.ixN xs.length i with
      | some k => match xs[k]? with
        | some w => .ok w (G.set n (.lst (xs.eraseIdx k)))
        | none => .no
      | none => .no
    else .no
  | _, _ => .no
theorem RpAll.erase {c : Cf} : ∀ {vs : List V} {ws : List W} (k : Nat), c.RpAll Γ vs ws → c.RpAll Γ (vs.eraseIdx k) (ws.eraseIdx k)
  | _, _, _, .nil => .nil
  | _, _, 0, .cons _ t => t
  | _, _, k + 1, .cons h t => .cons h (RpAll.erase k t)
theorem mf_popAt : MthF X Γ "list" "list.pop" mPopAt := ⟨_, mt_popAt, fun c o vs wo ws Q E s ro rv h => by
  unfold mPopAt at h
  split at h
  · rename_i n xs i e
    obtain ⟨a, ys, rfl, hH, r, hn, hG⟩ := lw_ok s e ro
    obtain ⟨v, rfl, r1⟩ := RpAll.one (c := c) rv
    cases Rp.int_of (c := c) r1
    by_cases hz : xs.length ≤ sizeLine
    · rw [if_pos hz] at h
      cases ek : L2.ixN xs.length i with
      | none => rw [ek] at h; exact h.elim
      | some k =>
        rw [ek] at h
        simp only at h
        split at h
        · rename_i w ew
          obtain ⟨v, ev, rv⟩ := r.get ew
          obtain ⟨e1, _, l1, l2⟩ := L2.ixN_seq ek
          have hs := sizeLine_eq
          obtain ⟨st, s'⟩ := upd_own (ho := .lst (ys.eraseIdx k)) s hG hn (.lst (RpAll.erase (c := c) k r))
          exact ⟨a, ys, i, k, v, rfl, rfl, hH, by omega, by omega, by rw [r.length]; exact e1, ev, h _ _ st s' rfl (st.rp s rv)⟩
        · exact h.elim
    · rw [if_neg hz] at h; exact h.elim
  · exact h.elim⟩
/-! ### sum, min(a, b), max(a, b) -/
def cSum : FC := fun ws G => match ws with
  | [w] => match lsq G w with
    | some us => match intsOf us with
      | some ns => .ok (.int ns.sum) G
      | none => .no
    | none => .no
  | _ => .no
theorem cf_sum (hc : X.calm = true) (hK : Γ.K = X.K := by rfl) : CallF X Γ (.builtin "sum") cSum := ⟨_, cr_sum hc, fun c vs ws Q E s ra h => by
  unfold cSum at h
  split at h
  · obtain ⟨v, rfl, r⟩ := RpAll.one (c := c) ra
    split at h
    · rename_i us e
      split at h
      · rename_i ns eb
        obtain ⟨p, xs, rfl, hq, rr⟩ := lsq_ok s e r
        rw [intsOf_eq eb] at rr
        cases RpAll.ints (c := c) rr
        exact ⟨p, ns, rfl, hK ▸ hq, h.pure s (.int _)⟩
      · exact h.elim
    · exact h.elim
  · exact h.elim⟩
def cMin2 : FC := fun ws G => match ws with
  | [.int i, .int j] => .ok (.int (if j < i then j else i)) G
  | _ => .no
def cMax2 : FC := fun ws G => match ws with
  | [.int i, .int j] => .ok (.int (if j > i then j else i)) G
  | _ => .no
theorem cf_min2 (hc : X.calm = true) : CallF X Γ (.builtin "min") cMin2 := ⟨_, call_min2 hc, fun c vs ws Q E s ra h => by
  unfold cMin2 at h
  split at h
  · obtain ⟨v, x, rfl, r1, r2⟩ := RpAll.two (c := c) ra
    cases Rp.int_of (c := c) r1
    cases Rp.int_of (c := c) r2
    exact ⟨_, _, rfl, h.pure s (.int _)⟩
  · exact h.elim⟩
theorem cf_max2 (hc : X.calm = true) : CallF X Γ (.builtin "max") cMax2 := ⟨_, call_max2 hc, fun c vs ws Q E s ra h => by
  unfold cMax2 at h
  split at h
  · obtain ⟨v, x, rfl, r1, r2⟩ := RpAll.two (c := c) ra
    cases Rp.int_of (c := c) r1
    cases Rp.int_of (c := c) r2
    exact ⟨_, _, rfl, h.pure s (.int _)⟩
  · exact h.elim⟩
/-! ### .index -/
/-- values of which == is told by the value alone -/
def flatW : W → Bool
  | .non | .bl _ | .int _ | .str _ => true
  | _ => false
def indexW (a : W) : List W → Option Nat
  | [] => none
  | x :: xs => if eqW x a then some 0 else (indexW a xs).map (· + 1)
theorem flat_ok {c : Cf} {v : V} {w : W} (r : c.Rp Γ v w) (h : flatW w = true) : flatV v = true := by
  cases r <;> first | rfl | cases h
theorem eq_flat {c : Cf} {v u : V} {w z : W} (r : c.Rp Γ v w) (r2 : c.Rp Γ u z) (h : flatW w = true) (h2 : flatW z = true) : eqV v u = eqW w z := by
  cases r <;> first | (cases h; done) | (cases r2 <;> first | (cases h2; done) | rfl)
theorem index_ok {c : Cf} {a : W} {v : V} (ra : c.Rp Γ v a) (ha : flatW a = true) : ∀ {xs : List V} {ws : List W} {j : Nat}, c.RpAll Γ xs ws → ws.all flatW = true → indexW a ws = some j →
    xs.all flatV = true ∧ ∃ z, xs[j]? = some z ∧ eqV z v = true ∧ ∀ (m : Nat) (z' : V), m < j → xs[m]? = some z' → eqV z' v = false
  | _, _, _, .nil, _, h => by cases h
  | x :: xs, w :: ws, j, .cons h t, hf, hj => by
    rw [List.all_cons, Bool.and_eq_true] at hf
    have fx := flat_ok h hf.1
    have e := eq_flat h ra hf.1 ha
    have hall : ∀ {xs : List V} {ws : List W}, c.RpAll Γ xs ws → ws.all flatW = true → xs.all flatV = true := by
      intro xs ws r hh
      induction ws generalizing xs with
      | nil => cases r; rfl
      | cons w ws ih =>
        cases r with
        | cons h t =>
          rw [List.all_cons, Bool.and_eq_true] at hh ⊢
          exact ⟨flat_ok h hh.1, ih t hh.2⟩
    unfold indexW at hj
    by_cases q : eqW w a = true
    · rw [if_pos q] at hj
      cases hj
      refine ⟨by rw [List.all_cons, fx, hall t hf.2]; rfl, x, rfl, by rw [e]; exact q, fun m z' hm _ => absurd hm (Nat.not_lt_zero _)⟩
    · rw [if_neg q] at hj
      obtain ⟨i, ei, rfl⟩ := Option.map_eq_some_iff.mp hj
      obtain ⟨f1, z, ez, e2, nx⟩ := index_ok ra ha t hf.2 ei
      refine ⟨by rw [List.all_cons, fx, f1]; rfl, z, by simpa using ez, e2, fun m z' hm hz => ?_⟩
      cases m with
      | zero =>
        have : x = z' := by simpa using hz
        rw [← this, e]
        exact Bool.eq_false_iff.mpr q
      | succ m => exact nx m z' (by omega) (by simpa using hz)
def mIndex : W → List W → GH → R W := fun o ws G => match lsq G o, ws with
  | some xs, [a] => if flatW a && xs.all flatW then match indexW a xs with
      | some j => .ok (.int (j : Nat)) G
      | none => .no
    else .no
  | _, _ => .no
theorem mf_index (hK : Γ.K = X.K := by rfl) : MthF X Γ "list" "list.index" mIndex := ⟨_, mt_index, fun c o vs wo ws Q E s ro rv h => by
  unfold mIndex at h
  split at h
  · rename_i xs a e
    obtain ⟨p, ys, rfl, hq, r⟩ := lsq_ok s e ro
    obtain ⟨v, rfl, r1⟩ := RpAll.one (c := c) rv
    by_cases k : (flatW a && xs.all flatW) = true
    · rw [if_pos k] at h
      rw [Bool.and_eq_true] at k
      cases ej : indexW a xs with
      | none => rw [ej] at h; exact h.elim
      | some j =>
        rw [ej] at h
        obtain ⟨f1, z, ez, e2, nx⟩ := index_ok r1 k.1 r k.2 ej
        exact ⟨p, ys, v, j, z, rfl, rfl, hK ▸ hq, flat_ok r1 k.1, f1, ez, e2, nx, h.pure s (.int _)⟩
    · rw [if_neg k] at h; exact h.elim
  · exact h.elim⟩
/-! ### over the signs of a text -/
def charsW (x : Str) : List W := x.cps.toList.map fun ch => .str ⟨#[ch]⟩
theorem txtWalks {c : Cf} {x : Str} : Walks Γ c (Its x) (charsW x) where
  go := fun c' st s' i hi => by
    show i < x.cps.size
    simpa [charsW] using hi
  stop := fun c' st s' i hi => by
    show x.cps.size ≤ i
    simpa [charsW] using hi
  yld := fun c' st s' i v H' hi ⟨e, ch, ec, ev⟩ => by
    subst e ev
    exact ⟨.str ⟨#[ch]⟩, c', by rw [charsW, List.getElem?_map, Array.getElem?_toList, ec]; rfl, rfl, Stp.refl c', s', rfl, .str _⟩
def asTxt (w : W) (G : GH) : R Wk := match w with
  | .str x => .ok (.vals (charsW x)) G
  | _ => .no
def iTxt (g : FE) : FI := fun ρ G => (g ρ G).bind asTxt
theorem fi_txt {tg e : Expr} {g : FE} (h : PE X e (absE Γ Z g)) : PI X tg e (absI Γ Z (iTxt g)) := PI.imp (pi_str h) fun σ H R q => by
  obtain ⟨c, ρ, e, s, en, th⟩ := absG.bind q
  refine ⟨c, ρ, e, s, en, Th.mono th fun v c1 st ⟨c2, ρ2, a, e2, s2, en2, ra, q⟩ => ?_⟩
  rw [← e2]
  cases ra with
  | str x => exact ⟨x, rfl, q c2 _ (Stp.refl c2) s2 rfl txtWalks⟩
  | _ => exact q.elim
/-! ### enumerate(l) -/
def enumFrom' : Nat → List W → List W
  | _, [] => []
  | i, w :: ws => .tup [.int (i : Int), w] :: enumFrom' (i + 1) ws
theorem enum_length : ∀ (i : Nat) (ws : List W), (enumFrom' i ws).length = ws.length
  | _, [] => rfl
  | i, w :: ws => by rw [enumFrom', List.length_cons, List.length_cons, enum_length (i + 1) ws]
theorem enum_get : ∀ (k : Nat) (ws : List W) (i : Nat) (w : W), ws[i]? = some w → (enumFrom' k ws)[i]? = some (.tup [.int ((k + i : Nat) : Int), w])
  | _, [], _, _, h => by simp at h
  | k, w :: ws, 0, _, h => by
    have e : w = _ := Option.some.inj h
    subst e
    rfl
  | k, w :: ws, i + 1, u, h => by
    rw [enumFrom', List.getElem?_cons_succ, enum_get (k + 1) ws i u (by simpa using h)]
    congr 5
    omega
theorem enumWalks {c : Cf} {a : Addr} {xs : List V} {ws : List W} (k : ∀ c', StpW c c' → SR Γ c' → SqL Γ.K c'.H a xs) (r : c.RpAll Γ xs ws) (s : SR Γ c) : Walks Γ c (Ite Γ.K a) (enumFrom' 0 ws) where
  go := fun c' st s' i hi => ⟨xs, xs[i]'(by rw [r.length]; rwa [enum_length] at hi), k c' st s', List.getElem?_eq_getElem _⟩
  stop := fun c' st s' i hi => ⟨xs, k c' st s', by rw [r.length]; rwa [enum_length] at hi⟩
  yld := fun c' st s' i v H' hi ⟨T, x, ev, hT, eH, y⟩ => by
    subst ev eH
    obtain ⟨w, ew, rw1⟩ := r.getV (y xs (k c' st s'))
    obtain ⟨st1, s1, no⟩ := new_frz s' hT (.tup [.int (i : Nat), x])
    refine ⟨.tup [.int ((0 + i : Nat) : Int), w], _, enum_get 0 ws i w ew, rfl, st1, s1, rfl, .tup (.inl (.inl upd_same)) (.cons ?_ (.cons (st1.rp s' (st.rp s rw1)) .nil))⟩
    rw [Nat.zero_add]
    exact .int _
def asEnum (ws : List W) (G : GH) : R Wk := match ws with
  | [.lst ws] => .ok (.vals (enumFrom' 0 ws)) G
  | _ => .no
theorem fi_enum {e : Expr} {g : FA} {p pos tpos : Pos} {elts : List Expr} {kk : Nat} (hg : Gl X "enumerate") (hm : X.mg "enumerate" = none) (ha : PA X [e] (absA Γ Z g)) (hs : starEach [e] X.env = [(false, eval e X.env)] := by rfl) (hK : Γ.K = X.K := by rfl) :
    PI X (.Tuple elts kk tpos) (.Call (.Name "enumerate" p) [e] [] pos) (absI Γ Z (iRng asEnum g)) := PI.imp (pi_enum hg hm ha hs) fun σ H R q => by
  obtain ⟨c, ρ, e, s, en, th⟩ := absG.bind q
  refine ⟨c, ρ, e, s, en, Th.mono th fun v c1 st ⟨c2, ρ2, ws, e2, s2, en2, ra, q⟩ => ?_⟩
  rw [← e2]
  unfold asEnum at q
  split at q
  · obtain ⟨v, rfl, r1⟩ := RpAll.one (c := c2) ra
    cases r1 with
    | lst h n r => exact ⟨_, _, rfl, by rw [← hK]; exact .inl h, hK ▸ q c2 _ (Stp.refl c2) s2 rfl (enumWalks (fun c' st' s' => .inl (st'.rd n h)) r s2)⟩
    | lstK h1 h2 h3 h4 h5 h6 r => exact ⟨_, _, rfl, by rw [← hK]; exact .inr ⟨_, _, _, h1, h2, h3, h4, h5, h6⟩, hK ▸ q c2 _ (Stp.refl c2) s2 rfl (enumWalks (fun c' st' s' => .inr ⟨_, _, _, h1, h2, h3, h4, h5, h6⟩) r s2)⟩
  · exact q.elim
/-! ### T.index(x), T a tuple of texts of the top -/
def rTI (K : PySem.W.Frag) : V → List V → Hp → VK → Prop := fun x xs H Q => ∃ p, ∃ ys : List Str, ∃ z j, x = .ref p ∧ xs = [.str z] ∧ SqT K H p (ys.map V.str) ∧ ys[j]? = some z ∧ (∀ m, m < j → ys[m]? ≠ some z) ∧ Q (.int (j : Nat)) H
def tTupIx (K : PySem.W.Frag) (a : Addr) (ty : TE) : TE := fun σ H Q => ty σ H fun y H1 => rTI K (.ref a) [y] H1 Q
def KTupX (K : PySem.W.Frag) (a : Addr) (vs : List V) : Prop := ∃ (o : Obj) (its : Array Value) (n : Nat), K.lookup a = some o ∧ o.cls = .type "tuple" ∧ o.dict = none ∧ o.data = .seq its n ∧ its.size ≤ sizeLine ∧ Vals vs its.toList
theorem KTupX.tup {K : PySem.W.Frag} {a : Addr} {vs : List V} (h : KTupX K a vs) : KTup K a vs := by
  obtain ⟨o, its, n, h1, h2, _, h4, h5, h6⟩ := h
  exact ⟨o, its, n, h1, h2, h4, h5, h6⟩
theorem pe_tupIx {x : Str} {a : Addr} {ys : List Str} {e : Expr} {ty : TE} {px apos cpos : Pos} (hg : Gl X x) (hm : X.mg x = some (.ref a)) (h : KTupX X.K a (ys.map V.str)) (he : PE X e ty) (hd : (x == ("__debug__" : Str)) = false := by decide)
    (hbase : attributeBase (.Name x px) "index" X.env (eval (.Name x px) X.env) = eval (.Name x px) X.env := by rfl)
    (hfew : ((backTo cpos (starEach [e] X.env)).all (fun x => !x.1) && (backToKw cpos (keywordEach [] X.env)).all (fun x => x.1.isSome)
      && decide (([e] : List Expr).length + ([] : List Keyword).length + (if ([] : List Keyword).isEmpty then 0 else 1) < 30)) = true := by rfl)
    (hline : (apos.endLine == cpos.line) = true := by rfl) (hs : starEach [e] X.env = (false, eval e X.env) :: starEach [] X.env := by rfl) (hplain : (backTo cpos (starEach [] X.env)).any (·.1) = false := by rfl) :
    PE X (.Call (.Attribute (.Name x px) "index" apos) [e] [] cpos) (tTupIx X.K a ty) := by
  refine PE.imp (pe_bm PySem.F.plainAttrs_tuple PySem.F.slot_tuple_index PySem.F.type_tuple_index mt_tup_index (pe_glob (v := .ref a) hg hm rfl hd) (pa_cons he pa_nil hs) hbase hfew hline hs hplain) fun σ H Q q => ?_
  obtain ⟨o, its, n, h1, h2, h3, h4, h5, h6⟩ := h
  exact ⟨.inr (.inl ⟨rfl, o, h1, h2, h3⟩), q⟩
def indexS (z : Str) : List Str → Option Nat
  | [] => none
  | y :: ys => if y = z then some 0 else (indexS z ys).map (· + 1)
theorem indexS_ok {z : Str} : ∀ {ys : List Str} {j : Nat}, indexS z ys = some j → ys[j]? = some z ∧ ∀ m, m < j → ys[m]? ≠ some z
  | [], _, h => by cases h
  | y :: ys, j, h => by
    unfold indexS at h
    by_cases e : y = z
    · rw [if_pos e] at h
      cases h
      exact ⟨by rw [e]; rfl, fun m hm => absurd hm (Nat.not_lt_zero _)⟩
    · rw [if_neg e] at h
      obtain ⟨i, ei, rfl⟩ := Option.map_eq_some_iff.mp h
      obtain ⟨h1, h2⟩ := indexS_ok ei
      refine ⟨by simpa using h1, fun m hm => ?_⟩
      cases m with
      | zero => simpa using e
      | succ m => simpa using h2 m (by omega)
def gTupIx (ys : List Str) (ge : FE) : FE := fun ρ G => (ge ρ G).bind fun w G1 => match w with
  | .str z => match indexS z ys with
    | some j => .ok (.int (j : Nat)) G1
    | none => .no
  | _ => .no
theorem fe_tupIx {x : Str} {a : Addr} {ys : List Str} {e : Expr} {ge : FE} {px apos cpos : Pos} (hg : Gl X x) (hm : X.mg x = some (.ref a)) (h : KTupX Γ.K a (ys.map V.str)) (he : PE X e (absE Γ Z ge)) (hK : Γ.K = X.K := by rfl) (hd : (x == ("__debug__" : Str)) = false := by decide)
    (hbase : attributeBase (.Name x px) "index" X.env (eval (.Name x px) X.env) = eval (.Name x px) X.env := by rfl)
    (hfew : ((backTo cpos (starEach [e] X.env)).all (fun x => !x.1) && (backToKw cpos (keywordEach [] X.env)).all (fun x => x.1.isSome)
      && decide (([e] : List Expr).length + ([] : List Keyword).length + (if ([] : List Keyword).isEmpty then 0 else 1) < 30)) = true := by rfl)
    (hline : (apos.endLine == cpos.line) = true := by rfl) (hs : starEach [e] X.env = (false, eval e X.env) :: starEach [] X.env := by rfl) (hplain : (backTo cpos (starEach [] X.env)).any (·.1) = false := by rfl) :
    PE X (.Call (.Attribute (.Name x px) "index" apos) [e] [] cpos) (absE Γ Z (gTupIx ys ge)) := PE.imp (pe_tupIx hg hm (hK ▸ h) he hd hbase hfew hline hs hplain) fun σ H Q q => by
  obtain ⟨c, ρ, e, s, en, th⟩ := absG.bind q
  refine ⟨c, ρ, e, s, en, Th.mono th fun v c1 st ⟨c2, ρ2, w, e2, s2, en2, ra, q⟩ => ?_⟩
  rw [← e2]
  cases ra with
  | str z =>
    simp only at q
    cases ej : indexS z ys with
    | none => rw [ej] at q; exact q.elim
    | some j =>
      rw [ej] at q
      obtain ⟨h1, h2⟩ := indexS_ok ej
      exact ⟨a, ys, z, j, rfl, rfl, hK ▸ .inr h.tup, h1, h2, q.pure s2 (.int _)⟩
  | _ => exact q.elim
/-! ### a, b, c = x, y, z -/
def gPar3 (i j l : Nat) (ga : FA) : FS := fun ρ G => (ga ρ G).thn ρ fun ws G1 => match ws with
  | [a, b, c] => .nx (((ρ.set i (some a)).set j (some b)).set l (some c)) G1
  | _ => .no
theorem RpAll.three {c : Cf} {vs : List V} {w u t : W} (r : c.RpAll Γ vs [w, u, t]) : ∃ v x y, vs = [v, x, y] ∧ c.Rp Γ v w ∧ c.Rp Γ x u ∧ c.Rp Γ y t := by
  cases r with
  | cons h t => obtain ⟨x, y, e, h2, h3⟩ := RpAll.two (c := c) t; subst e; exact ⟨_, _, _, rfl, h, h2, h3⟩
theorem fs_par3 {i j l : Nat} {x y z : Str} {a b d : Expr} {ga : FA} {px py pz pt pos : Pos} {kt k2 : Nat} {pt2 : Pos} (hc : X.calm = true) (hN : X.N.Nodup) (hi : X.N[i]? = some x) (hj : X.N[j]? = some y) (hl : X.N[l]? = some z) (hij : i ≠ j) (hil : i ≠ l) (hjl : j ≠ l)
    (hx : X.env.scope.names.lookup x = some .local) (hy : X.env.scope.names.lookup y = some .local) (hz : X.env.scope.names.lookup z = some .local) (ha : PA X [a, b, d] (absA Γ Z ga))
    (hw : swappedStores [.Tuple [.Name x px, .Name y py, .Name z pz] kt pt] (.Tuple [a, b, d] k2 pt2) X.env = pure (some [x, y, z]))
    (hs : swapsWithSole [.Tuple [.Name x px, .Name y py, .Name z pz] kt pt] (.Tuple [a, b, d] k2 pt2) pos.line X.env = pure false := by rfl) :
    PS X (.Assign [.Tuple [.Name x px, .Name y py, .Name z pz] kt pt] (.Tuple [a, b, d] k2 pt2) pos) (absS Γ Z (gPar3 i j l ga)) :=
  PS.imp (ps_par3 hc hN hi hj hl hij hil hjl hx hy hz ha hw hs) fun D σ H q => by
    obtain ⟨c, ρ, e, s, en, th⟩ := absS.bind (rel := Cf.RpAll Γ) q
    refine ⟨c, ρ, e, s, en, Th.mono th fun vs c1 st ⟨c2, ρ2, ws, e2, s2, en2, ra, q⟩ => ?_⟩
    rw [← e2]
    split at q
    · obtain ⟨v, u, t, rfl, r1, r2, r3⟩ := RpAll.three (c := c2) ra
      exact ⟨v, u, t, rfl, q c2 _ (Stp.refl c2) s2 rfl (((en2.set r1 i).set r2 j).set r3 l)⟩
    · exact q.elim
end
end Fn

set_option Elab.async false
set_option linter.all false
set_option maxRecDepth 100000
namespace Fn
open PySem PySem.Spec PyProof.Rows L2
def mkD (own : Bool) (ks : List Key) (ws : List W) (G : GH) : R W := if own then .ok (.ref G.n) (G.push (.dic ks ws)) else .ok (.dic ks ws) G
/-- one turn: the item, its test, its key, its value -/
def dcTurn (t : FG1) (tt : FT) (tk tv : FE) (ρw : En) (w : W) (G : GH) : R (Option (Key × W)) := match t w ρw G with
  | none => .no
  | some (ρ1, G1) => (tt ρ1 G1).calm.bind fun b G2 => if b then (tk ρ1 G2).calm.bind fun y G3 => match keyW y with
      | some k => (tv ρ1 G3).calm.bind fun z G4 => .ok (some (k, z)) G4
      | none => .no
    else .ok none G2
/-- the keys have to be new -/
def dcF (t : FG1) (tt : FT) (tk tv : FE) (ρw : En) : List W → List Key → List W → GH → R (List Key × List W)
  | [], ks, vs, G => .ok (ks, vs) G
  | w :: ws, ks, vs, G => (dcTurn t tt tk tv ρw w G).bind fun o G1 => match o with
    | some (k, z) => if ks.length < sizeLine ∧ (ks.any fun j => decide (j = k)) = false then dcF t tt tk tv ρw ws (ks ++ [k]) (vs ++ [z]) G1 else .no
    | none => dcF t tt tk tv ρw ws ks vs G1
def dcW (t : FG1) (tt : FT) (tk tv : FE) (ρw : En) (k : Wk) (G : GH) : R (List Key × List W) := match k with
  | .vals ws => dcF t tt tk tv ρw ws [] [] G
  | .own _ => .no
def gDc (own : Bool) (gi : FI) (t : FG1) (tt : FT) (tk tv : FE) (vs : List Nat) : FE := fun ρ G => (gi ρ G).bind fun k G1 => (dcW t tt tk tv (wipeW ρ vs) k G1).calm.bind fun r G2 => mkD own r.1 r.2 G2
section
variable {X : Cx} {Γ : Gm} {Z : WXk}
theorem valV_new {ks : List Key} {xs : List V} {k : Key} (h : k ∉ ks) : valV (ks.zip xs) k = none := by
  induction ks generalizing xs with
  | nil => rfl
  | cons j ks ih =>
    cases xs with
    | nil => rfl
    | cons x xs =>
      rw [List.zip_cons_cons, valV_neg (fun e => h (by rw [← (show j = k from e)]; exact List.mem_cons_self))]
      exact ih fun m => h (List.mem_cons_of_mem _ m)
theorem unhideD {c0 c : Cf} {p : Addr} {ks : List Key} {xs : List V} {ws : List W} {own : Bool} {E : XK} {Q : V → Hp → Prop} (s0 : SR Γ c0) (hp : c0.H p = none) (s : SR Γ c) (st : StpW c0 c) (kp : ∀ a o, c0.H a = some o → ¬ c0.Ow a → c.H a = some o) (hB : c.B = fun a => c0.B a ∨ a = p) (hx : c.H p = some (.dK (ks.zip xs))) (hl : ks.length = xs.length) (r : c.RpAll Γ xs ws)
    (h : Th Γ E (Cf.Rp Γ) c0 Q (mkD own ks ws c.G)) : Q (.ref p) c.H := by
  have np : p ∉ c.ι := (s.hid p (by rw [hB]; exact .inr rfl)).2
  have nB0 : ¬ c0.B p := fun z => by
    obtain ⟨⟨xs, e⟩, _⟩ := s0.hid p z
    rw [hp] at e; cases e
  have owS : ∀ a, c.Ow a → c0.Ow a ∨ c0.H a = none := fun a z => by
    rcases st.own a (.inl z) with (q | q) | q
    · exact .inl q
    · exact absurd (show a ∈ c.ι from by obtain ⟨n, o, _, e⟩ := z; exact List.mem_of_getElem? e) (s.hid a (by rw [hB]; exact .inl q)).2
    · exact .inr q
  cases own with
  | false =>
    -- the list is a value
    have st1 : Stp c0 ⟨c.ι, c.G, c.H, c0.B⟩ := ⟨st.pre, kp, st.there, owS, rfl⟩
    have wk : StpW c ⟨c.ι, c.G, c.H, c0.B⟩ := ⟨fun _ _ h => h, fun _ _ h _ => h, fun _ h => h, fun a z => by
      rcases z with z | z
      · exact .inl (.inl z)
      · exact .inl (.inr (by rw [hB]; exact .inl z))⟩
    have s1 : SR Γ ⟨c.ι, c.G, c.H, c0.B⟩ := ⟨s.len, s.nd, s.all, fun n o e => by
      obtain ⟨a, q, e1, e2, r⟩ := s.obj n o e
      exact ⟨a, q, e1, e2, r.stpW s wk⟩, fun a z => s.hid a (by rw [hB]; exact .inl z)⟩
    refine h ⟨c.ι, c.G, c.H, c0.B⟩ _ st1 s1 rfl (.dic (.inl hx) hl (fun z => ?_) (wk.rpAll s r))
    rcases z with ⟨n, o, _, e⟩ | z
    · exact np (List.mem_of_getElem? e)
    · exact nB0 z
  | true =>
    have pre : ∀ (n : Nat) (a : Addr), c.ι[n]? = some a → (c.ι ++ [p])[n]? = some a := fun n a h => by
      rw [List.getElem?_append_left (List.getElem?_eq_some_iff.mp h).1]; exact h
    have owN : ∀ a, Own (c.ι ++ [p]) (c.G.push (.dic ks ws)) a → c.Ow a ∨ a = p := fun a ⟨n, u, h1, h2⟩ => by
      have h1 : (if n = c.G.n then some (AO.dic ks ws) else c.G.at_ n) = some u := h1
      by_cases e : n = c.G.n
      · subst e
        rw [← s.len, List.getElem?_append_right (Nat.le_refl _), Nat.sub_self] at h2
        cases h2
        exact .inr rfl
      · rw [if_neg e] at h1
        obtain ⟨b, _, e1, _, _⟩ := s.obj n u h1
        rw [pre n b e1] at h2
        cases h2
        exact .inl ⟨n, u, h1, e1⟩
    have st1 : Stp c0 ⟨c.ι ++ [p], c.G.push (.dic ks ws), c.H, c0.B⟩ := ⟨fun n a e => pre n a (st.pre n a e), kp, st.there, fun a z => by
      rcases owN a z with z | z
      · exact owS a z
      · exact .inr (z ▸ hp), rfl⟩
    have wk : StpW c ⟨c.ι ++ [p], c.G.push (.dic ks ws), c.H, c0.B⟩ := ⟨pre, fun _ _ h _ => h, fun _ h => h, fun a z => by
      rcases z with z | z
      · rcases owN a z with z | z
        · exact .inl (.inl z)
        · exact .inl (.inr (by rw [hB]; exact .inr z))
      · exact .inl (.inr (by rw [hB]; exact .inl z))⟩
    have s1 : SR Γ ⟨c.ι ++ [p], c.G.push (.dic ks ws), c.H, c0.B⟩ := by
      refine ⟨by show (c.ι ++ [p]).length = c.G.n + 1; rw [List.length_append, s.len]; rfl, ?_, fun a z => ?_, fun n u e => ?_, fun a z => ?_⟩
      · refine List.nodup_append.mpr ⟨s.nd, by simp, fun a ha b hb => ?_⟩
        have : b = p := by simpa using hb
        subst this
        exact fun e => np (e ▸ ha)
      · rcases List.mem_append.mp z with z | z
        · exact s.all a z
        · have : a = p := by simpa using z
          subst this
          show c.H a ≠ none
          rw [hx]; simp
      · have e : (if n = c.G.n then some (AO.dic ks ws) else c.G.at_ n) = some u := e
        by_cases k : n = c.G.n
        · subst k
          rw [if_pos rfl] at e
          cases e
          exact ⟨p, _, new_own_at s p, hx, .dic hl (wk.rpAll s r)⟩
        · rw [if_neg k] at e
          obtain ⟨a, q, e1, e2, r'⟩ := s.obj n u e
          exact ⟨a, q, pre n a e1, e2, r'.stpW s wk⟩
      · obtain ⟨e, na⟩ := s.hid a (by rw [hB]; exact .inl z)
        refine ⟨e, fun m => ?_⟩
        rcases List.mem_append.mp m with m | m
        · exact na m
        · have : a = p := by simpa using m
          exact nB0 (this ▸ z)
    exact h ⟨c.ι ++ [p], c.G.push (.dic ks ws), c.H, c0.B⟩ _ st1 s1 rfl (.ref (new_own_at s p))

theorem dc_ok {own : Bool} {t : FG1} {sl vs : List Nat} {tt : FT} {tk tv : FE} {J : It} {ws : List W} {c0 : Cf} {ρ0 : En} {σ0 : L2.St} {E : XK} {Q : V → Hp → Prop} (hsl : ∀ i ∈ sl, i ∈ vs) (s0 : SR Γ c0) (wk : Walks Γ c0 J ws) (en0 : c0.En Γ ρ0 σ0)
    (th0 : Th Γ E (Cf.Rp Γ) c0 Q ((dcF t tt tk tv (wipeW ρ0 vs) ws [] [] c0.G).calm.bind fun r G2 => mkD own r.1 r.2 G2)) {D : Addr} (hD : c0.H D = none) :
    ∃ Wd : Nat → Nat → Hp → Prop, (∃ m, Wd 0 m (upd c0.H D (.dK []))) ∧ ∀ i m H, Wd i m H →
      (J.stop i H ∧ Q (.ref D) H) ∨ (J.go i H ∧ ∃ Nx : Hp → Prop, (∀ H', Nx H' → ∃ m', m' < m ∧ Wd (i + 1) m' H') ∧ ∀ x H', J.yld i H x H' → absG1 Γ sl t x (wipe σ0 vs) H' fun σ2 H2 => wipe σ2 vs = wipe σ0 vs ∧ absT Γ Z0 tt σ2 H2 fun b H3 =>
        if b = true then absE Γ Z0 tk σ2 H3 fun y H4 => absE Γ Z0 tv σ2 H4 fun z H5 => ∃ kvs k, y = kV k ∧ H5 D = some (.dK kvs) ∧ kvs.length < sizeLine ∧ Nx (upd H5 D (.dK (putK kvs k z))) else Nx H3) := by
  -- what holds ahead of turn i
  refine ⟨fun i m H => m = ws.length - i ∧ i ≤ ws.length ∧ ∃ (c : Cf) (ks : List Key) (xs : List V) (acc : List W), c.H = H ∧ SR Γ c ∧ StpW c0 c ∧ (∀ a o, c0.H a = some o → ¬ c0.Ow a → c.H a = some o) ∧ (c.B = fun a => c0.B a ∨ a = D) ∧ c.H D = some (.dK (ks.zip xs)) ∧ ks.length = xs.length ∧ c.RpAll Γ xs acc ∧
    Th Γ E (Cf.Rp Γ) c0 Q ((dcF t tt tk tv (wipeW ρ0 vs) (ws.drop i) ks acc c.G).calm.bind fun r G2 => mkD own r.1 r.2 G2), ?_, ?_⟩
  · obtain ⟨st1, s1⟩ := hide s0 hD (.d [])
    refine ⟨_, rfl, Nat.zero_le _, ⟨c0.ι, c0.G, upd c0.H D (.dK []), fun a => c0.B a ∨ a = D⟩, [], [], [], rfl, s1, st1, fun a o e _ => ?_, rfl, upd_same, rfl, .nil, by simpa using th0⟩
    show upd c0.H D _ a = some o
    rw [upd_ne (ne_of_none e hD)]; exact e
  · rintro i m H ⟨rfl, hi, c, ks, xs, acc, rfl, s, st, kp, hB, hx, hlx, rx, th⟩
    by_cases hlt : i < ws.length
    · have ed : ws.drop i = ws[i] :: ws.drop (i + 1) := (List.drop_eq_getElem_cons hlt)
      rw [ed] at th
      refine .inr ⟨wk.go c st s i hlt, fun H => ∃ (c : Cf) (ks : List Key) (xs : List V) (acc : List W), c.H = H ∧ SR Γ c ∧ StpW c0 c ∧ (∀ a o, c0.H a = some o → ¬ c0.Ow a → c.H a = some o) ∧ (c.B = fun a => c0.B a ∨ a = D) ∧ c.H D = some (.dK (ks.zip xs)) ∧ ks.length = xs.length ∧ c.RpAll Γ xs acc ∧
        Th Γ E (Cf.Rp Γ) c0 Q ((dcF t tt tk tv (wipeW ρ0 vs) (ws.drop (i + 1)) ks acc c.G).calm.bind fun r G2 => mkD own r.1 r.2 G2), fun H' h => ⟨_, by omega, rfl, hlt, h⟩, fun x H' y => ?_⟩
      obtain ⟨w, c1, ew, e1, st1, s1, eG, rw1⟩ := wk.yld c st s i x H' hlt y
      have ew : ws[i] = w := by rw [List.getElem?_eq_getElem hlt] at ew; exact Option.some.inj ew
      rw [ew] at th
      have oB : ¬ c.Ow D := fun ⟨n, o, _, e⟩ => (s.hid D (by rw [hB]; exact .inr rfl)).2 (List.mem_of_getElem? e)
      -- a state that is a step on keeps all this
      have on : ∀ c', Stp c c' → SR Γ c' → StpW c0 c' ∧ (∀ a o, c0.H a = some o → ¬ c0.Ow a → c'.H a = some o) ∧ (c'.B = fun a => c0.B a ∨ a = D) ∧ c'.H D = some (.dK (ks.zip xs)) ∧ c'.RpAll Γ xs acc := fun c' st' s' =>
        ⟨st.trans st'.w, (fun a o e n => by
          refine st'.keep a o (kp a o e n) fun z => ?_
          rcases st.own a (.inl z) with (q | q) | q
          · exact n q
          · exact (s.hid a (by rw [hB]; exact .inl q)).2 (by obtain ⟨n, o, _, e⟩ := z; exact List.mem_of_getElem? e)
          · rw [q] at e; cases e), st'.bl.trans hB, st'.keep D _ hx oB, st'.rpAll s rx⟩
      refine ⟨c1, wipeW ρ0 vs, w, e1, s1, wipeW_en (st1.en s (st.en s0 en0)) vs, rw1, ?_⟩
      unfold dcF dcTurn at th
      rw [eG]
      cases k : t w (wipeW ρ0 vs) c.G with
      | none => rw [k] at th; exact th.elim
      | some p =>
        obtain ⟨ρ1, G1⟩ := p
        rw [k] at th
        simp only at th ⊢
        intro c2 σ2 st2 s2 e2 en2 ag
        refine ⟨wipe_agr ag hsl, c2, ρ1, rfl, s2, en2, ?_⟩
        rw [e2]
        cases kt : tt ρ1 G1 with
        | ex x G2 => rw [kt] at th; exact th.elim
        | no => rw [kt] at th; exact th.elim
        | ok b G2 =>
          rw [kt] at th
          intro c3 b' st3 s3 e3 eb
          subst eb
          have st13 : Stp c c3 := st1.trans (st2.trans st3)
          cases b' with
          | false =>
            rw [if_neg Bool.false_ne_true]
            obtain ⟨a1, a2, a3, a4, a5⟩ := on c3 st13 s3
            refine ⟨c3, ks, xs, acc, rfl, s3, a1, a2, a3, a4, hlx, a5, ?_⟩
            rw [e3]
            exact th
          | true =>
            rw [if_pos rfl]
            refine ⟨c3, ρ1, rfl, s3, st3.en s2 en2, ?_⟩
            rw [e3]
            simp only [R.calm, R.bind, if_true] at th
            cases kv : tk ρ1 G2 with
            | ex x G3 => rw [kv] at th; exact th.elim
            | no => rw [kv] at th; exact th.elim
            | ok y G3 =>
              rw [kv] at th
              simp only at th
              intro c4 v st4 s4 e4 rv
              cases ek : keyW y with
              | none => rw [ek] at th; exact th.elim
              | some k =>
                rw [ek] at th
                simp only at th
                refine ⟨c4, ρ1, rfl, s4, st4.en s3 (st3.en s2 en2), ?_⟩
                rw [e4]
                cases kz : tv ρ1 G3 with
                | ex x G4 => rw [kz] at th; exact th.elim
                | no => rw [kz] at th; exact th.elim
                | ok z G4 =>
                  rw [kz] at th
                  simp only at th
                  intro c5 vz st5 s5 e5 rz
                  have st15 : Stp c c5 := st13.trans (st4.trans st5)
                  obtain ⟨a1, a2, a3, a4, a5⟩ := on c5 st15 s5
                  by_cases hk : ks.length < sizeLine ∧ (ks.any fun j => decide (j = k)) = false
                  · rw [if_pos hk] at th
                    have hBD : c5.B D := by rw [a3]; exact .inr rfl
                    have ez : (ks ++ [k]).zip (xs ++ [vz]) = ks.zip xs ++ [(k, vz)] := by rw [List.zip_append hlx]; rfl
                    obtain ⟨st6, s6⟩ := hidSet s5 hBD (.d ((ks ++ [k]).zip (xs ++ [vz])))
                    refine ⟨_, k, keyW_ok rv ek, a4, by rw [List.length_zip, ← hlx, Nat.min_self]; exact hk.1, ⟨c5.ι, c5.G, upd c5.H D (.dK ((ks ++ [k]).zip (xs ++ [vz]))), c5.B⟩, ks ++ [k], xs ++ [vz], acc ++ [z], ?_, s6, a1.trans st6, fun a o e n => ?_, a3, upd_same, by rw [List.length_append, List.length_append, hlx]; rfl, st6.rpAll s5 (a5.append (.cons rz .nil)), ?_⟩
                    · rw [putK_new vz (valV_new (fun m => by have := List.any_eq_false.mp hk.2 k m; simp at this)), ez]
                    · show upd c5.H D _ a = some o
                      rw [upd_ne (ne_of_none e hD)]
                      exact a2 a o e n
                    · show Th Γ E (Cf.Rp Γ) c0 Q ((dcF t tt tk tv (wipeW ρ0 vs) (ws.drop (i + 1)) (ks ++ [k]) (acc ++ [z]) c5.G).calm.bind _)
                      rw [e5]
                      exact th
                  · rw [if_neg hk] at th; exact th.elim
    · have e : i = ws.length := by omega
      subst e
      rw [List.drop_length] at th
      exact .inl ⟨wk.stop c st s _ (Nat.le_refl _), unhideD s0 hD s st kp hB hx hlx rx th⟩
theorem fe_dc {own : Bool} {kx vx tg iter : Expr} {ifs : List Expr} {scope : Scope} {onames : List (Str × Nat)} {pos : Pos} {gi : FI} {t : FG1} {sl : List Nat} {tt : FT} {tk tv : FE} (hc : X.calm = true) (hN : X.N.Nodup) (hi : PI X tg iter (absI Γ Z gi)) (ok : BlkOk X.N X.env.scope scope onames)
    (hg : ∀ (s : Shared) (H : Hp) (C : Addr) (cl : List (Str × Addr)) (fp : List Addr), PG (X.blk s H scope (compEnvC scope cl C X.env) fp) tg (absG1 Γ sl t))
    (ht : ∀ (s : Shared) (H : Hp) (C : Addr) (cl : List (Str × Addr)) (fp : List Addr), PTs (X.blk s H scope (compEnvC scope cl C X.env) fp) ifs (absT Γ Z0 tt))
    (hk : ∀ (s : Shared) (H : Hp) (C : Addr) (cl : List (Str × Addr)) (fp : List Addr), PE (X.blk s H scope (compEnvC scope cl C X.env) fp) kx (absE Γ Z0 tk))
    (he : ∀ (s : Shared) (H : Hp) (C : Addr) (cl : List (Str × Addr)) (fp : List Addr), PE (X.blk s H scope (compEnvC scope cl C X.env) fp) vx (absE Γ Z0 tv)) (hsl : ∀ i ∈ sl, i ∈ onames.map (·.2) := by decide) (hs : ∀ x, foldedSetIterable iter X.env x = pure x := by intro _; rfl) :
    PE X (.DictComp kx vx [⟨tg, iter, ifs, 0⟩] scope pos) (absE Γ Z (gDc own gi t tt tk tv (onames.map (·.2)))) :=
  PE.imp (pe_dc hc hN hi ok hg ht hk he hs) fun σ H Q q => by
    obtain ⟨c, ρ, e, s, en, th⟩ := absG.bind q
    refine ⟨c, ρ, e, s, en, Th.mono th fun J c1 st ⟨c2, ρ2, k, e2, s2, en2, wk, q⟩ => ?_⟩
    rw [← e2]
    cases k with
    | vals ws => exact fun D hD => dc_ok hsl s2 wk en2 q hD
    | own n => exact q.elim
end
end Fn

set_option Elab.async false
set_option linter.all false
set_option maxRecDepth 100000
namespace PySem
open Sem (wp)
set_option maxHeartbeats 1000000 in
theorem fnMeetsEnum {v : Value} {o : Obj} {Hs : Heap → Prop} (B : Begins v o Hs) :
    Meets (Builtin.«enumerate.__new__» ⟨[.type "enumerate", v], []⟩) (fun _ K z => Hs z.heap ∧
      K (.ok (.ret (.ref (z.heap.push o).objs.size))) { z with heap := (z.heap.push o).push { cls := .type "enumerate", data := .fields #[.none, .bool false, .ref z.heap.objs.size, rawInt 0, .none, .none] } }) :=
  .of_wp fun prog w A K z hz => by
    obtain ⟨hp, g, d, tk, os⟩ := z; obtain ⟨hA, hB⟩ := hz
    have sb := sub_enumerate
    have it1 : ∀ {A' : Around} {E : Value → Shared → Prop} {Q : Value → Shared → Prop}, Q (.ref hp.objs.size) ⟨hp.push o, g, d, tk, os⟩ → wpAny (model prog w) A' (pyIter v) Q E ⟨hp, g, d, tk, os⟩ :=
      fun q => B.iter prog w _ _ ⟨hp, g, d, tk, os⟩ _ hA q
    wp_walk using it1
    refine wpAny_stack_any fun sk => wpAny_pure ?_
    split
    · rename_i c _ _ _ _ _
      cases (c == Value.type "enumerate")
      · wp_walk using it1
        exact ⟨_, rfl, hB⟩
      · wp_walk using it1
        exact ⟨_, rfl, hB⟩
    · wp_walk using it1
      exact ⟨_, rfl, hB⟩
end PySem
namespace PySem
section
variable {prog : Program} {w : World} {A : Around} {E : Value → Shared → Prop} {z : Shared}
theorem fnCallEnum {v : Value} {o : Obj} {Hs : Heap → Prop} {Q : Value → Shared → Prop} (B : Begins v o Hs) (hA : Hs z.heap)
    (k : ∀ h', IsEnum h' (z.heap.objs.size + 1) z.heap.objs.size 0 .none → h'.get? z.heap.objs.size = some o → h'.objs.size = z.heap.objs.size + 2 → (∀ b p, z.heap.get? b = some p → h'.get? b = some p) → Q (.ref (z.heap.objs.size + 1)) { z with heap := h' }) :
    wpAny (model prog w) A (call (.type "enumerate") [v]) Q E z := by
  refine callType_new F.called_enumerate (by decide) (F.typeCall_enumerate_1 _) (F.newCall_enumerate_1 _) (fun x => F.args_object_init_2 x _) F.entry_enumerate_new (fnMeetsEnum B) ⟨hA, ?_⟩
  have sz : (z.heap.push o).objs.size = z.heap.objs.size + 1 := Heap.size_push ..
  show _ ∧ _
  rw [sz]
  have e1 : IsEnum ((z.heap.push o).push { cls := .type "enumerate", data := .fields #[.none, .bool false, .ref z.heap.objs.size, rawInt 0, .none, .none] }) (z.heap.objs.size + 1) z.heap.objs.size 0 .none := by
    have q := Heap.get?_push_size (z.heap.push o) (o := { cls := .type "enumerate", data := .fields #[.none, .bool false, .ref z.heap.objs.size, rawInt 0, .none, .none] }) rfl
    rwa [sz] at q
  exact ⟨⟨_, e1, rfl⟩, k _ e1 (Heap.get?_push_of_some _ (Heap.get?_push_size _ B.free)) (by rw [Heap.size_push, sz]) fun b p x => Heap.get?_push_of_some _ (Heap.get?_push_of_some _ x)⟩
theorem fnEnumEnd {e it a : Addr} {i : Nat} {items : Array Value} {old : Value} {Q : Option Value → Shared → Prop} (hd : A.handled = none) (ee : IsEnum z.heap e it i old) (ti : z.heap.IsTupleIter it a i) (ta : z.heap.IsTuple a items) (hn : items[i]? = none)
    (k : ∀ h', Heap.ExtBut it z.heap h' → Q none { z with heap := h' }) : wpAny (model prog w) A (pyNext (.ref e)) Q E z := by
  have ty : z.TypeIs (.ref e) "enumerate" := ⟨_, ee, rfl⟩
  unfold pyNext
  refine wpAny_bind (wpAny_attempt (wpAny_callSpecial?_slot (name := Str.ofString "__next__") ty F.slot_enumerate_next (wpAny_call_entry F.slot_enumerate_next ty F.entry_enumerate_next ?_ (F.args_enumerate_next_1 _))))
  show wpAny _ _ (field (.ref e) 2 >>= _) _ _ z
  refine wpAny_bind (wpAny_field ee rfl (x := .ref it) rfl (wpAny_bind (wpAny_nextOf_tuple_end hd ti ta hn fun h' x xb ⟨o, ho, hc⟩ => ?_)))
  exact wpAny_bind (wpAny_isInstance (T := "StopIteration") (b := true) ⟨o, ho, hc⟩ isSubtype_stop (wpAny_pure (k _ xb)))
end
end PySem
namespace Fn
open PySem PySem.Spec PyProof.Rows L2
/-- the tuple at a, each item in a new pair -/
def ItP (K : PySem.W.Frag) (a : Addr) : It :=
  ⟨fun i H => ∃ (xs : List V) (x : V), SqT K H a xs ∧ xs[i]? = some x, fun i H v H' => ∃ p x, v = .ref p ∧ H p = none ∧ H' = upd H p (.tup [.int (i : Nat), x]) ∧ ∀ xs, SqT K H a xs → xs[i]? = some x, fun i H => ∃ xs : List V, SqT K H a xs ∧ xs.length ≤ i⟩
theorem turnP {P : Program} {w : World} {K : PySem.W.Frag} {elts : List Expr} {kk : Nat} {tpos : Pos} (a e it : Addr) :
    Turn P w K (.Tuple elts kk tpos) (ItP K a) [e, it] e (fun i h => (∃ old, IsEnum h e it ((i : Nat) : Int) old) ∧ h.IsTupleIter it a i ∧ e ≠ it) where
  mem := by simp
  obj := fun i h st b hb => by
    obtain ⟨⟨old, ee⟩, ⟨o, ho, hc, hd⟩, _⟩ := st
    rcases (show b = e ∨ b = it by simpa using hb) with rfl | rfl
    · exact ⟨_, ee, fun v q => nomatch q⟩
    · exact ⟨o, ho, fun v q => by rw [hd] at q; cases q⟩
  keep := fun i h h' ⟨⟨old, ee⟩, ti, ne⟩ k => ⟨⟨old, k e (by simp) _ ee⟩, ti.at fun o q => k it (by simp) o q, ne⟩
  item := by
    intro X hP hw hK hc i pins z σ H E I hf ⟨⟨old, ee⟩, ti, ne⟩ ⟨xs, x, hq, hx⟩
    subst hP hw hK
    obtain ⟨its, rv, tp, hz⟩ := I.tuple hq
    obtain ⟨u, hu, ru⟩ := rv.get hx
    have tp : z.heap.IsTuple a its.toArray := tp
    have na : a ≠ it := by
      rintro rfl
      obtain ⟨o, ho, hc1, _⟩ := ti
      obtain ⟨o', ho', hc2, _⟩ := tp
      rw [ho] at ho'; cases ho'
      rw [hc1] at hc2
      exact absurd hc2 (by decide)
    have nea : e ≠ a := by
      rintro rfl
      obtain ⟨o', ho', hc2, _⟩ := tp
      rw [show z.heap.get? e = _ from ee] at ho'; cases ho'
      have q : Value.type "enumerate" = Value.type "tuple" := hc2
      injection q with q
      exact absurd q (by decide)
    have el : e < z.heap.objs.size := Heap.lt_size ee
    have il : it < z.heap.objs.size := by obtain ⟨_, q, _⟩ := ti; exact Heap.lt_size q
    have iu : i < its.toArray.size := by have := (List.getElem?_eq_some_iff.mp hu).1; simpa using this
    have D := Draws.tuple (prog := X.prog) (w := X.w) (A := X.A.in1) (I.ok.hd hc) it a na its.toArray
    refine wpAny_pyNext_enum_itemD D ee ⟨ti, tp⟩ iu ne (by simp [ne, nea]) fun y h' tk hy ho st' hT hsz hk => ?_
    have yu : y = u := by
      have : its[i]? = some y := by simpa using hy
      rw [hu] at this
      exact (Option.some.inj this).symm
    subst yu
    refine ⟨_, rfl, wpAny_letOwnedTupleGo_enum (s := { z with heap := h', toks := tk + 1 }) ho fun h'' he' sb => ?_⟩
    have t2 : h''.get? z.heap.objs.size = some { cls := .type "tuple", data := .seq #[.int i tk, y] } := (sb.2 _ (Nat.ne_of_gt el)).trans hT
    have nw : ObjOk X.prog X.w (upd H z.heap.objs.size (.tup [.int (i : Nat), x])) h'' z.heap.objs.size (.tup [.int (i : Nat), x]) :=
      ⟨by show 2 ≤ sizeLine; decide, [.int i tk, y], .cons ⟨_, rfl⟩ (.cons ru .nil), ⟨_, t2, rfl, _, rfl⟩⟩
    have I1 : Inv X pins σ (upd H z.heap.objs.size (.tup [.int (i : Nat), x])) { z with heap := h'', toks := tk + 1 } :=
      I.turnedNew (ch := [e, it]) (fun b ob hb q => (sb.2 b (fun y => hb (by simp [y]))).trans (hk b ob (fun y => hb (by simp [y])) (fun y => hb (by simp [y])) q)) hf (Nat.le_refl _) nw
    refine ⟨.ref z.heap.objs.size, _, I1, rfl, ⟨_, x, rfl, I.hok.fresh (Nat.le_refl _), rfl, fun ys hy => by rw [I.tuple_inj hy hq]; exact hx⟩, ⟨⟨y, ?_⟩, st'.1.at fun o q => (sb.2 it (Ne.symm ne)).trans q, ne⟩, fun b hb => ?_⟩
    · rw [show ((i + 1 : Nat) : Int) = (i : Int) + 1 by omega]
      exact he'
    · have lb : b < z.heap.objs.size := by
        rcases (show b = e ∨ b = it by simpa using hb) with rfl | rfl
        · exact el
        · exact il
      rw [upd_ne (Nat.ne_of_lt lb)]
      exact (hf b hb).1
  done := by
    intro X hP hw hK hc i pins z σ H E I hf ⟨⟨old, ee⟩, ti, ne⟩ ⟨xs, hq, hx⟩
    subst hP hw hK
    obtain ⟨its, rv, tp, hz⟩ := I.tuple hq
    have tp : z.heap.IsTuple a its.toArray := tp
    obtain ⟨f0, f1, f2, f3, f4, f5⟩ := hf it (by simp)
    have ll := rv.length
    exact fnEnumEnd (I.ok.hd hc) ee ti tp (by simp; omega) fun h' eb => ⟨rfl, I.turned (t' := z.toks) (fun b o hb q => eb b o hb q) f0 f1 f3 f4 f5⟩
  self := fun A i z Q E ⟨⟨_, ee⟩, _⟩ h => wpAny_pyIter_enum ee h
def iEnumB (K : PySem.W.Frag) (ta : TA) : TI := fun σ H R => ta σ H fun vs H1 => ∃ a, vs = [.ref a] ∧ ((∃ xs, SqL K H1 a xs ∧ R (Ite K a) H1) ∨ (∃ xs, SqT K H1 a xs ∧ R (ItP K a) H1))
theorem pi_enumB {X : Cx} {e : Expr} {ta : TA} {p pos tpos : Pos} {elts : List Expr} {kk : Nat} (gl : Gl X "enumerate") (mn : X.mg "enumerate" = none) (pa : PA X [e] ta) (hs : starEach [e] X.env = [(false, eval e X.env)] := by rfl) :
    PI X (.Tuple elts kk tpos) (.Call (.Name "enumerate" p) [e] [] pos) (iEnumB X.K ta) := by
  refine ⟨fun pins z σ H R I h => ?_⟩
  refine Call_ (ld_blt I gl mn boot_enumerate (PyProof.Rows.callWith_type1 (thn (pa.run pos pins z σ H _ I h) fun us z1 ⟨vs, H1, I1, r1, a, ev, q⟩ => ?_) hs rfl))
  subst ev
  cases r1 with
  | cons r rr =>
    cases rr
    cases r
    have two : ∀ b ∈ [z1.heap.objs.size + 1, z1.heap.objs.size], z1.heap.objs.size ≤ b := fun b hb => by
      rcases (show b = z1.heap.objs.size + 1 ∨ b = z1.heap.objs.size by simpa using hb) with rfl | rfl
      · exact Nat.le_add_right _ _
      · exact Nat.le_refl _
    rcases q with ⟨xs, hq, q⟩ | ⟨xs, hq, q⟩
    · obtain ⟨its, rv, pl, hz⟩ := I1.list hq
      refine call_enumerate_list pl.isList fun h' he hit hsz hk => wpAny_pyIter_enum he ?_
      exact ⟨z1.heap.objs.size + 1, [z1.heap.objs.size + 1, z1.heap.objs.size], _, _, H1, rfl, I1.kept (t' := z1.toks) hk, turn_enum a (z1.heap.objs.size + 1) z1.heap.objs.size, ⟨⟨.none, he⟩, hit, Nat.succ_ne_self _⟩, fun b hb => I1.fpOk (two b hb) (I1.hok.fresh (two b hb)), q⟩
    · obtain ⟨its, rv, tp, hz⟩ := I1.tuple hq
      have tp : z1.heap.IsTuple a its.toArray := tp
      refine fnCallEnum (begins_tuple a its.toArray) tp fun h' he ho hsz hk => wpAny_pyIter_enum he ?_
      exact ⟨z1.heap.objs.size + 1, [z1.heap.objs.size + 1, z1.heap.objs.size], _, _, H1, rfl, I1.kept (t' := z1.toks) hk, turnP a (z1.heap.objs.size + 1) z1.heap.objs.size, ⟨⟨.none, he⟩, ⟨_, ho, rfl, rfl⟩, Nat.succ_ne_self _⟩, fun b hb => I1.fpOk (two b hb) (I1.hok.fresh (two b hb)), q⟩
section
variable {X : Cx} {Γ : Gm} {Z : WXk}
theorem enumWalksT {c : Cf} {a : Addr} {xs : List V} {ws : List W} (k : ∀ c', StpW c c' → SR Γ c' → SqT Γ.K c'.H a xs) (r : c.RpAll Γ xs ws) (s : SR Γ c) : Walks Γ c (ItP Γ.K a) (enumFrom' 0 ws) where
  go := fun c' st s' i hi => ⟨xs, xs[i]'(by rw [r.length]; rwa [enum_length] at hi), k c' st s', List.getElem?_eq_getElem _⟩
  stop := fun c' st s' i hi => ⟨xs, k c' st s', by rw [r.length]; rwa [enum_length] at hi⟩
  yld := fun c' st s' i v H' hi ⟨T, x, ev, hT, eH, y⟩ => by
    subst ev eH
    obtain ⟨w, ew, rw1⟩ := r.getV (y xs (k c' st s'))
    obtain ⟨st1, s1, no⟩ := new_frz s' hT (.tup [.int (i : Nat), x])
    refine ⟨.tup [.int ((0 + i : Nat) : Int), w], _, enum_get 0 ws i w ew, rfl, st1, s1, rfl, .tup (.inl (.inl upd_same)) (.cons ?_ (.cons (st1.rp s' (st.rp s rw1)) .nil))⟩
    rw [Nat.zero_add]
    exact .int _
def asEnumB (ws : List W) (G : GH) : R Wk := match ws with
  | [.lst ws] => .ok (.vals (enumFrom' 0 ws)) G
  | [.tup ws] => .ok (.vals (enumFrom' 0 ws)) G
  | _ => .no
theorem fi_enumB {e : Expr} {g : FA} {p pos tpos : Pos} {elts : List Expr} {kk : Nat} (hg : Gl X "enumerate") (hm : X.mg "enumerate" = none) (ha : PA X [e] (absA Γ Z g)) (hs : starEach [e] X.env = [(false, eval e X.env)] := by rfl) (hK : Γ.K = X.K := by rfl) :
    PI X (.Tuple elts kk tpos) (.Call (.Name "enumerate" p) [e] [] pos) (absI Γ Z (iRng asEnumB g)) := PI.imp (pi_enumB hg hm ha hs) fun σ H R q => by
  obtain ⟨c, ρ, e, s, en, th⟩ := absG.bind q
  refine ⟨c, ρ, e, s, en, Th.mono th fun v c1 st ⟨c2, ρ2, ws, e2, s2, en2, ra, q⟩ => ?_⟩
  rw [← e2]
  unfold asEnumB at q
  split at q
  · obtain ⟨v, rfl, r1⟩ := RpAll.one (c := c2) ra
    cases r1 with
    | lst h n r => exact ⟨_, rfl, .inl ⟨_, by rw [← hK]; exact .inl h, hK ▸ q c2 _ (Stp.refl c2) s2 rfl (enumWalks (fun c' st' s' => .inl (st'.rd n h)) r s2)⟩⟩
    | lstK h1 h2 h3 h4 h5 h6 r => exact ⟨_, rfl, .inl ⟨_, by rw [← hK]; exact .inr ⟨_, _, _, h1, h2, h3, h4, h5, h6⟩, hK ▸ q c2 _ (Stp.refl c2) s2 rfl (enumWalks (fun c' st' s' => .inr ⟨_, _, _, h1, h2, h3, h4, h5, h6⟩) r s2)⟩⟩
  · obtain ⟨v, rfl, r1⟩ := RpAll.one (c := c2) ra
    cases r1 with
    | tup h r => exact ⟨_, rfl, .inr ⟨_, by rw [← hK]; exact h, hK ▸ q c2 _ (Stp.refl c2) s2 rfl (enumWalksT (fun c' st' s' => st'.sqT s2 h) r s2)⟩⟩
  · exact q.elim
end
end Fn

set_option Elab.async false
set_option linter.all false
set_option maxRecDepth 100000
namespace Fn
open PySem PySem.Spec PyProof.Rows L2
/-! ### dicts that are written, and what is made of them -/
theorem mkD_ok {Γ : Gm} {E : XK} {c : Cf} {Q : V → Hp → Prop} {own : Bool} {ks : List Key} {xs : List V} {ws : List W} (s : SR Γ c) (hl : ks.length = xs.length) (r : c.RpAll Γ xs ws) (h : Th Γ E (Cf.Rp Γ) c Q (mkD own ks ws c.G)) {p : Addr} (hp : c.H p = none) : Q (.ref p) (upd c.H p (.dK (ks.zip xs))) := by
  cases own with
  | true =>
    obtain ⟨st, sr⟩ := new_own s hp (.dic hl r)
    exact h _ _ st sr rfl (.ref (new_own_at s p))
  | false =>
    obtain ⟨st, sr, no⟩ := new_frz s hp (.dK (ks.zip xs))
    exact h _ _ st sr rfl (.dic (.inl upd_same) hl (fun q => no (q.elim (fun z => .inl z) fun z => .inr z)) (st.rpAll s r))
section
variable {X : Cx} {Γ : Gm} {Z : WXk}
/-- {} -/
def gD0 (own : Bool) : FE := fun _ G => mkD own [] [] G
theorem fe_d0 {own : Bool} {pos : Pos} : PE X (.Dict [] [] pos) (absE Γ Z (gD0 own)) := PE.imp pe_dnewK fun σ H Q ⟨c, ρ, e, s, en, th⟩ p hp => by
  subst e
  exact mkD_ok (ks := []) (xs := []) s rfl .nil th hp
/-- a dict of written numbers, texts, truth values -/
inductive Lit where
  | int (i : Int) | str (x : Str) | bl (b : Bool) | non
def Lit.v : Lit → V
  | .int i => .int i
  | .str x => .str x
  | .bl b => .bl b
  | .non => .non
def Lit.w : Lit → W
  | .int i => .int i
  | .str x => .str x
  | .bl b => .bl b
  | .non => .non
theorem Lit.rp {Γ : Gm} {c : Cf} : ∀ l : Lit, c.Rp Γ l.v l.w
  | .int i => .int i
  | .str x => .str x
  | .bl b => .bl b
  | .non => .non
def litE (l : Lit) : TE := fun _ H Q => Q l.v H
def keyE (k : Key) : TE := fun _ H Q => Q (kV k) H
def gDL (own : Bool) (ks : List Key) (ls : List Lit) : FE := fun _ G => mkD own ks (ls.map Lit.w) G
theorem zip_fst : ∀ (ks : List Key) (ls : List Lit), ks.length = ls.length → (ks.zip (ls.map Lit.v)).map (·.1) = ks
  | [], _, _ => rfl
  | k :: ks, l :: ls, h => by rw [List.map_cons, List.zip_cons_cons, List.map_cons, zip_fst ks ls (by simpa using h)]
  | _ :: _, [], h => by simp at h
theorem pairs_lit {σ : L2.St} {H : Hp} {Q : List (V × V) → Hp → Prop} : ∀ (ks : List Key) (ls : List Lit), ks.length = ls.length → Q ((ks.zip (ls.map Lit.v)).map fun kv => (kV kv.1, kv.2)) H → tPairs ((ks.zip ls).map fun p => (keyE p.1, litE p.2)) σ H Q
  | [], [], _, h => h
  | k :: ks, l :: ls, hl, h => by
    rw [List.zip_cons_cons, List.map_cons]
    show tPairs _ σ H fun ps H3 => Q ((kV k, l.v) :: ps) H3
    exact pairs_lit ks ls (by simpa using hl) h
  | [], _ :: _, h, _ => by simp at h
  | _ :: _, [], h, _ => by simp at h
theorem merge_new : ∀ (kvs acc : List (Key × V)), ((acc ++ kvs).map (·.1)).Nodup → mergeK acc kvs = acc ++ kvs
  | [], acc, _ => (List.append_nil acc).symm
  | kv :: kvs, acc, h => by
    have hn : valV acc kv.1 = none := by
      cases e : valV acc kv.1 with
      | none => rfl
      | some v =>
        have hm := valV_in e
        rw [List.map_append, List.nodup_append] at h
        exact absurd rfl (h.2.2 _ hm kv.1 (by simp))
    show mergeK (putK acc kv.1 kv.2) kvs = _
    rw [putK_new _ hn, merge_new kvs (acc ++ [kv]) (by rw [List.append_assoc]; exact h), List.append_assoc]
    rfl
theorem lits_rp {c : Cf} : ∀ ls : List Lit, c.RpAll Γ (ls.map Lit.v) (ls.map Lit.w)
  | [] => .nil
  | l :: ls => .cons l.rp (lits_rp ls)
theorem fe_dl {own : Bool} {keys : List (Option Expr)} {values : List Expr} {ks : List Key} {ls : List Lit} {pos : Pos} (h : PPs X pos keys values ((ks.zip ls).map fun p => (keyE p.1, litE p.2))) (hl : ks.length = ls.length) (hn : ks.Nodup) (h15 : ks.length ≤ 15)
    (ha : keys.all (·.isSome) = true) (hk : keys.length = values.length) (h0 : keys ≠ []) (hz : keys.length ≤ 15) : PE X (.Dict keys values pos) (absE Γ Z (gDL own ks ls)) := PE.imp (pe_disp h ha hk h0 hz) fun σ H Q ⟨c, ρ, e, s, en, th⟩ p hp => by
  subst e
  refine pairs_lit ks ls hl ⟨upd_same, ks.zip (ls.map Lit.v), rfl, by rw [List.length_zip, List.length_map]; omega, ?_⟩
  rw [merge_new _ [] (by rw [List.nil_append, zip_fst ks ls hl]; exact hn), List.nil_append, upd_upd]
  refine mkD_ok s (by rw [List.length_map]; exact hl) ?_ th hp
  exact lits_rp ls
theorem pk_int {i : Int} {j : Nat} {pos : Pos} : PE X (.Constant (.int i) j pos) (keyE (.inl i)) := pe_int
theorem pk_str {x : Str} {j : Nat} {pos : Pos} : PE X (.Constant (.str x) j pos) (keyE (.inr x)) := pe_str
theorem pl_int {i : Int} {j : Nat} {pos : Pos} : PE X (.Constant (.int i) j pos) (litE (.int i)) := pe_int
theorem pl_str {x : Str} {j : Nat} {pos : Pos} : PE X (.Constant (.str x) j pos) (litE (.str x)) := pe_str
theorem pl_bl {b : Bool} {j : Nat} {pos : Pos} : PE X (.Constant (.bool b) j pos) (litE (.bl b)) := pe_bl
theorem pl_non {j : Nat} {pos : Pos} : PE X (.Constant .none j pos) (litE .non) := pe_non
/-! ### d[k] = v -/
def putW (ks : List Key) (ws : List W) (k : Key) (v : W) : List Key × List W :=
  if (ks.any fun j => decide (j = k)) = true then (ks, (ks.zip ws).map fun p => if p.1 = k then v else p.2) else (ks ++ [k], ws ++ [v])
theorem zip_any : ∀ (ks : List Key) (xs : List V) (k : Key), ks.length = xs.length → ((ks.zip xs).any fun kv => decide (kv.1 = k)) = ks.any fun j => decide (j = k)
  | [], _, _, _ => rfl
  | j :: ks, x :: xs, k, h => by rw [List.zip_cons_cons, List.any_cons, List.any_cons, zip_any ks xs k (by simpa using h)]
  | _ :: _, [], _, h => by simp at h
theorem zip_set : ∀ (ks : List Key) (xs : List V) (k : Key) (v : V), ks.length = xs.length → ((ks.zip xs).map fun kv => if kv.1 = k then (kv.1, v) else kv) = ks.zip ((ks.zip xs).map fun p => if p.1 = k then v else p.2)
  | [], _, _, _, _ => rfl
  | j :: ks, x :: xs, k, v, h => by
    rw [List.zip_cons_cons, List.map_cons, List.map_cons, List.zip_cons_cons, zip_set ks xs k v (by simpa using h)]
    congr 1
    simp only
    split <;> rfl
  | _ :: _, [], _, _, h => by simp at h
theorem zip_rp {c : Cf} {v : V} {w : W} (h : c.Rp Γ v w) (k : Key) : ∀ (ks : List Key) {xs : List V} {ws : List W}, c.RpAll Γ xs ws → c.RpAll Γ ((ks.zip xs).map fun p => if p.1 = k then v else p.2) ((ks.zip ws).map fun p => if p.1 = k then w else p.2)
  | [], _, _, _ => .nil
  | _ :: _, _, _, .nil => .nil
  | j :: ks, _, _, .cons a b => by
    rw [List.zip_cons_cons, List.zip_cons_cons, List.map_cons, List.map_cons]
    refine .cons ?_ (zip_rp h k ks b)
    simp only
    split
    · exact h
    · exact a
theorem put_zip {c : Cf} {ks : List Key} {xs : List V} {ws : List W} {k : Key} {v : V} {w : W} (hl : ks.length = xs.length) (r : c.RpAll Γ xs ws) (h : c.Rp Γ v w) :
    ∃ ys, putK (ks.zip xs) k v = (putW ks ws k w).1.zip ys ∧ (putW ks ws k w).1.length = ys.length ∧ c.RpAll Γ ys (putW ks ws k w).2 := by
  unfold putK putW
  rw [zip_any ks xs k hl]
  split
  · exact ⟨_, zip_set ks xs k v hl, by rw [List.length_map, List.length_zip]; show ks.length = _; omega, zip_rp h k ks r⟩
  · exact ⟨xs ++ [v], by rw [List.zip_append hl]; rfl, by rw [List.length_append, List.length_append, hl]; rfl, r.append (.cons h .nil)⟩
def fSetX (o i v : W) (G : GH) : Option GH := match o with
  | .ref n => match G.at_ n with
    | some (.dic ks ws) => match keyW i with
      | some k => if ks.length < sizeLine then some (G.set n (.dic (putW ks ws k v).1 (putW ks ws k v).2)) else none
      | none => none
    | _ => fSet o i v G
  | _ => fSet o i v G
def gSetX (gv go gi : FE) : FS := fun ρ G => (gv ρ G).thn ρ fun v G1 => (go ρ G1).thn ρ fun o G2 => (gi ρ G2).thn ρ fun i G3 => match fSetX o i v G3 with
  | some G4 => .nx ρ G4
  | none => .no
def rSetX : TSet := fun o i v H Q => rSetL o i v H Q ∨ rSetD o i v H Q
theorem set_X (hu : X.A.units + 1 < cLine) : PSet X rSetX := fun pins s σ H o i v ov iv u Q I ro ri rv h => h.elim (set_list pins s σ H o i v ov iv u Q I ro ri rv) (set_dict hu pins s σ H o i v ov iv u Q I ro ri rv)
theorem setX_ok {c : Cf} {o i v : V} {wo wi wv : W} {G4 : GH} (s : SR Γ c) (ro : c.Rp Γ o wo) (ri : c.Rp Γ i wi) (rv : c.Rp Γ v wv) (e : fSetX wo wi wv c.G = some G4) {Q : Hp → Prop}
    (h : ∀ c', Stp c c' → SR Γ c' → c'.G = G4 → Q c'.H) : rSetX o i v c.H Q := by
  cases ro with
  | @ref n a hn =>
    unfold fSetX at e
    simp only at e
    cases q : c.G.at_ n with
    | none => rw [q] at e; exact .inl (set_ok s (.ref hn) ri rv e h)
    | some ob =>
      obtain ⟨b, ho, e1, e2, r⟩ := s.obj n ob q
      rw [hn] at e1; cases e1
      cases r with
      | lst r => rw [q] at e; exact .inl (set_ok s (.ref hn) ri rv e h)
      | ins _ _ => rw [q] at e; exact .inl (set_ok s (.ref hn) ri rv e h)
      | @dic ks xs ws hl r =>
        rw [q] at e
        simp only at e
        cases ek : keyW wi with
        | none => rw [ek] at e; cases e
        | some k =>
          rw [ek] at e
          simp only at e
          split at e
          · rename_i lt
            cases e
            obtain ⟨ys, ez, ly, ry⟩ := put_zip (k := k) hl r rv
            obtain ⟨st, s'⟩ := upd_own (ho := .dK ((putW ks ws k wv).1.zip ys)) s q hn (.dic ly ry)
            exact .inr ⟨a, _, rfl, by
              have := keyW_ok ri ek
              subst this
              rw [← ez]
              exact DPut.k e2 (by rw [List.length_zip]; omega), h _ st s' rfl⟩
          · cases e
  | _ => unfold fSetX fSet at e; cases wi <;> cases e
theorem fs_setX {o i e : Expr} {gv go gi : FE} {p2 pos : Pos} (hu : X.A.units + 64 < cLine) (he : PE X e (absE Γ Z gv)) (ho : PE X o (absE Γ Z go)) (hi : PE X i (absE Γ Z gi))
    (ha : ∀ v, assign (.Subscript o i p2) X.env v = (do
      let ov ← holding [v] (eval o X.env)
      let iv ← holding [v, ov] (eval i X.env)
      standAt p2
      holding [v, ov, iv] (setItem ov iv v)
      release [v, ov, iv] []) := by intro _; rfl) (hs : swapsWithSole [.Subscript o i p2] e pos.line X.env = pure false := by rfl) (hw : swappedStores [.Subscript o i p2] e X.env = pure none := by rfl)
    (h1 : (assignEach [.Subscript o i p2] X.env).map (·.2) = [assign (.Subscript o i p2) X.env] := by rfl) : PS X (.Assign [.Subscript o i p2] e pos) (absS Γ Z (gSetX gv go gi)) :=
  PS.imp (ps_asg he (pg_sub ho hi (set_X (by omega)) ha) hs hw h1) fun D σ H q => by
    obtain ⟨c, ρ, e, s, en, th⟩ := absS.bind (rel := Cf.Rp Γ) q
    refine ⟨c, ρ, e, s, en, Th.mono th fun v c1 st ⟨c2, ρ2, a, e2, s2, en2, ra, q⟩ => ?_⟩
    refine ⟨c2, ρ2, e2, s2, en2, Th.mono (ThS.bind s2 en2 q) fun ov c3 st3 ⟨c4, b, e4, st4, s4, en4, rb, q4⟩ => ?_⟩
    refine ⟨c4, ρ2, e4, s4, en4, Th.mono (ThS.bind s4 en4 q4) fun iv c5 st5 ⟨c6, b6, e6, st6, s6, en6, rb6, q6⟩ => ?_⟩
    rw [← e6]
    cases k : fSetX b b6 a c6.G with
    | none => simp only [k] at q6; exact q6.elim
    | some G4 =>
      simp only [k] at q6
      exact setX_ok s6 (st6.rp s4 rb) rb6 (st6.rp s4 (st4.rp s2 ra)) k fun c' st' s' e' => q6 c' σ st' s' e' (st'.en s6 en6)
/-! ### list(d), sorted(d), len(d), sorted(l) -/
def keyV : Key → W
  | .inl i => .int i
  | .inr x => .str x
theorem keys_rp {c : Cf} : ∀ (ks : List Key) (xs : List V), ks.length = xs.length → c.RpAll Γ ((ks.zip xs).map fun kv => kV kv.1) (ks.map keyV)
  | [], _, _ => .nil
  | .inl i :: ks, x :: xs, h => .cons (.int i) (keys_rp ks xs (by simpa using h))
  | .inr i :: ks, x :: xs, h => .cons (.str i) (keys_rp ks xs (by simpa using h))
  | _ :: _, [], h => by simp at h
/-- an owned dict -/
def dow (G : GH) : W → Option (List Key × List W)
  | .ref n => match G.at_ n with
    | some (.dic ks ws) => some (ks, ws)
    | _ => none
  | _ => none
theorem dow_ok {c : Cf} (s : SR Γ c) {v : V} {w : W} {ks : List Key} {ws : List W} (r : c.Rp Γ v w) (h : dow c.G w = some (ks, ws)) : ∃ a xs, v = .ref a ∧ ks.length = xs.length ∧ c.RpAll Γ xs ws ∧ c.H a = some (.dK (ks.zip xs)) := by
  cases r with
  | @ref n a hn =>
    unfold dow at h
    simp only at h
    cases q : c.G.at_ n with
    | none => simp [q] at h
    | some ob =>
      obtain ⟨b, ho, e1, e2, r⟩ := s.obj n ob q
      rw [hn] at e1; cases e1
      cases r with
      | lst _ => simp [q] at h
      | ins _ _ => simp [q] at h
      | dic hl r => simp only [q, Option.some.injEq, Prod.mk.injEq] at h; obtain ⟨rfl, rfl⟩ := h; exact ⟨_, _, rfl, hl, r, e2⟩
  | _ => cases h
def cListD (own : Bool) : FC := fun ws G => match ws with
  | [w] => match dow G w with
    | some (ks, _) => mkL own (ks.map keyV) G
    | none => .no
  | _ => .no
theorem cf_listD {own : Bool} (hc : X.calm = true) : CallF X Γ (.type "list") (cListD own) := ⟨_, call_listD hc, fun c vs ws Q E s ra h => by
  unfold cListD at h
  split at h
  · obtain ⟨v, rfl, r⟩ := RpAll.one (c := c) ra
    split at h
    · obtain ⟨a, xs, rfl, hl, rx, e⟩ := dow_ok s r (by assumption)
      exact ⟨a, _, rfl, .inl e, fun p hp => mkL_ok s (keys_rp _ _ hl) h hp⟩
    · exact h.elim
  · exact h.elim⟩
def cLenD : FC := fun ws G => match ws with
  | [w] => match dow G w with
    | some (ks, _) => .ok (.int ks.length) G
    | none => .no
  | _ => .no
theorem cf_lenD : CallF X Γ (.builtin "len") cLenD := ⟨_, call_lenD, fun c vs ws Q E s ra h => by
  unfold cLenD at h
  split at h
  · obtain ⟨v, rfl, r⟩ := RpAll.one (c := c) ra
    split at h
    · rename_i ks _ ed
      obtain ⟨a, xs, rfl, hl, rx, e⟩ := dow_ok s r ed
      refine ⟨a, _, rfl, e, ?_⟩
      rw [show (ks.zip xs).length = ks.length by rw [List.length_zip]; omega]
      exact h.pure s (.int _)
    · exact h.elim
  · exact h.elim⟩
/-- in order -/
def insI (i : Int) : List Int → List Int
  | [] => [i]
  | j :: l => if i ≤ j then i :: j :: l else j :: insI i l
def sortI : List Int → List Int
  | [] => []
  | i :: l => insI i (sortI l)
theorem insI_perm (i : Int) : ∀ l : List Int, (insI i l).Perm (i :: l)
  | [] => .refl _
  | j :: l => by
    unfold insI
    split
    · exact .refl _
    · exact (List.Perm.cons j (insI_perm i l)).trans (List.Perm.swap i j l)
theorem sortI_perm : ∀ l : List Int, (sortI l).Perm l
  | [] => .refl _
  | i :: l => (insI_perm i (sortI l)).trans (List.Perm.cons i (sortI_perm l))
theorem insI_sorted (i : Int) : ∀ l : List Int, l.Pairwise (· ≤ ·) → (insI i l).Pairwise (· ≤ ·)
  | [], _ => List.pairwise_singleton _ _
  | j :: l, h => by
    rw [List.pairwise_cons] at h
    unfold insI
    split
    · rename_i c
      rw [List.pairwise_cons]
      refine ⟨fun x m => ?_, List.pairwise_cons.mpr h⟩
      rcases List.mem_cons.mp m with rfl | m
      · exact c
      · have := h.1 x m; omega
    · rename_i c
      rw [List.pairwise_cons]
      refine ⟨fun x m => ?_, insI_sorted i l h.2⟩
      rcases List.mem_cons.mp ((insI_perm i l).mem_iff.mp m) with rfl | m
      · omega
      · exact h.1 x m
theorem sortI_sorted : ∀ l : List Int, (sortI l).Pairwise (· ≤ ·)
  | [] => List.Pairwise.nil
  | i :: l => insI_sorted i _ (sortI_sorted l)
theorem sortI_of {l l' : List Int} (p : l'.Perm l) (h : l'.Pairwise (· ≤ ·)) : l' = sortI l :=
  List.Perm.eq_of_pairwise (fun a b _ _ x y => Int.le_antisymm x y) h (sortI_sorted l) (p.trans (sortI_perm l).symm)
def intKs : List Key → Option (List Int)
  | [] => some []
  | .inl i :: ks => (intKs ks).map (i :: ·)
  | .inr _ :: _ => none
theorem intKs_ok : ∀ {ks : List Key} {is : List Int}, intKs ks = some is → ks = is.map .inl
  | [], is, h => by cases h; rfl
  | .inl i :: ks, is, h => by
    obtain ⟨l, e, rfl⟩ := Option.map_eq_some_iff.mp h
    rw [intKs_ok e]; rfl
  | .inr _ :: _, _, h => by cases h
theorem intKs_map : ∀ is : List Int, intKs (is.map .inl) = some is
  | [] => rfl
  | i :: is => by rw [List.map_cons, intKs, intKs_map is]; rfl
theorem ints_rp {c : Cf} : ∀ l : List Int, c.RpAll Γ (l.map V.int) (l.map W.int)
  | [] => .nil
  | i :: l => .cons (.int i) (ints_rp l)
def cSortD (own : Bool) : FC := fun ws G => match ws with
  | [w] => match dow G w with
    | some (ks, _) => match intKs ks with
      | some is => if is.length < 64 then mkL own ((sortI is).map .int) G else .no
      | none => .no
    | none => .no
  | _ => .no
theorem cf_sortD {own : Bool} (hc : X.calm = true) : CallF X Γ (.builtin "sorted") (cSortD own) := ⟨_, call_sortedDI hc, fun c vs ws Q E s ra h => by
  unfold cSortD at h
  split at h
  · obtain ⟨v, rfl, r⟩ := RpAll.one (c := c) ra
    split at h
    · rename_i ks _ ed
      obtain ⟨a, xs, rfl, hl, rx, e⟩ := dow_ok s r ed
      split at h
      · rename_i is ei
        split at h
        · rename_i lt
          have ek := intKs_ok ei
          refine ⟨a, _, is, rfl, .inl e, ?_, lt, fun ys p py sy hp => ?_⟩
          · rw [List.map_fst_zip (by omega)]; exact ek
          · rw [sortI_of py sy]
            exact mkL_ok s (ints_rp _) h hp
        · exact h.elim
      · exact h.elim
    · exact h.elim
  · exact h.elim⟩
def cSortL (own : Bool) : FC := fun ws G => match ws with
  | [w] => match lsq G w with
    | some us => match intsOf us with
      | some is => mkL own ((sortI is).map .int) G
      | none => .no
    | none => .no
  | _ => .no
theorem ints_v {c : Cf} : ∀ {is : List Int} {xs : List V}, c.RpAll Γ xs (is.map W.int) → xs = is.map V.int
  | [], _, .nil => rfl
  | i :: is, _, .cons a b => by
    cases a
    rw [ints_v b]; rfl
theorem cf_sortL {own : Bool} (hK : Γ.K = X.K := by rfl) : CallF X Γ (.builtin "sorted") (cSortL own) := ⟨_, cr_sortedI, fun c vs ws Q E s ra h => by
  unfold cSortL at h
  split at h
  · obtain ⟨v, rfl, r⟩ := RpAll.one (c := c) ra
    split at h
    · rename_i us eu
      obtain ⟨a, xs, rfl, hq, rx⟩ := lsq_ok s eu r
      split at h
      · rename_i is ei
        have := intsOf_eq ei
        subst this
        have := ints_v rx
        subst this
        refine ⟨a, is, rfl, hK ▸ hq, fun ys p py sy hp => ?_⟩
        rw [sortI_of py sy]
        exact mkL_ok s (ints_rp _) h hp
      · exact h.elim
    · exact h.elim
  · exact h.elim⟩
end
end Fn

set_option Elab.async false
set_option linter.all false
set_option maxRecDepth 100000
namespace Fn
open PySem PySem.Spec PyProof.Rows L2
/-! ### objects of classes of the program -/
def getF : List Str → List W → Str → Option W
  | f :: fs, w :: ws, g => if (g == f) = true then some w else getF fs ws g
  | _, _, _ => none
theorem getF_ok {c : Cf} {Γ : Gm} {g : Str} {w : W} : ∀ {fs : List Str} {xs : List V} {ws : List W}, fs.length = xs.length → c.RpAll Γ xs ws → getF fs ws g = some w → ∃ v, (fs.zip xs).lookup g = some v ∧ c.Rp Γ v w
  | [], _, _, _, _, h => by cases h
  | f :: fs, [], _, l, _, _ => by simp at l
  | f :: fs, x :: xs, _, l, .cons (w := u) (ws := us) a b, h => by
    unfold getF at h
    rw [List.zip_cons_cons, List.lookup_cons]
    cases e : (g == f) with
    | true => rw [e] at h; cases h; exact ⟨x, rfl, a⟩
    | false => rw [e] at h; exact getF_ok (by simpa using l) b h
def getF_none {V' : Type} {g : Str} : ∀ {fs : List Str} {xs : List V'}, fs.length = xs.length → (fs.any fun f => g == f) = false → (fs.zip xs).lookup g = none
  | [], _, _, _ => rfl
  | f :: fs, [], l, _ => by simp at l
  | f :: fs, x :: xs, l, h => by
    rw [List.any_cons, Bool.or_eq_false_iff] at h
    rw [List.zip_cons_cons, List.lookup_cons, h.1]
    exact getF_none (by simpa using l) h.2
/-- an object of class k: its fields -/
def olook (k : Nat) (G : GH) : W → Option (List Str × List W)
  | .ins c fs ws => if c = k then some (fs, ws) else none
  | .ref n => match G.at_ n with
    | some (.ins c fs ws) => if c = k then some (fs, ws) else none
    | _ => none
  | _ => none
theorem olook_ok {Γ : Gm} {c : Cf} (s : SR Γ c) {k : Nat} {v : V} {w : W} {fs : List Str} {ws : List W} (r : c.Rp Γ v w) (h : olook k c.G w = some (fs, ws)) : ∃ a dx xs, v = .ref a ∧ c.H a = some (.ins (Γ.cls k) dx (fs.zip xs)) ∧ fs.length = xs.length ∧ c.RpAll Γ xs ws := by
  unfold olook at h
  cases r with
  | @ins a dx c0 fs0 xs ws0 h1 l n r =>
    simp only at h
    split at h
    · rename_i e
      subst e
      cases h
      exact ⟨a, dx, xs, rfl, h1, l, r⟩
    · cases h
  | @ref n a h1 =>
    simp only at h
    cases e : c.G.at_ n with
    | none => simp [e] at h
    | some o =>
      obtain ⟨b, ho, e1, e2, r⟩ := s.obj n o e
      rw [h1] at e1; cases e1
      cases r with
      | lst _ => simp [e] at h
      | dic _ _ => simp [e] at h
      | @ins dx c0 fs0 xs ws0 l r =>
        simp only [e] at h
        split at h
        · rename_i e
          subst e
          cases h
          exact ⟨a, dx, xs, rfl, e2, l, r⟩
        · cases h
  | _ => cases h
section
variable {X : Cx} {Γ : Gm} {Z : WXk}
/-- o.f -/
def gFld (k : Nat) (f : Str) (go : FE) : FE := fun ρ G => (go ρ G).bind fun w G1 => match olook k G1 w with
  | some (fs, ws) => match getF fs ws f with
    | some u => .ok u G1
    | none => .no
  | none => .no
theorem fe_fld {k : Nat} {f : Str} {e : Expr} {go : FE} {pos : Pos} (hc : Cls X.K (Γ.cls k)) (hn : NoAttr X.K (Γ.cls k) f) (he : PE X e (absE Γ Z go)) (hb : attributeBase e f X.env (eval e X.env) = eval e X.env := by rfl) : PE X (.Attribute e f pos) (absE Γ Z (gFld k f go)) :=
  PE.imp (pe_fld he hb) fun σ H Q q => by
    obtain ⟨c, ρ, e, s, en, th⟩ := absG.bind q
    refine ⟨c, ρ, e, s, en, Th.mono th fun v c1 st ⟨c2, ρ2, w, e2, s2, en2, ra, q⟩ => ?_⟩
    rw [← e2]
    cases eo : olook k c2.G w with
    | none => simp only [eo] at q; exact q.elim
    | some p =>
      obtain ⟨fs, ws⟩ := p
      simp only [eo] at q
      cases eg : getF fs ws f with
      | none => simp only [eg] at q; exact q.elim
      | some u =>
        simp only [eg] at q
        obtain ⟨a, dx, xs, rfl, ha, hl, rx⟩ := olook_ok s2 ra eo
        obtain ⟨v, lv, rv⟩ := getF_ok hl rx eg
        exact ⟨a, _, dx, _, v, rfl, ha, hc, hn, lv, q.pure s2 rv⟩
/-- o.m(..), with the object ahead of what is handed in -/
def gMeth (k : Nat) (m : Str) (n : Nat) (F : FC) (go : FE) (ga : FA) : FE := fun ρ G => (go ρ G).bind fun w G1 => match olook k G1 w with
  | some (fs, _) => if (fs.any fun f => m == f) = false then (ga ρ G1).bind fun ws G2 => cFn n F (w :: ws) G2 else .no
  | none => .no
theorem fe_meth {k : Nat} {m : Str} {n lv : Nat} {f : Addr} {fd : FuncData} {ps : List Str} {F : FC} {go : FE} {ga : FA} {o e : Expr} {es : List Expr} {apos pos : Pos} {pl : Sem Bool} (hc : Cls X.K (Γ.cls k)) (hm : Meth X.K (Γ.cls k) m f) (F0 : FnOk X.prog X.w X.K X.mg X.base CX0 lv f fd ps (absF Γ n F)) (hr : Room lv X.A) (hb : Binds X.K fd ps [])
    (he : PE X o (absE Γ Z go)) (ha : PA X (e :: es) (absA Γ Z ga)) (hst : starEach (e :: es) X.env = (false, eval e X.env) :: starEach es X.env := by rfl) (hpl : (backTo pos (starEach es X.env)).any (·.1) = false := by rfl)
    (ht : eval (.Call (.Attribute o m apos) (e :: es) [] pos) X.env = (do
      let ov ← eval o X.env
      standAt apos.atName
      let (f, first) ← holding [ov] (getMethod ov m pl)
      callWith pos f first (backTo pos (starEach (e :: es) X.env)) (backToKw pos (keywordEach [] X.env))) := by rfl) : PE X (.Call (.Attribute o m apos) (e :: es) [] pos) (absE Γ Z (gMeth k m n F go ga)) :=
  PE.imp (pe_meth he hc hm F0 hr hb .nil pass0 ha hst hpl ht) fun σ H Q q => by
    obtain ⟨c, ρ, e, s, en, th⟩ := absG.bind q
    refine ⟨c, ρ, e, s, en, Th.mono th fun v c1 st ⟨c2, ρ2, w, e2, s2, en2, ra, q⟩ => ?_⟩
    rw [← e2]
    cases eo : olook k c2.G w with
    | none => simp only [eo] at q; exact q.elim
    | some p =>
      obtain ⟨fs, ws⟩ := p
      simp only [eo] at q
      obtain ⟨a, dx, xs, rfl, hA, hl, rx⟩ := olook_ok s2 ra eo
      split at q
      · rename_i nf
        refine ⟨a, dx, _, rfl, hA, getF_none hl nf, c2, ρ2, rfl, s2, en2, Th.mono (Th.bind q) fun vs c3 st3 ⟨c4, us, e4, st4, s4, ru, q4⟩ => ?_⟩
        unfold cFn at q4
        split at q4
        · rename_i hlen
          rw [List.append_nil]
          exact ⟨by simpa using (RpAll.length (show c4.RpAll Γ (.ref a :: vs) (w :: us) from .cons (st4.rp s2 ra) ru)).trans hlen, c4, w :: us, e4, s4, .cons (st4.rp s2 ra) ru, R.calm_th q4⟩
        · exact q4.elim
      · exact q.elim
theorem fe_meth0 {k : Nat} {m : Str} {n lv : Nat} {f : Addr} {fd : FuncData} {ps : List Str} {F : FC} {go : FE} {o : Expr} {apos pos : Pos} {pl : Sem Bool} (hc : Cls X.K (Γ.cls k)) (hm : Meth X.K (Γ.cls k) m f) (F0 : FnOk X.prog X.w X.K X.mg X.base CX0 lv f fd ps (absF Γ n F)) (hr : Room lv X.A) (hb : Binds X.K fd ps [])
    (he : PE X o (absE Γ Z go))
    (ht : eval (.Call (.Attribute o m apos) [] [] pos) X.env = (do
      let ov ← eval o X.env
      standAt apos.atName
      let (f, first) ← holding [ov] (getMethod ov m pl)
      callWith pos f first (backTo pos (starEach [] X.env)) (backToKw pos (keywordEach [] X.env))) := by rfl) : PE X (.Call (.Attribute o m apos) [] [] pos) (absE Γ Z (gMeth k m n F go gNil)) :=
  PE.imp (pe_meth0 he hc hm F0 hr hb .nil pass0 ht) fun σ H Q q => by
    obtain ⟨c, ρ, e, s, en, th⟩ := absG.bind q
    refine ⟨c, ρ, e, s, en, Th.mono th fun v c1 st ⟨c2, ρ2, w, e2, s2, en2, ra, q⟩ => ?_⟩
    rw [← e2]
    cases eo : olook k c2.G w with
    | none => simp only [eo] at q; exact q.elim
    | some p =>
      obtain ⟨fs, ws⟩ := p
      simp only [eo] at q
      obtain ⟨a, dx, xs, rfl, hA, hl, rx⟩ := olook_ok s2 ra eo
      split at q
      · rename_i nf
        unfold gNil cFn at q
        simp only [R.bind] at q
        split at q
        · rename_i hlen
          exact ⟨a, dx, _, rfl, hA, getF_none hl nf, by simpa using hlen, c2, [w], rfl, s2, .cons ra .nil, R.calm_th q⟩
        · exact q.elim
      · exact q.elim
/-- the fields, with one that is put -/
def putFW (f : Str) (w : W) : List Str → List W → List Str × List W
  | g :: fs, u :: us => if g = f then (g :: fs, w :: us) else (g :: (putFW f w fs us).1, u :: (putFW f w fs us).2)
  | _, _ => ([f], [w])
theorem putFW_ok {c : Cf} {f : Str} {v : V} {w : W} (h : c.Rp Γ v w) : ∀ {fs : List Str} {xs : List V} {ws : List W}, fs.length = xs.length → c.RpAll Γ xs ws → ∃ ys, putF f v (fs.zip xs) = (putFW f w fs ws).1.zip ys ∧ (putFW f w fs ws).1.length = ys.length ∧ c.RpAll Γ ys (putFW f w fs ws).2
  | [], xs, ws, l, r => by
    have : xs = [] := List.length_eq_zero_iff.mp l.symm
    subst this
    cases r
    exact ⟨[v], rfl, rfl, .cons h .nil⟩
  | g :: fs, [], _, l, _ => by simp at l
  | g :: fs, x :: xs, _, l, .cons (w := u) (ws := us) a b => by
    obtain ⟨ys, e1, e2, e3⟩ := putFW_ok h (fs := fs) (xs := xs) (ws := us) (by simpa using l) b
    unfold putFW
    rw [List.zip_cons_cons]
    unfold putF
    split
    · exact ⟨v :: xs, rfl, by simpa using l, .cons h b⟩
    · exact ⟨x :: ys, by rw [e1]; rfl, by simp [e2], .cons a e3⟩
theorem putFW_len (f : Str) (w : W) : ∀ (fs : List Str) (ws : List W), (putFW f w fs ws).1.length ≤ fs.length + 1
  | [], _ => Nat.le_refl _
  | g :: fs, [] => by unfold putFW; simp
  | g :: fs, u :: us => by
    unfold putFW
    split
    · simp
    · have := putFW_len f w fs us
      simp; omega
/-- an owned object of class k -/
def oown (k : Nat) (G : GH) : W → Option (Nat × List Str × List W)
  | .ref n => match G.at_ n with
    | some (.ins c fs ws) => if c = k then some (n, fs, ws) else none
    | _ => none
  | _ => none
theorem oown_ok {c : Cf} (s : SR Γ c) {k n : Nat} {v : V} {w : W} {fs : List Str} {ws : List W} (r : c.Rp Γ v w) (h : oown k c.G w = some (n, fs, ws)) : ∃ a dx xs, v = .ref a ∧ c.ι[n]? = some a ∧ c.G.at_ n = some (.ins k fs ws) ∧ c.H a = some (.ins (Γ.cls k) dx (fs.zip xs)) ∧ fs.length = xs.length ∧ c.RpAll Γ xs ws := by
  unfold oown at h
  cases r with
  | @ref m a h1 =>
    simp only at h
    cases e : c.G.at_ m with
    | none => simp [e] at h
    | some o =>
      obtain ⟨b, ho, e1, e2, r⟩ := s.obj m o e
      rw [h1] at e1; cases e1
      cases r with
      | lst _ => simp [e] at h
      | dic _ _ => simp [e] at h
      | @ins dx c0 fs0 xs ws0 l r =>
        simp only [e] at h
        split at h
        · rename_i e'
          subst e'
          cases h
          exact ⟨a, dx, xs, rfl, h1, e, e2, l, r⟩
        · cases h
  | _ => cases h
/-- o.f = e -/
def gFldSet (k : Nat) (f : Str) (gv go : FE) : FS := fun ρ G => (gv ρ G).thn ρ fun v G1 => (go ρ G1).thn ρ fun w G2 => match oown k G2 w with
  | some (n, fs, ws) => if fs.length < 900 then .nx ρ (G2.set n (.ins k (putFW f v fs ws).1 (putFW f v fs ws).2)) else .no
  | none => .no
theorem fs_fld {k : Nat} {f : Str} {o e : Expr} {gv go : FE} {p2 pos : Pos} (hc : Cls X.K (Γ.cls k)) (hn : NoAttr X.K (Γ.cls k) f) (he : PE X e (absE Γ Z gv)) (ho : PE X o (absE Γ Z go)) (hs : swapsWith e (some (.Attribute o f p2)) pos.line X.env = pure false := by rfl) :
    PS X (.Assign [.Attribute o f p2] e pos) (absS Γ Z (gFldSet k f gv go)) := PS.imp (ps_fld ho he hs) fun D σ H q => by
  obtain ⟨c, ρ, e, s, en, th⟩ := absS.bind (rel := Cf.Rp Γ) q
  refine ⟨c, ρ, e, s, en, Th.mono th fun v c1 st ⟨c2, ρ2, a, e2, s2, en2, ra, q⟩ => ?_⟩
  refine ⟨c2, ρ2, e2, s2, en2, Th.mono (ThS.bind s2 en2 q) fun ov c3 st3 ⟨c4, w, e4, st4, s4, en4, rb, q4⟩ => ?_⟩
  rw [← e4]
  cases eo : oown k c4.G w with
  | none => simp only [eo] at q4; exact q4.elim
  | some p =>
    obtain ⟨n, fs, ws⟩ := p
    simp only [eo] at q4
    split at q4
    · rename_i lt
      obtain ⟨p, dx, xs, rfl, hi, hg, hA, hl, rx⟩ := oown_ok s4 rb eo
      obtain ⟨ys, e1, l1, r1⟩ := putFW_ok (f := f) (st4.rp s2 ra) hl rx
      obtain ⟨st', s'⟩ := upd_own (ho := .ins (Γ.cls k) dx ((putFW f a fs ws).1.zip ys)) s4 hg hi (.ins l1 r1)
      refine ⟨p, _, dx, _, rfl, hA, hc, hn, by rw [List.length_zip]; omega, ?_⟩
      rw [e1]
      exact q4 _ σ st' s' rfl (st'.en s4 en4)
    · exact q4.elim
/-- o.f += e, numbers -/
def gFldAug (k : Nat) (f : Str) (go gv : FE) : FS := fun ρ G => (go ρ G).thn ρ fun w G1 => match oown k G1 w with
  | some (n, fs, ws) => match getF fs ws f with
    | some (.int i) => (gv ρ G1).thn ρ fun y G2 => match y, oown k G2 w with
      | .int j, some (n', fs', ws') => if fs'.length < 900 then .nx ρ (G2.set n' (.ins k (putFW f (.int (i + j)) fs' ws').1 (putFW f (.int (i + j)) fs' ws').2)) else .no
      | _, _ => .no
    | _ => .no
  | none => .no
theorem fs_fldAug {k : Nat} {f : Str} {o e : Expr} {gv go : FE} {p2 pos : Pos} (hc : Cls X.K (Γ.cls k)) (hn : NoAttr X.K (Γ.cls k) f) (ho : PE X o (absE Γ Z go)) (he : PE X e (absE Γ Z gv)) :
    PS X (.AugAssign (.Attribute o f p2) .Add e pos) (absS Γ Z (gFldAug k f go gv)) := PS.imp (ps_fldaug ho he in_add) fun D σ H q => by
  obtain ⟨c, ρ, e, s, en, th⟩ := absS.bind (rel := Cf.Rp Γ) q
  refine ⟨c, ρ, e, s, en, Th.mono th fun v c1 st ⟨c2, ρ2, w, e2, s2, en2, ra, q⟩ => ?_⟩
  rw [← e2]
  cases eo : oown k c2.G w with
  | none => simp only [eo] at q; exact q.elim
  | some p =>
    obtain ⟨n, fs, ws⟩ := p
    simp only [eo] at q
    obtain ⟨a, dx, xs, rfl, hi, hg, hA, hl, rx⟩ := oown_ok s2 ra eo
    cases eg : getF fs ws f with
    | none => simp only [eg] at q; exact q.elim
    | some u =>
      cases u with
      | int i =>
        simp only [eg] at q
        obtain ⟨v, lv, rv⟩ := getF_ok hl rx eg
        cases rv
        refine ⟨a, _, dx, _, .int i, rfl, hA, hc, hn, lv, c2, ρ2, rfl, s2, en2, Th.mono (ThS.bind s2 en2 q) fun y c3 st3 ⟨c4, b, e4, st4, s4, en4, rb, q4⟩ => ?_⟩
        cases rb with
        | int j =>
          cases eo4 : oown k c4.G w with
          | none => simp only [eo4] at q4; exact q4.elim
          | some p4 =>
            obtain ⟨n', fs', ws'⟩ := p4
            simp only [eo4] at q4
            split at q4
            · rename_i lt
              obtain ⟨a', dx', xs', ea', hi', hg', hA', hl', rx'⟩ := oown_ok s4 (st4.rp s2 ra) eo4
              cases ea'
              obtain ⟨ys, e1, l1, r1⟩ := putFW_ok (f := f) (c := c4) (v := .int (i + j)) (w := .int (i + j)) (.int _) hl' rx'
              obtain ⟨st', s'⟩ := upd_own (ho := .ins (Γ.cls k) dx' ((putFW f (.int (i + j)) fs' ws').1.zip ys)) s4 hg' hi' (.ins l1 r1)
              refine ⟨i, j, rfl, rfl, dx', _, by rw [← e4]; exact hA', by rw [List.length_zip]; omega, ?_⟩
              rw [e1, ← e4]
              exact q4 _ σ st' s' rfl (st'.en s4 en4)
            · exact q4.elim
        | _ => exact q4.elim
      | _ => simp only [eg] at q; exact q.elim
/-- C(..): a new object, then its __init__ -/
def gMake (k n : Nat) (F : FC) (ga : FA) : FE := fun ρ G => (ga ρ G).bind fun ws G1 => (cFn n F (.ref G1.n :: ws) (G1.push (.ins k [] []))).bind fun v G2 => match v with
  | .non => .ok (.ref G1.n) G2
  | _ => .no
theorem fe_make {k n lv : Nat} {f : Addr} {fd : FuncData} {ps : List Str} {F : FC} {ga : FA} {x : Str} {p pos : Pos} {e : Expr} {es : List Expr} (M : Mk X.K (Γ.cls k) f) (F0 : FnOk X.prog X.w X.K X.mg X.base CX0 lv f fd ps (absF Γ n F)) (hr : Room (lv + 1) X.A) (hg : Gl X x) (hm : X.mg x = some (.ref (Γ.cls k))) (hb : Binds X.K fd ps [])
    (ha : PA X (e :: es) (absA Γ Z ga)) (hdb : (x == ("__debug__" : Str)) = false := by decide) (he : starEach (e :: es) X.env = (false, eval e X.env) :: starEach es X.env := by rfl) (hpl : (backTo pos (starEach es X.env)).any (·.1) = false := by rfl) :
    PE X (.Call (.Name x p) (e :: es) [] pos) (absE Γ Z (gMake k n F ga)) := PE.imp (pe_make M F0 hr hg hm hb .nil pass0 ha hdb he hpl) fun σ H Q q => by
  obtain ⟨c, ρ, e, s, en, th⟩ := absG.bind q
  refine ⟨c, ρ, e, s, en, Th.mono th fun vs c1 st ⟨c2, ρ2, ws, e2, s2, en2, ra, q⟩ => ?_⟩
  intro x dx hx hdx hne
  rw [← e2] at hx hdx ⊢
  rw [List.append_nil]
  -- the dict of the object, then the object
  obtain ⟨st1, s1, no1⟩ := new_frz s2 hdx (.own x)
  have hx1 : upd c2.H dx (.own x) x = none := by rw [upd_ne (Ne.symm hne)]; exact hx
  obtain ⟨st3, s3⟩ := new_own (p := x) (ho := .ins (Γ.cls k) dx []) (o := .ins k [] []) s1 hx1 (.ins (fs := []) (xs := []) rfl .nil)
  have rx : Cf.Rp Γ ⟨c2.ι ++ [x], c2.G.push (.ins k [] []), upd (upd c2.H dx (.own x)) x (.ins (Γ.cls k) dx []), c2.B⟩ (.ref x) (.ref c2.G.n) := .ref (new_own_at s1 x)
  have rvs := (st1.trans st3).rpAll s2 ra
  cases ef : cFn n F (.ref c2.G.n :: ws) (c2.G.push (.ins k [] [])) with
  | no => rw [ef] at q; exact q.elim
  | ex y G => rw [ef] at q; exact (by
      exfalso
      unfold cFn at ef
      split at ef
      · unfold R.calm at ef
        split at ef <;> cases ef
      · cases ef)
  | ok v G =>
    rw [ef] at q
    unfold cFn at ef
    split at ef
    · rename_i hlen
      refine ⟨by simpa using (RpAll.length (show Cf.RpAll Γ ⟨c2.ι ++ [x], c2.G.push (.ins k [] []), upd (upd c2.H dx (.own x)) x (.ins (Γ.cls k) dx []), c2.B⟩ (.ref x :: vs) (.ref c2.G.n :: ws) from .cons rx rvs)).trans hlen, ⟨c2.ι ++ [x], c2.G.push (.ins k [] []), upd (upd c2.H dx (.own x)) x (.ins (Γ.cls k) dx []), c2.B⟩, .ref c2.G.n :: ws, rfl, s3, .cons rx rvs, ?_⟩
      refine R.calm_th (E := E0) ?_
      show Th Γ _ _ _ _ (F (.ref c2.G.n :: ws) (c2.G.push (.ins k [] []))).calm
      rw [ef]
      intro c' u st' s' eG ru
      cases v with
      | non =>
        cases ru
        refine ⟨rfl, ?_⟩
        exact q c' (.ref x) ((st1.trans st3).trans st') s' eG (.ref (st'.pre _ _ (new_own_at s1 x)))
      | _ => exact q.elim
    · cases ef
/-- a call of a def that stands in a variable -/
def gCallV (i : Nat) (tbl : Nat → Option FC) (n : Nat) (ga : FA) : FE := fun ρ G => match ρ[i]? with
  | some (some (.cl k)) => match tbl k with
    | some F => (ga ρ G).bind (cFn n F)
    | none => .no
  | _ => .no
/-- what the table's defs keep to -/
def Tbl (X : Cx) (Γ : Gm) (lv n : Nat) (tbl : Nat → Option FC) : Prop := ∀ k F, tbl k = some F → ∃ fd ps, FnOk X.prog X.w X.K X.mg X.base CX0 lv (Γ.cls k) fd ps (absF Γ n F) ∧ PySem.W.keepIn X.K (.ref (Γ.cls k)) = true ∧ Binds X.K fd ps []
theorem fe_callV {i lv n : Nat} {tbl : Nat → Option FC} {ga : FA} {x : Str} {p pos : Pos} {e : Expr} {es : List Expr} (T : Tbl X Γ lv n tbl) (hr : Room lv X.A) (hN : X.N[i]? = some x) (hv : Vis X.env.scope x) (ha : PA X (e :: es) (absA Γ Z ga))
    (hdb : (x == ("__debug__" : Str)) = false := by decide) (hcd : (x == ("__classdict__" : Str)) = false := by decide) (he : starEach (e :: es) X.env = (false, eval e X.env) :: starEach es X.env := by rfl) (hpl : (backTo pos (starEach es X.env)).any (·.1) = false := by rfl) :
    PE X (.Call (.Name x p) (e :: es) [] pos) (absE Γ Z (gCallV i tbl n ga)) := ⟨fun pins z σ H Q I q => by
  obtain ⟨c, ρ, e0, s, en, th⟩ := q
  unfold gCallV at th
  cases er : ρ[i]? with
  | none => simp only [er] at th; exact th.elim
  | some o =>
    cases o with
    | none => simp only [er] at th; exact th.elim
    | some w =>
      cases w with
      | cl k =>
        simp only [er] at th
        cases et : tbl k with
        | none => simp only [et] at th; exact th.elim
        | some F =>
          simp only [et] at th
          obtain ⟨fd, ps, F0, hk, hb⟩ := T k F et
          obtain ⟨v, ev, rv⟩ := en.2 i _ er
          cases rv
          refine (pe_callL F0 hr hN hv hk hb .nil pass0 ha hdb hcd he hpl).run pins z σ H Q I ⟨ev, c, ρ, e0, s, en, Th.mono th.bind fun vs c1 st ⟨c2, ws, e2, st2, s2, ra, q⟩ => ?_⟩
          unfold cFn at q
          split at q
          · rename_i hl
            rw [List.append_nil]
            exact ⟨ra.length.trans hl, c2, ws, e2, s2, ra, R.calm_th q⟩
          · exact q.elim
      | _ => simp only [er] at th; exact th.elim⟩
/-- a def as a value -/
theorem fe_fun {k : Nat} {x : Str} {p : Pos} (hg : Gl X x) (hm : X.mg x = some (.ref (Γ.cls k))) (hdb : (x == ("__debug__" : Str)) = false := by decide) : PE X (.Name x p) (absE Γ Z (gC (.cl k))) :=
  fe_c (pe_glob (v := .ref (Γ.cls k)) hg hm rfl hdb) fun c => .cl k
/-- what is never reached -/
theorem fs_no {st : Stmt} : PS X st (absS Γ Z fun _ _ => .no) := ⟨fun pins s σ H D I q => by
  obtain ⟨c, ρ, _, _, _, th⟩ := q
  exact th.elim⟩
end
end Fn

set_option Elab.async false
set_option linter.all false
set_option maxRecDepth 100000
namespace Fn
open PySem PySem.Spec PyProof.Rows L2
/-! ### texts -/
def strsOf : List W → Option (List Str)
  | [] => some []
  | .str x :: ws => (strsOf ws).map (x :: ·)
  | _ :: _ => none
theorem strsOf_eq : ∀ {ws : List W} {ys : List Str}, strsOf ws = some ys → ws = ys.map W.str
  | [], ys, h => by cases h; rfl
  | w :: ws, ys, h => by
    cases w with
    | str x =>
      obtain ⟨l, e, rfl⟩ := Option.map_eq_some_iff.mp (show (strsOf ws).map (x :: ·) = some ys from h)
      rw [strsOf_eq e]; rfl
    | _ => cases h
theorem strsOf_map : ∀ ys : List Str, strsOf (ys.map W.str) = some ys
  | [] => rfl
  | y :: ys => by
    show (strsOf (ys.map W.str)).map (y :: ·) = _
    rw [strsOf_map ys]; rfl
section
variable {X : Cx} {Γ : Gm} {Z : WXk}
theorem strs_v {c : Cf} : ∀ {ys : List Str} {xs : List V}, c.RpAll Γ xs (ys.map W.str) → xs = ys.map V.str
  | [], _, .nil => rfl
  | y :: ys, _, .cons a b => by
    cases a
    rw [strs_v b]; rfl
theorem strs_rp {c : Cf} : ∀ ys : List Str, c.RpAll Γ (ys.map V.str) (ys.map W.str)
  | [] => .nil
  | y :: ys => .cons (.str y) (strs_rp ys)
/-- s.join(l) -/
def mJoin : W → List W → GH → R W := fun o ws G => match o, ws with
  | .str a, [w] => match sqs G w with
    | some us => match strsOf us with
      | some ys => if (ys.map (·.length)).sum + ys.length * a.length ≤ 16777216 then .ok (.str (Txt.join a ys)) G else .no
      | none => .no
    | none => .no
  | _, _ => .no
theorem mf_join (hK : Γ.K = X.K := by rfl) : MthF X Γ "str" "str.join" mJoin := ⟨_, mt_join, fun c o vs wo ws Q E s ro rv h => by
  unfold mJoin at h
  split at h
  · rename_i a w
    cases ro
    obtain ⟨v, rfl, r1⟩ := RpAll.one (c := c) rv
    split at h
    · rename_i us eu
      obtain ⟨b, zs, rfl, hq, rr⟩ := sqs_ok s eu r1
      split at h
      · rename_i ys ey
        have := strsOf_eq ey
        subst this
        have := strs_v rr
        subst this
        split at h
        · rename_i k
          exact ⟨a, b, ys, rfl, rfl, hq.imp (fun z => hK ▸ z) (fun z => hK ▸ z), k, h.pure s (.str _)⟩
        · exact h.elim
      · exact h.elim
    · exact h.elim
  · exact h.elim⟩
/-- s.split(t) -/
def mSplit (own : Bool) : W → List W → GH → R W := fun o ws G => match o, ws with
  | .str a, [.str b] => if (b.length == 0) = false ∧ a.length + 2 ≤ sizeLine then mkL own ((Txt.split a b).map .str) G else .no
  | _, _ => .no
theorem mf_split {own : Bool} : MthF X Γ "str" "str.split" (mSplit own) := ⟨_, mt_split, fun c o vs wo ws Q E s ro rv h => by
  unfold mSplit at h
  split at h
  · rename_i a b
    cases ro
    obtain ⟨v, rfl, r1⟩ := RpAll.one (c := c) rv
    cases r1
    split at h
    · rename_i k
      exact ⟨a, b, rfl, rfl, k.1, k.2, fun p hp => mkL_ok s (strs_rp _) h hp⟩
    · exact h.elim
  · exact h.elim⟩
/-- a part of a text, a list, a tuple -/
def fSlX (own : Bool) (w : W) (lo hi : Option Int) (G : GH) : R W := match w with
  | .str z => if z.length ≤ sizeLine then .ok (.str (cutS z lo hi)) G else .no
  | w => fSl own w lo hi G
def gSlX (own : Bool) (g : FE) (lo hi : FO) : FE := fun ρ G => (g ρ G).bind fun w G1 => (lo ρ G1).bind fun l G2 => (hi ρ G2).bind fun h G3 => fSlX own w l h G3
theorem fe_slX {own : Bool} {e : Expr} {lo hi : Option Expr} {g : FE} {gl gh : FO} {p2 pos : Pos} (he : PE X e (absE Γ Z g)) (hl : PO X lo (absO Γ Z gl)) (hu : PO X hi (absO Γ Z gh)) (hK : Γ.K = X.K := by rfl) : PE X (.Subscript e (.Slice lo hi none p2) pos) (absE Γ Z (gSlX own g gl gh)) :=
  PE.imp (pe_slice ((sl_F (X := X)).or sl_str) he hl hu) fun σ H Q q => by
    obtain ⟨c, ρ, e, s, en, th⟩ := absG.bind q
    refine ⟨c, ρ, e, s, en, Th.mono th fun v c1 st ⟨c2, ρ2, a, e2, s2, en2, ra, q⟩ => ?_⟩
    refine ⟨c2, ρ2, e2, s2, en2, Th.mono (Th.bind q) fun l c3 st3 ⟨c4, b, e4, st4, s4, rb, q4⟩ => ?_⟩
    subst rb
    refine ⟨c4, ρ2, e4, s4, st4.en s2 en2, Th.mono (Th.bind q4) fun u c5 st5 ⟨c6, b6, e6, st6, s6, rb6, q6⟩ => ?_⟩
    subst rb6
    rw [← e6]
    have r6 := st6.rp s4 (st4.rp s2 ra)
    unfold fSlX at q6
    split at q6
    · rename_i z
      cases r6
      split at q6
      · rename_i k
        exact .inr ⟨_, rfl, k, q6.pure s6 (.str _)⟩
      · exact q6.elim
    · exact .inl (hK ▸ sl_ok s6 r6 q6)
/-- x in t, both texts -/
def fInT (neg : Bool) : F2 := fun a b G => match a, b with
  | .str i, .str j => .ok (.bl (if neg then !(!(Builtin.Str.occurrences j i 0 j.length 1).isEmpty) else !(Builtin.Str.occurrences j i 0 j.length 1).isEmpty)) G
  | _, _ => .no
theorem of_inT : OpF X Γ (compareOp .In) (fInT false) := ⟨_, op_in_str, fun c x y a b Q E s ra rb h => by
  unfold fInT at h
  split at h
  · cases ra; cases rb
    exact ⟨_, _, rfl, rfl, h.pure s (.bl _)⟩
  · exact h.elim⟩
theorem of_notInT : OpF X Γ (compareOp .NotIn) (fInT true) := ⟨_, op_notIn_str, fun c x y a b Q E s ra rb h => by
  unfold fInT at h
  split at h
  · cases ra; cases rb
    exact ⟨_, _, rfl, rfl, h.pure s (.bl _)⟩
  · exact h.elim⟩
/-- int(text) -/
def cIntT : FC := fun ws G => match ws with
  | [.str a] => if a.length ≤ 640 then match PySem.intText? a with
      | some n => .ok (.int n) G
      | none => .no
    else .no
  | _ => .no
theorem cf_intT : CallF X Γ (.type "int") cIntT := ⟨_, call_int_str, fun c vs ws Q E s ra h => by
  unfold cIntT at h
  split at h
  · obtain ⟨v, rfl, r⟩ := RpAll.one (c := c) ra
    cases r
    split at h
    · rename_i k
      split at h
      · rename_i n en
        exact ⟨_, n, rfl, en, k, h.pure s (.int _)⟩
      · exact h.elim
    · exact h.elim
  · exact h.elim⟩
end
end Fn

set_option Elab.async false
set_option linter.all false
set_option maxRecDepth 100000
namespace Fn
open PySem PySem.Spec PyProof.Rows L2
section
variable {X : Cx} {Γ : Gm} {Z : WXk}
/-! ### range(i, j, c) -/
def rngC (lo c : Int) : Nat → List W
  | 0 => []
  | n + 1 => .int lo :: rngC (lo + c) c n
theorem rngC_length : ∀ (n : Nat) (lo c : Int), (rngC lo c n).length = n
  | 0, _, _ => rfl
  | n + 1, lo, c => by rw [rngC, List.length_cons, rngC_length n]
theorem rngC_get : ∀ (n : Nat) (lo c : Int) (i : Nat), i < n → (rngC lo c n)[i]? = some (.int (lo + (i : Nat) * c))
  | 0, _, _, _, h => absurd h (by omega)
  | n + 1, lo, c, 0, _ => by simp [rngC]
  | n + 1, lo, c, i + 1, h => by
    rw [rngC, List.getElem?_cons_succ, rngC_get n (lo + c) c i (by omega)]
    congr 2
    rw [show ((i + 1 : Nat) : Int) = (i : Int) + 1 by omega, Int.add_mul, Int.one_mul]
    omega
theorem rngCWalks {c : Cf} {lo k : Int} {n : Nat} : Walks Γ c (Itc lo k n) (rngC lo k n) where
  go := fun c' st s' i hi => by rw [rngC_length] at hi; exact hi
  stop := fun c' st s' i hi => by rw [rngC_length] at hi; exact hi
  yld := fun c' st s' i x H' hi ⟨e, y⟩ => by
    subst e y
    rw [rngC_length] at hi
    exact ⟨_, c', rngC_get n lo k i hi, rfl, Stp.refl c', s', rfl, .int _⟩
def asRng3 (ws : List W) (G : GH) : R Wk := match ws with
  | [.int i, .int j, .int c] => if c ≠ 0 ∧ c.natAbs < 1073741824 ∧ Builtin.Range.small i j c = true ∧ 0 ≤ Builtin.Range.rangeSize i j c then .ok (.vals (rngC i c (Builtin.Range.rangeSize i j c).toNat)) G else .no
  | _ => .no
theorem fi_rng3 {tg a b d : Expr} {g : FA} {p pos : Pos} (hg : Gl X "range") (hm : X.mg "range" = none) (ha : PA X [a, b, d] (absA Γ Z g)) (hs : starEach [a, b, d] X.env = (false, eval a X.env) :: starEach [b, d] X.env := by rfl) (hpl : (backTo pos (starEach [b, d] X.env)).any (·.1) = false := by rfl) : PI X tg (.Call (.Name "range" p) [a, b, d] [] pos) (absI Γ Z (iRng asRng3 g)) :=
  PI.imp (pi_range3 hg hm ha hs hpl) fun σ H R q => by
    obtain ⟨c, ρ, e, s, en, th⟩ := absG.bind q
    refine ⟨c, ρ, e, s, en, Th.mono th fun v c1 st ⟨c2, ρ2, ws, e2, s2, en2, ra, q⟩ => ?_⟩
    rw [← e2]
    unfold asRng3 at q
    split at q
    · rename_i i j k
      cases ra with
      | cons r1 t =>
        obtain ⟨x, y, rfl, r2, r3⟩ := RpAll.two (c := c2) t
        cases Rp.int_of (c := c2) r1
        cases Rp.int_of (c := c2) r2
        cases Rp.int_of (c := c2) r3
        split at q
        · rename_i h
          exact ⟨i, j, k, _, rfl, ⟨h.1, h.2.1, h.2.2.1, (Int.toNat_of_nonneg h.2.2.2).symm⟩, q c2 _ (Stp.refl c2) s2 rfl rngCWalks⟩
        · exact q.elim
    · exact q.elim

/-! ### str(text or number) -/
def cStrX : FC := fun ws G => match ws with
  | [.str x] => .ok (.str x) G
  | ws => cStr ws G
theorem cf_strX : CallF X Γ (.type "str") cStrX := by
  obtain ⟨r, hr, h⟩ := cf_str (X := X) (Γ := Γ)
  refine ⟨fun xs H Q => (∃ a, xs = [.str a] ∧ Q (.str a) H) ∨ r xs H Q, ?_, fun c vs ws Q E s ra h1 => ?_⟩
  · intro pins s σ H xs us Q I ru q
    rcases q with q | q
    · obtain ⟨a, rfl, q⟩ := q
      obtain ⟨u, rfl, t, rfl⟩ := vals1 ru
      exact PySem.P.str_of_str ⟨.str a, H, I, ⟨t, rfl⟩, q⟩
    · exact hr pins s σ H xs us Q I ru q
  · unfold cStrX at h1
    split at h1
    · rename_i x
      obtain ⟨v, rfl, r1⟩ := RpAll.one (c := c) ra
      cases r1
      exact .inl ⟨_, rfl, h1.pure s (.str _)⟩
    · exact .inr (h c vs _ Q E s ra h1)
/-! ### isinstance(x, (A, B)), of numbers and texts -/
def isaAny (a : String) : List String → Option Bool
  | [] => some false
  | b :: bs => match kitB a b with
    | some true => some true
    | some false => isaAny a bs
    | none => none
theorem isaAny_ok {K : PySem.W.Frag} {a : String} : ∀ {bs : List String} {r : Bool}, isaAny a bs = some r → PySem.W.kitAny K (.type a) (bs.map Value.type) = some r
  | [], r, h => by cases h; rfl
  | b :: bs, r, h => by
    unfold isaAny at h
    cases e : kitB a b with
    | none => rw [e] at h; cases h
    | some x =>
      rw [e] at h
      cases x with
      | true => cases h; exact kitAny_cons (kit_ty e) (fun z => nomatch z) fun _ => rfl
      | false => exact kitAny_cons (kit_ty e) (fun _ => isaAny_ok h) fun z => nomatch z
def gIsaT (ts : List String) (g : FE) : FE := fun ρ G => (g ρ G).bind fun w G1 => match w with
  | .int _ => match isaAny "int" ts with
    | some b => .ok (.bl b) G1
    | none => .no
  | .str _ => match isaAny "str" ts with
    | some b => .ok (.bl b) G1
    | none => .no
  | _ => .no
theorem paired_ty : ∀ ts : List String, Paired ClsV (ts.map V.ty) (ts.map Value.type)
  | [] => .nil
  | t :: ts => .cons (.ty t) (paired_ty ts)
theorem ops_v {c : Cf} : ∀ {ts : List String} {xs : List V}, c.RpAll Γ xs (ts.map fun t => W.op (.ty t)) → xs = ts.map V.ty
  | [], _, .nil => rfl
  | t :: ts, _, .cons a b => by
    cases a
    rw [ops_v b]; rfl

theorem fe_isaT {ts : List String} {e : Expr} {es : List Expr} {g : FE} {ga : FA} {k : Nat} {p tp pos : Pos} (hg : Gl X "isinstance") (hm : X.mg "isinstance" = none) (he : PE X e (absE Γ Z g)) (ha : PA X es (absA Γ Z ga)) (hga : ga = fun ρ G => .ok (ts.map fun t => W.op (.ty t)) G := by rfl)
    (hz : ts.length ≤ sizeLine := by decide)
    (hs : starEach [e, .Tuple es k tp] X.env = (false, eval e X.env) :: starEach [.Tuple es k tp] X.env := by rfl) (hpl : (backTo pos (starEach [.Tuple es k tp] X.env)).any (·.1) = false := by rfl)
    (hs2 : starEach [.Tuple es k tp] X.env = (false, eval (.Tuple es k tp) X.env) :: starEach [] X.env := by rfl) : PE X (.Call (.Name "isinstance" p) [e, .Tuple es k tp] [] pos) (absE Γ Z (gIsaT ts g)) :=
  PE.imp (pe_callB call_isiT hg hm (by rfl) (pa_cons he (pa_cons (pe_tup ha) pa_nil hs2) hs) (by decide) (by decide) hs hpl) fun σ H Q q => by
    obtain ⟨c, ρ, e, s, en, th⟩ := absG.bind q
    refine ⟨c, ρ, e, s, en, Th.mono th fun v c1 st ⟨c2, ρ2, w, e2, s2, en2, ra, q⟩ => ?_⟩
    refine ⟨c2, ρ2, e2, s2, en2, ?_⟩
    rw [hga]
    intro c3 us st3 s3 e3 ru
    obtain rfl := ops_v ru
    refine ⟨by rw [List.length_map]; exact hz, fun tp htp => ?_⟩
    obtain ⟨st4, s4, _⟩ := new_frz s3 htp (.tup (ts.map V.ty))
    have r4 := st4.rp s3 (st3.rp s2 ra)
    have fin : ∀ {E : XK} b, Th Γ E (Cf.Rp Γ) c2 Q (.ok (.bl b) c2.G) → Q (.bl b) (upd c3.H tp (.tup (ts.map V.ty))) := fun b h => h _ _ (st3.trans st4) s4 e3 (.bl b)
    cases w with
    | int i =>
      cases r4
      simp only at q
      cases ei : isaAny "int" ts with
      | none => rw [ei] at q; exact q.elim
      | some b => rw [ei] at q; exact ⟨_, tp, _, _, _, b, rfl, upd_same, paired_ty ts, .base (.int i), isaAny_ok ei, fin b q⟩
    | str i =>
      cases r4
      simp only at q
      cases ei : isaAny "str" ts with
      | none => rw [ei] at q; exact q.elim
      | some b => rw [ei] at q; exact ⟨_, tp, _, _, _, b, rfl, upd_same, paired_ty ts, .base (.str i), isaAny_ok ei, fin b q⟩
    | _ => exact q.elim
end
end Fn

set_option Elab.async false
set_option linter.all false
set_option maxRecDepth 100000
namespace Fn
open PySem PySem.Spec PyProof.Rows L2
/-! ### [e for a in x for b in y] -/
section
variable {X : Cx} {Γ : Gm} {Z : WXk}
/-- a list is being made: it stands at D, holds acc; k gives what comes behind -/
structure LS (Γ : Gm) (c0 : Cf) (D : Addr) (own : Bool) (E : XK) (Q : V → Hp → Prop) (k : GH → R (List W)) (c : Cf) (xs : List V) (acc : List W) : Prop where
  s : SR Γ c
  st : StpW c0 c
  kp : ∀ a o, c0.H a = some o → ¬ c0.Ow a → c.H a = some o
  hB : c.B = fun a => c0.B a ∨ a = D
  hx : c.H D = some (.lst xs)
  rx : c.RpAll Γ xs acc
  th : Th Γ E (Cf.Rp Γ) c0 Q ((k c.G).calm.bind fun r G2 => if (acc ++ r).length ≤ sizeLine then mkL own (acc ++ r) G2 else .no)
variable {c0 : Cf} {D : Addr} {own : Bool} {E : XK} {Q : V → Hp → Prop} {k k' : GH → R (List W)} {c c' : Cf} {xs : List V} {acc : List W}
theorem LS.start (s0 : SR Γ c0) (hD : c0.H D = none) (th0 : Th Γ E (Cf.Rp Γ) c0 Q ((k c0.G).calm.bind fun r G2 => if r.length ≤ sizeLine then mkL own r G2 else .no)) :
    ∃ c, c.H = upd c0.H D (.lst []) ∧ c.G = c0.G ∧ LS Γ c0 D own E Q k c [] [] := by
  obtain ⟨st1, s1⟩ := hide s0 hD (.l [])
  refine ⟨⟨c0.ι, c0.G, upd c0.H D (.lst []), fun a => c0.B a ∨ a = D⟩, rfl, rfl, s1, st1, fun a o e _ => ?_, rfl, upd_same, .nil, by simpa using th0⟩
  show upd c0.H D _ a = some o
  rw [upd_ne (ne_of_none e hD)]; exact e
theorem LS.on (L : LS Γ c0 D own E Q k c xs acc) (st' : Stp c c') (s' : SR Γ c') (h : k' c'.G = k c.G) : LS Γ c0 D own E Q k' c' xs acc := by
  have oB : ¬ c.Ow D := fun ⟨n, o, _, e⟩ => (L.s.hid D (by rw [L.hB]; exact .inr rfl)).2 (List.mem_of_getElem? e)
  refine ⟨s', L.st.trans st'.w, fun a o e n => ?_, st'.bl.trans L.hB, st'.keep D _ L.hx oB, st'.rpAll L.s L.rx, by rw [h]; exact L.th⟩
  refine st'.keep a o (L.kp a o e n) fun z => ?_
  rcases L.st.own a (.inl z) with (q | q) | q
  · exact n q
  · exact (L.s.hid a (by rw [L.hB]; exact .inl q)).2 (by obtain ⟨n, o, _, e⟩ := z; exact List.mem_of_getElem? e)
  · rw [q] at e; cases e
theorem LS.fin (L : LS Γ c0 D own E Q (fun G => .ok [] G) c xs acc) (s0 : SR Γ c0) (hD : c0.H D = none) : Q (.ref D) c.H := by
  have th := L.th
  simp only [R.calm, R.bind, List.append_nil] at th
  by_cases z : acc.length ≤ sizeLine
  · rw [if_pos z] at th
    exact unhide s0 hD L.s L.st L.kp L.hB L.hx L.rx th
  · rw [if_neg z] at th
    exact th.elim
theorem LS.lt {y : W} {r : List W} {G : GH} (L : LS Γ c0 D own E Q k c xs acc) (e : k c.G = .ok (y :: r) G) : acc.length < sizeLine := by
  have th := L.th
  rw [e] at th
  simp only [R.calm, R.bind] at th
  by_cases z : (acc ++ (y :: r)).length ≤ sizeLine
  · rw [List.length_append, List.length_cons] at z
    omega
  · rw [if_neg z] at th; exact th.elim
theorem LS.push {y : W} {v : V} {r : List W} {G : GH} (L : LS Γ c0 D own E Q k c xs acc) (hD : c0.H D = none) (e : k c.G = .ok (y :: r) G) (e' : k' c.G = .ok r G) (rv : c.Rp Γ v y) :
    ∃ c', c'.H = upd c.H D (.lst (xs ++ [v])) ∧ c'.G = c.G ∧ StpW c c' ∧ LS Γ c0 D own E Q k' c' (xs ++ [v]) (acc ++ [y]) := by
  have hBD : c.B D := by rw [L.hB]; exact .inr rfl
  obtain ⟨st5, s5⟩ := hidSet L.s hBD (.l (xs ++ [v]))
  refine ⟨⟨c.ι, c.G, upd c.H D (.lst (xs ++ [v])), c.B⟩, rfl, rfl, st5, s5, L.st.trans st5, fun a o e n => ?_, L.hB, upd_same, st5.rpAll L.s (L.rx.append (.cons rv .nil)), ?_⟩
  · show upd c.H D _ a = some o
    rw [upd_ne (ne_of_none e hD)]
    exact L.kp a o e n
  · have th := L.th
    rw [e] at th
    show Th Γ E (Cf.Rp Γ) c0 Q ((k' c.G).calm.bind _)
    rw [e']
    simp only [R.calm, R.bind] at th ⊢
    rw [show acc ++ [y] ++ r = acc ++ (y :: r) by simp]
    exact th
theorem LS.ok (L : LS Γ c0 D own E Q k c xs acc) : ∃ r G, k c.G = .ok r G := by
  have th := L.th
  cases e : k c.G with
  | ok r G => exact ⟨r, G, rfl⟩
  | ex x G => rw [e] at th; exact th.elim
  | no => rw [e] at th; exact th.elim
end
section
variable {X : Cx} {Γ : Gm}
/-- int(text or number) -/
def cIntX : FC := fun ws G => match ws with
  | [.str a] => cIntT [.str a] G
  | ws => cInt ws G
theorem cf_intX : CallF X Γ (.type "int") cIntX := by
  obtain ⟨r, hr, h⟩ := cf_int (X := X) (Γ := Γ)
  obtain ⟨r2, hr2, h2⟩ := cf_intT (X := X) (Γ := Γ)
  refine ⟨fun xs H Q => r xs H Q ∨ r2 xs H Q, ?_, fun c vs ws Q E s ra h1 => ?_⟩
  · intro pins s σ H xs us Q I ru q
    rcases q with q | q
    · exact hr pins s σ H xs us Q I ru q
    · exact hr2 pins s σ H xs us Q I ru q
  · unfold cIntX at h1
    split at h1
    · exact .inr (h2 c vs _ Q E s ra h1)
    · exact .inl (h c vs _ Q E s ra h1)
end
/-- a statement that is not reached -/
def gNo : FS := fun _ _ => .no
def lc2F (t : FG1) (tt : FT) (gi1 : FI) (t1 : FG1) (tt1 : FT) (te : FE) (vs1 : List Nat) (ρw : En) : List W → GH → R (List W)
  | [], G => .ok [] G
  | w :: ws, G => match t w ρw G with
    | none => .no
    | some (ρ1, G1) => (tt ρ1 G1).bind fun b G2 => if b then (gi1 ρ1 G2).bind fun k G3 => match k with
        | .vals us => (lcF t1 tt1 te (wipeW ρ1 vs1) us G3).bind fun r1 G4 => (lc2F t tt gi1 t1 tt1 te vs1 ρw ws G4).bind fun r2 G5 => .ok (r1 ++ r2) G5
        | .own _ => .no
      else lc2F t tt gi1 t1 tt1 te vs1 ρw ws G2
def gLc2 (own : Bool) (gi : FI) (t : FG1) (tt : FT) (gi1 : FI) (t1 : FG1) (tt1 : FT) (te : FE) (vs vs1 : List Nat) : FE := fun ρ G => (gi ρ G).bind fun k G1 => match k with
  | .vals ws => (lc2F t tt gi1 t1 tt1 te vs1 (wipeW ρ vs) ws G1).calm.bind fun r G2 => if r.length ≤ sizeLine then mkL own r G2 else .no
  | .own _ => .no
section
variable {X : Cx} {Γ : Gm} {Z : WXk}
theorem bind_inv {α β : Type} {r : R α} {f : α → GH → R β} {b : β} {G : GH} (h : r.bind f = .ok b G) : ∃ a G1, r = .ok a G1 ∧ f a G1 = .ok b G := by
  cases r with
  | ok a G1 => exact ⟨a, G1, rfl, h⟩
  | ex x G1 => cases h
  | no => cases h
theorem bindNil (x : R (List W)) : x = (x.bind fun r2 G5 => .ok ([] ++ r2) G5) := by cases x <;> rfl
theorem calm_inv {α : Type} {r : R α} {a : α} {G : GH} (h : r.calm = .ok a G) : r = .ok a G := by
  cases r with
  | ok a G1 => exact h
  | ex x G1 => cases h
  | no => cases h
theorem lc2_ok {own : Bool} {t t1 : FG1} {sl vs sl1 vs1 : List Nat} {tt tt1 : FT} {te : FE} {gi1 : FI} {J : It} {ws : List W} {c0 : Cf} {ρ0 : En} {σ0 : L2.St} {E : XK} {Q : V → Hp → Prop} (hsl : ∀ i ∈ sl, i ∈ vs) (hsl1 : ∀ i ∈ sl1, i ∈ vs1) (s0 : SR Γ c0) (wk : Walks Γ c0 J ws) (en0 : c0.En Γ ρ0 σ0)
    (th0 : Th Γ E (Cf.Rp Γ) c0 Q ((lc2F t tt gi1 t1 tt1 te vs1 (wipeW ρ0 vs) ws c0.G).calm.bind fun r G2 => if r.length ≤ sizeLine then mkL own r G2 else .no)) {D : Addr} (hD : c0.H D = none) :
    ∃ Wd : Nat → Nat → Hp → Prop, (∃ m, Wd 0 m (upd c0.H D (.lst []))) ∧ ∀ i m H, Wd i m H →
      (J.stop i H ∧ Q (.ref D) H) ∨ (J.go i H ∧ ∃ Nx : Hp → Prop, (∀ H', Nx H' → ∃ m', m' < m ∧ Wd (i + 1) m' H') ∧ ∀ x H', J.yld i H x H' → absG1 Γ sl t x (wipe σ0 vs) H' fun σ2 H2 => wipe σ2 vs = wipe σ0 vs ∧ absT Γ Z0 tt σ2 H2 fun b H3 =>
        if b = true then absI Γ Z0 gi1 σ2 H3 fun J1 H4 => ∃ W1 : Nat → Nat → Hp → Prop, (∃ m, W1 0 m H4) ∧ ∀ j k H, W1 j k H →
          (J1.stop j H ∧ Nx H) ∨ (J1.go j H ∧ ∃ Nx1 : Hp → Prop, (∀ H', Nx1 H' → ∃ k', k' < k ∧ W1 (j + 1) k' H') ∧ ∀ x H', J1.yld j H x H' → absG1 Γ sl1 t1 x (wipe σ2 vs1) H' fun σ3 H5 => wipe σ3 vs1 = wipe σ2 vs1 ∧ absT Γ Z0 tt1 σ3 H5 fun b H6 =>
            if b = true then absE Γ Z0 te σ3 H6 fun y H7 => ∃ acc, H7 D = some (.lst acc) ∧ acc.length < sizeLine ∧ Nx1 (upd H7 D (.lst (acc ++ [y]))) else Nx1 H6)
        else Nx H3) := by
  refine ⟨fun i m H => m = ws.length - i ∧ i ≤ ws.length ∧ ∃ (c : Cf) (xs : List V) (acc : List W), c.H = H ∧ LS Γ c0 D own E Q (fun G => lc2F t tt gi1 t1 tt1 te vs1 (wipeW ρ0 vs) (ws.drop i) G) c xs acc, ?_, ?_⟩
  · obtain ⟨c, e1, e2, L⟩ := LS.start s0 hD th0
    exact ⟨_, rfl, Nat.zero_le _, c, [], [], e1, L⟩
  · rintro i m H ⟨rfl, hi, c, xs, acc, rfl, L⟩
    by_cases hlt : i < ws.length
    · have ed : ws.drop i = ws[i] :: ws.drop (i + 1) := List.drop_eq_getElem_cons hlt
      refine .inr ⟨wk.go c L.st L.s i hlt, fun H => ∃ (c : Cf) (xs : List V) (acc : List W), c.H = H ∧ LS Γ c0 D own E Q (fun G => lc2F t tt gi1 t1 tt1 te vs1 (wipeW ρ0 vs) (ws.drop (i + 1)) G) c xs acc, fun H' h => ⟨_, by omega, rfl, hlt, h⟩, fun x H' y => ?_⟩
      obtain ⟨w, c1, ew, e1, st1, s1, eG, rw1⟩ := wk.yld c L.st L.s i x H' hlt y
      have ew : ws[i] = w := by rw [List.getElem?_eq_getElem hlt] at ew; exact Option.some.inj ew
      obtain ⟨r, G, er⟩ := L.ok
      have er0 := er
      simp only [ed, ew] at er
      unfold lc2F at er
      refine ⟨c1, wipeW ρ0 vs, w, e1, s1, wipeW_en (st1.en L.s (L.st.en s0 en0)) vs, rw1, ?_⟩
      rw [eG]
      cases kt : t w (wipeW ρ0 vs) c.G with
      | none => rw [kt] at er; cases er
      | some p =>
        obtain ⟨ρ1, G1⟩ := p
        rw [kt] at er
        simp only at er ⊢
        intro c2 σ2 st2 s2 e2 en2 ag
        refine ⟨wipe_agr ag hsl, c2, ρ1, rfl, s2, en2, ?_⟩
        obtain ⟨b, G2, eb, er⟩ := bind_inv er
        rw [e2, eb]
        intro c3 b' st3 s3 e3 eb'
        subst eb'
        cases b' with
        | false =>
          rw [if_neg Bool.false_ne_true]
          rw [if_neg Bool.false_ne_true] at er
          refine ⟨c3, xs, acc, rfl, L.on (st1.trans (st2.trans st3)) s3 ?_⟩
          rw [e3]
          exact er.trans er0.symm
        | true =>
          rw [if_pos rfl]
          rw [if_pos rfl] at er
          obtain ⟨kk, G3, ek, er⟩ := bind_inv er
          refine ⟨c3, ρ1, rfl, s3, st3.en s2 en2, ?_⟩
          rw [e3, ek]
          cases kk with
          | own n => cases er
          | vals us =>
            simp only at er
            intro c4 J1 st4 s4 e4 wk1
            have en4 : c4.En Γ ρ1 σ2 := st4.en s3 (st3.en s2 en2)
            have L4 : LS Γ c0 D own E Q (fun G => (lcF t1 tt1 te (wipeW ρ1 vs1) (us.drop 0) G).bind fun r1 G4 => (lc2F t tt gi1 t1 tt1 te vs1 (wipeW ρ0 vs) (ws.drop (i + 1)) G4).bind fun r2 G5 => .ok (r1 ++ r2) G5) c4 xs acc := by
              refine L.on (st1.trans (st2.trans (st3.trans st4))) s4 ?_
              show (lcF t1 tt1 te (wipeW ρ1 vs1) (us.drop 0) c4.G).bind _ = _
              rw [e4]
              exact er.trans er0.symm
            have wk1 : Walks Γ c4 J1 us := wk1
            refine ⟨fun j k H => k = us.length - j ∧ j ≤ us.length ∧ ∃ (c : Cf) (xs : List V) (acc : List W), c.H = H ∧ StpW c4 c ∧ LS Γ c0 D own E Q (fun G => (lcF t1 tt1 te (wipeW ρ1 vs1) (us.drop j) G).bind fun r1 G4 => (lc2F t tt gi1 t1 tt1 te vs1 (wipeW ρ0 vs) (ws.drop (i + 1)) G4).bind fun r2 G5 => .ok (r1 ++ r2) G5) c xs acc, ?_, ?_⟩
            · exact ⟨_, rfl, Nat.zero_le _, c4, xs, acc, rfl, (Stp.refl c4).w, L4⟩
            · rintro j k H ⟨rfl, hj, c5, xs5, acc5, rfl, st5, L5⟩
              by_cases hjl : j < us.length
              · have ed5 : us.drop j = us[j] :: us.drop (j + 1) := List.drop_eq_getElem_cons hjl
                refine .inr ⟨wk1.go c5 st5 L5.s j hjl, fun H => ∃ (c : Cf) (xs : List V) (acc : List W), c.H = H ∧ StpW c4 c ∧ LS Γ c0 D own E Q (fun G => (lcF t1 tt1 te (wipeW ρ1 vs1) (us.drop (j + 1)) G).bind fun r1 G4 => (lc2F t tt gi1 t1 tt1 te vs1 (wipeW ρ0 vs) (ws.drop (i + 1)) G4).bind fun r2 G5 => .ok (r1 ++ r2) G5) c xs acc, fun H' h => ⟨_, by omega, rfl, hjl, h⟩, fun x H' y => ?_⟩
                obtain ⟨u, c6, eu, e6, st6, s6, eG6, rw6⟩ := wk1.yld c5 st5 L5.s j x H' hjl y
                have eu : us[j] = u := by rw [List.getElem?_eq_getElem hjl] at eu; exact Option.some.inj eu
                obtain ⟨r5, G5, er5⟩ := L5.ok
                have er50 := er5
                simp only [ed5, eu] at er5
                obtain ⟨ra, Ga, ea, er5⟩ := bind_inv er5
                obtain ⟨rb, Gb, eb5, er5⟩ := bind_inv er5
                unfold lcF at ea
                obtain ⟨o, Go, eo, ea⟩ := bind_inv ea
                obtain ⟨rest, Gr, erest, ea⟩ := bind_inv ea
                cases ea
                refine ⟨c6, wipeW ρ1 vs1, u, e6, s6, wipeW_en (st6.en L5.s (st5.en s4 en4)) vs1, rw6, ?_⟩
                rw [eG6]
                unfold lcTurn at eo
                cases kt1 : t1 u (wipeW ρ1 vs1) c5.G with
                | none => rw [kt1] at eo; cases eo
                | some p1 =>
                  obtain ⟨ρ2, G6⟩ := p1
                  rw [kt1] at eo
                  simp only at eo ⊢
                  intro c7 σ3 st7 s7 e7 en7 ag7
                  refine ⟨wipe_agr ag7 hsl1, c7, ρ2, rfl, s7, en7, ?_⟩
                  obtain ⟨b1, G7, eb1, eo⟩ := bind_inv eo
                  rw [e7, calm_inv eb1]
                  intro c8 b1' st8 s8 e8 eb1'
                  subst eb1'
                  cases b1' with
                  | false =>
                    rw [if_neg Bool.false_ne_true]
                    rw [if_neg Bool.false_ne_true] at eo
                    cases eo
                    have st58 := st6.trans (st7.trans st8)
                    refine ⟨c8, xs5, acc5, rfl, st5.trans st58.w, L5.on st58 s8 ?_⟩
                    show (lcF t1 tt1 te (wipeW ρ1 vs1) (us.drop (j + 1)) c8.G).bind _ = _
                    rw [er50, e8, erest]
                    show (lc2F t tt gi1 t1 tt1 te vs1 (wipeW ρ0 vs) (ws.drop (i + 1)) _).bind _ = _
                    rw [eb5]
                    exact er5
                  | true =>
                    rw [if_pos rfl]
                    rw [if_pos rfl] at eo
                    obtain ⟨yv, G8, ev, eo⟩ := bind_inv eo
                    cases eo
                    refine ⟨c8, ρ2, rfl, s8, st8.en s7 en7, ?_⟩
                    rw [e8, calm_inv ev]
                    intro c9 v st9 s9 e9 rv
                    have st59 := st6.trans (st7.trans (st8.trans st9))
                    cases er5
                    have L9 := L5.on (k' := fun _ => .ok (yv :: (rest ++ rb)) G5) st59 s9 er50.symm
                    have e' : (fun G => (lcF t1 tt1 te (wipeW ρ1 vs1) (us.drop (j + 1)) G).bind fun r1 G4 => (lc2F t tt gi1 t1 tt1 te vs1 (wipeW ρ0 vs) (ws.drop (i + 1)) G4).bind fun r2 G5 => .ok (r1 ++ r2) G5) c9.G = .ok (rest ++ rb) G5 := by
                      show (lcF t1 tt1 te (wipeW ρ1 vs1) (us.drop (j + 1)) c9.G).bind _ = _
                      rw [e9, erest]
                      show (lc2F t tt gi1 t1 tt1 te vs1 (wipeW ρ0 vs) (ws.drop (i + 1)) _).bind _ = _
                      rw [eb5]
                      rfl
                    obtain ⟨ca, ha, ga, sta, La⟩ := L9.push (k' := fun G => (lcF t1 tt1 te (wipeW ρ1 vs1) (us.drop (j + 1)) G).bind fun r1 G4 => (lc2F t tt gi1 t1 tt1 te vs1 (wipeW ρ0 vs) (ws.drop (i + 1)) G4).bind fun r2 G5 => .ok (r1 ++ r2) G5) hD rfl e' rv
                    exact ⟨xs5, L9.hx, by rw [L9.rx.length]; exact L9.lt rfl, ca, _, _, ha, (st5.trans st59.w).trans sta, La⟩
              · have e : j = us.length := by omega
                subst e
                refine .inl ⟨wk1.stop c5 st5 L5.s _ (Nat.le_refl _), c5, xs5, acc5, rfl, L5.on (Stp.refl c5) L5.s ?_⟩
                simp only [List.drop_length, lcF]
                exact bindNil _
    · have e : i = ws.length := by omega
      subst e
      refine .inl ⟨wk.stop c L.st L.s _ (Nat.le_refl _), LS.fin (L.on (Stp.refl c) L.s ?_) s0 hD⟩
      simp only [List.drop_length, lc2F]
theorem lc2_imp {own : Bool} {gi gi1 : FI} {t t1 : FG1} {sl vs sl1 vs1 : List Nat} {tt tt1 : FT} {te : FE} {σ : L2.St} {H : Hp} {Q : V → Hp → Prop} (hsl : ∀ i ∈ sl, i ∈ vs) (hsl1 : ∀ i ∈ sl1, i ∈ vs1) (q : absE Γ Z (gLc2 own gi t tt gi1 t1 tt1 te vs vs1) σ H Q) :
    tLc2 (absI Γ Z gi) (absG1 Γ sl t) (absT Γ Z0 tt) (absI Γ Z0 gi1) (absG1 Γ sl1 t1) (absT Γ Z0 tt1) (absE Γ Z0 te) vs vs1 σ H Q := by
  obtain ⟨c, ρ, e, s, en, th⟩ := absG.bind q
  refine ⟨c, ρ, e, s, en, Th.mono th fun J c1 st ⟨c2, ρ2, k, e2, s2, en2, wk, q⟩ => ?_⟩
  rw [← e2]
  cases k with
  | vals ws => exact fun D hD => lc2_ok hsl hsl1 s2 wk en2 q hD
  | own n => exact q.elim
theorem fe_lc2 {own : Bool} {elt tg iter tg1 iter1 : Expr} {ifs ifs1 : List Expr} {scope : Scope} {onames : List (Str × Nat)} {vs1 : List Nat} {pos : Pos} {gi gi1 : FI} {t t1 : FG1} {sl sl1 : List Nat} {tt tt1 : FT} {te : FE} (hc : X.calm = true) (hN : X.N.Nodup) (hi : PI X tg iter (absI Γ Z gi)) (ok : BlkOk X.N X.env.scope scope onames) (hv : ∀ i ∈ vs1, i ∈ onames.map (·.2))
    (hg : ∀ (s : Shared) (H : Hp) (C : Addr) (cl : List (Str × Addr)) (fp : List Addr), PG (X.blk s H scope (compEnvC scope cl C X.env) fp) tg (absG1 Γ sl t))
    (ht : ∀ (s : Shared) (H : Hp) (C : Addr) (cl : List (Str × Addr)) (fp : List Addr), PTs (X.blk s H scope (compEnvC scope cl C X.env) fp) ifs (absT Γ Z0 tt))
    (hi1 : ∀ (s : Shared) (H : Hp) (C : Addr) (cl : List (Str × Addr)) (fp : List Addr), PI (X.blk s H scope (compEnvC scope cl C X.env) fp) tg1 iter1 (absI Γ Z0 gi1))
    (hg1 : ∀ (s : Shared) (H : Hp) (C : Addr) (cl : List (Str × Addr)) (fp : List Addr), PG (X.blk s H scope (compEnvC scope cl C X.env) fp) tg1 (absG1 Γ sl1 t1))
    (ht1 : ∀ (s : Shared) (H : Hp) (C : Addr) (cl : List (Str × Addr)) (fp : List Addr), PTs (X.blk s H scope (compEnvC scope cl C X.env) fp) ifs1 (absT Γ Z0 tt1))
    (he : ∀ (s : Shared) (H : Hp) (C : Addr) (cl : List (Str × Addr)) (fp : List Addr), PE (X.blk s H scope (compEnvC scope cl C X.env) fp) elt (absE Γ Z0 te)) (hsl : ∀ i ∈ sl, i ∈ onames.map (·.2) := by decide) (hsl1 : ∀ i ∈ sl1, i ∈ vs1 := by decide) (hs : ∀ x, foldedSetIterable iter X.env x = pure x := by intro _; rfl) (hs1 : ∀ env x, foldedSetIterable iter1 env x = pure x := by intro _ _; rfl) :
    PE X (.ListComp elt [⟨tg, iter, ifs, 0⟩, ⟨tg1, iter1, ifs1, 0⟩] scope pos) (absE Γ Z (gLc2 own gi t tt gi1 t1 tt1 te (onames.map (·.2)) vs1)) :=
  PE.imp (pe_lc2 hc hN hi ok hv hg ht hi1 hg1 ht1 he hs hs1) fun σ H Q q => lc2_imp hsl hsl1 q
/-- y = [..] -/
theorem fs_lc2 {own : Bool} {i : Nat} {y : Str} {py : Pos} {elt tg iter tg1 iter1 : Expr} {ifs ifs1 : List Expr} {scope : Scope} {onames : List (Str × Nat)} {vs1 : List Nat} {pos spos : Pos} {gi gi1 : FI} {t t1 : FG1} {sl sl1 : List Nat} {tt tt1 : FT} {te : FE} (hc : X.calm = true) (hN : X.N.Nodup) (hy : X.N[i]? = some y) (hyl : X.env.scope.names.lookup y = some .local)
    (hsw : swapsWith (.ListComp elt [⟨tg, iter, ifs, 0⟩, ⟨tg1, iter1, ifs1, 0⟩] scope pos) (some (.Name y py)) spos.line X.env = pure true) (hi : PI X tg iter (absI Γ Z gi)) (ok : BlkOk X.N X.env.scope scope onames) (hv : ∀ i ∈ vs1, i ∈ onames.map (·.2))
    (hg : ∀ (s : Shared) (H : Hp) (C : Addr) (cl : List (Str × Addr)) (fp : List Addr), PG (X.blk s H scope (compEnvC scope cl C X.env) fp) tg (absG1 Γ sl t))
    (ht : ∀ (s : Shared) (H : Hp) (C : Addr) (cl : List (Str × Addr)) (fp : List Addr), PTs (X.blk s H scope (compEnvC scope cl C X.env) fp) ifs (absT Γ Z0 tt))
    (hi1 : ∀ (s : Shared) (H : Hp) (C : Addr) (cl : List (Str × Addr)) (fp : List Addr), PI (X.blk s H scope (compEnvC scope cl C X.env) fp) tg1 iter1 (absI Γ Z0 gi1))
    (hg1 : ∀ (s : Shared) (H : Hp) (C : Addr) (cl : List (Str × Addr)) (fp : List Addr), PG (X.blk s H scope (compEnvC scope cl C X.env) fp) tg1 (absG1 Γ sl1 t1))
    (ht1 : ∀ (s : Shared) (H : Hp) (C : Addr) (cl : List (Str × Addr)) (fp : List Addr), PTs (X.blk s H scope (compEnvC scope cl C X.env) fp) ifs1 (absT Γ Z0 tt1))
    (he : ∀ (s : Shared) (H : Hp) (C : Addr) (cl : List (Str × Addr)) (fp : List Addr), PE (X.blk s H scope (compEnvC scope cl C X.env) fp) elt (absE Γ Z0 te)) (hsl : ∀ i ∈ sl, i ∈ onames.map (·.2) := by decide) (hsl1 : ∀ i ∈ sl1, i ∈ vs1 := by decide) (hs : ∀ x, foldedSetIterable iter X.env x = pure x := by intro _; rfl) (hs1 : ∀ env x, foldedSetIterable iter1 env x = pure x := by intro _ _; rfl) :
    PS X (.Assign [.Name y py] (.ListComp elt [⟨tg, iter, ifs, 0⟩, ⟨tg1, iter1, ifs1, 0⟩] scope pos) spos) (absS Γ Z (gAsg (gLc2 own gi t tt gi1 t1 tt1 te (onames.map (·.2)) vs1) (tgName i))) :=
  PS.imp (ps_setLc2 hc hN hy hyl hsw hi ok hv hg ht hi1 hg1 ht1 he hs hs1) fun D σ H q => by
    have z := asg_ok (sl := [i]) q
    have z2 : absE Γ Z (gLc2 own gi t tt gi1 t1 tt1 te (onames.map (·.2)) vs1) σ H (fun v H1 => gName i v σ H1 D.nx) := absE.mono z fun v H' ⟨c, ρ, w, e, s, en, r, q⟩ => by
      subst e
      exact q c _ (Stp.refl c) s rfl (en.set r i) ⟨List.length_set, fun j h => List.getElem?_set_ne (fun z => h (by simp [z]))⟩
    exact lc2_imp hsl hsl1 z2
end
end Fn

set_option Elab.async false
set_option linter.all false
set_option maxRecDepth 100000
namespace Fn
open PySem PySem.Spec PyProof.Rows L2

/-- what the law promises -/
def spLaw (K : PySem.W.Frag) : Sp := fun vs H Q _ => ∃ (a : Addr) (ns : List Int), vs = [.ref a] ∧ SqL K H a (ns.map V.int) ∧ ns.length ≤ 63 ∧ ∀ H', Q (.bl true) H'
def G0 : GH := ⟨0, fun _ => none⟩
theorem ints_all {Γ : Gm} {c : Cf} : ∀ ns : List Int, c.RpAll Γ (ns.map V.int) (ns.map W.int)
  | [] => .nil
  | n :: ns => .cons (.int n) (ints_all ns)
theorem law_end {K : PySem.W.Frag} {cls : Nat → Addr} {w : World} {F : FC} (hF : ∀ ns : List Int, ns.length ≤ 63 → ∃ G, F [.lst (ns.map W.int)] G0 = .ok (.bl true) G) (vs : List V) (H : Hp) (Q : VK) (E : XK) (h : spLaw K vs H Q E) : absF ⟨K, cls, w⟩ 1 F vs H Q E := by
  obtain ⟨a, ns, rfl, hS, hl, q⟩ := h
  obtain ⟨G, e⟩ := hF ns hl
  have no : ¬ (⟨[], G0, H, fun _ => False⟩ : Cf).O a := fun z => by
    rcases z with ⟨n, o, z, _⟩ | z
    · cases z
    · exact z
  refine ⟨rfl, ⟨[], G0, H, fun _ => False⟩, [.lst (ns.map W.int)], rfl, ⟨rfl, .nil, fun b z => absurd z (by simp), fun n o z => (by cases z), fun b z => z.elim⟩, .cons ?_ .nil, ?_⟩
  · rcases hS with hS | ⟨o, its, n, h1, h2, h3, h4, h5, h6⟩
    · exact .lst hS no (ints_all ns)
    · exact .lstK h1 h2 h3 h4 h5 h6 (ints_all ns)
  · rw [e]
    intro c' v st s e r
    cases r
    exact q _
theorem law_binds {K : PySem.W.Frag} {st : Stmt} {f : Addr} {fd : FuncData} (F : Fun K "law" "law" st f fd) (h : ∀ (kV doc pm : Value) (an : Option Addr) (cdv ct : Value) (v : Value), bindArgs (PySem.W.fnOf "law" "law" (defArgs st) (defBody st) (defScope st) .none kV doc pm an cdv ct) ⟨[v], []⟩ = pure [(("script" : Str), v)]) (s : Shared) (v : Value) : BindsTo s fd ⟨[v], []⟩ [("script", v)] := by
  obtain ⟨oc, od, kV, doc, pm, an, cdv, ct, osl, e, lk, hcd⟩ := F.ex
  rw [e]
  exact .of_eq (h kV doc pm an cdv ct v)
end Fn

set_option Elab.async false
set_option linter.all false
set_option maxRecDepth 100000
namespace Fn
open PySem PySem.Spec PyProof.Rows L2
/-! ### the functions, evaluated -/
section
variable {α β : Type} {ρ : En} {G : GH} {w : W}
@[simp] theorem bind_ok (a : α) (G : GH) (f : α → GH → R β) : (R.ok a G).bind f = f a G := rfl
@[simp] theorem bind_no (f : α → GH → R β) : (R.no : R α).bind f = .no := rfl
@[simp] theorem bind_ex (x : Xn) (G : GH) (f : α → GH → R β) : (R.ex x G : R α).bind f = .ex x G := rfl
@[simp] theorem thn_ok (a : α) (G : GH) (f : α → GH → RS) : (R.ok a G).thn ρ f = f a G := rfl
@[simp] theorem thn_no (f : α → GH → RS) : (R.no : R α).thn ρ f = .no := rfl
@[simp] theorem seq_nx (f : En → GH → RS) : (RS.nx ρ G).seq f = f ρ G := rfl
@[simp] theorem seq_rt (f : En → GH → RS) : (RS.rt w G).seq f = .rt w G := rfl
@[simp] theorem seq_bk (f : En → GH → RS) : (RS.bk ρ G).seq f = .bk ρ G := rfl
@[simp] theorem seq_ct (f : En → GH → RS) : (RS.ct ρ G).seq f = .ct ρ G := rfl
@[simp] theorem seq_no (f : En → GH → RS) : RS.no.seq f = .no := rfl
@[simp] theorem calm_ok (a : α) (G : GH) : (R.ok a G).calm = .ok a G := rfl
@[simp] theorem fin_rt : (RS.rt w G).fin = .ok w G := rfl
@[simp] theorem fin_nx : (RS.nx ρ G).fin = .ok .non G := rfl
theorem thn_ite {c : Prop} [Decidable c] (a b : R α) (f : α → GH → RS) : (if c then a else b).thn ρ f = if c then a.thn ρ f else b.thn ρ f := by split <;> rfl
theorem bind_ite {c : Prop} [Decidable c] (a b : R α) (f : α → GH → R β) : (if c then a else b).bind f = if c then a.bind f else b.bind f := by split <;> rfl
theorem seq_ite {c : Prop} [Decidable c] (a b : RS) (f : En → GH → RS) : (if c then a else b).seq f = if c then a.seq f else b.seq f := by split <;> rfl

@[simp] theorem gSeq_ev (a b : FS) : gSeq a b ρ G = (a ρ G).seq b := by unfold gSeq; rfl
@[simp] theorem gNext_ev : gNext ρ G = .nx ρ G := rfl
@[simp] theorem gRet_ev (g : FE) : gRet g ρ G = (g ρ G).thn ρ fun w G1 => .rt w G1 := rfl
@[simp] theorem gRetN_ev : gRetN ρ G = .rt .non G := rfl
@[simp] theorem gDrop_ev (g : FE) : gDrop g ρ G = (g ρ G).thn ρ fun _ G1 => .nx ρ G1 := rfl
@[simp] theorem gIfS_ev (t : FT) (a b : FS) : gIfS t a b ρ G = (t ρ G).thn ρ fun k G1 => if k then a ρ G1 else b ρ G1 := rfl
@[simp] theorem gAsg_ev (g : FE) (t : FG1) : gAsg g t ρ G = (g ρ G).thn ρ fun w G1 => match t w ρ G1 with
  | some (ρ', G') => .nx ρ' G'
  | none => .no := rfl
@[simp] theorem tgName_ev (i : Nat) : tgName i w ρ G = some (ρ.set i (some w), G) := rfl
@[simp] theorem tgTup_ev (n : Nat) (r : FGs) (ws : List W) : tgTup n r (.tup ws) ρ G = if ws.length = n then r ws ρ G else none := rfl
@[simp] theorem tgCons_ev (g : FG1) (r : FGs) (ws : List W) : tgCons g r (w :: ws) ρ G = match g w ρ G with
  | some (ρ', G') => r ws ρ' G'
  | none => none := rfl
@[simp] theorem tgNil_ev : tgNil [] ρ G = some (ρ, G) := rfl
@[simp] theorem gSet_ev (gv go gi : FE) : gSet gv go gi ρ G = (gv ρ G).thn ρ fun v G1 => (go ρ G1).thn ρ fun o G2 => (gi ρ G2).thn ρ fun i G3 => match fSet o i v G3 with
  | some G4 => .nx ρ G4
  | none => .no := rfl
@[simp] theorem gVar_ev {i : Nat} (h : ρ[i]? = some (some w)) : gVar i ρ G = .ok w G := by unfold gVar; rw [h]
@[simp] theorem gC_ev : gC w ρ G = .ok w G := rfl
@[simp] theorem gOp_ev (f : F2) (a b : FE) : gOp f a b ρ G = (a ρ G).bind fun x G1 => (b ρ G1).bind fun y G2 => f x y G2 := rfl
@[simp] theorem gTest_ev (g : FE) : gTest g ρ G = (g ρ G).bind asB := rfl
@[simp] theorem asB_ev (b : Bool) : asB (.bl b) G = .ok b G := rfl
@[simp] theorem gTru_ev (g : FE) : gTru g ρ G = (g ρ G).bind asTru := rfl
@[simp] theorem gNotT_ev (g : FT) : gNotT g ρ G = (g ρ G).bind fun b G => .ok (!b) G := rfl
@[simp] theorem gAndT_ev (a b : FT) : gAndT a b ρ G = (a ρ G).bind fun k G => if k then b ρ G else .ok false G := rfl
@[simp] theorem gOrT_ev (a b : FT) : gOrT a b ρ G = (a ρ G).bind fun k G => if k then .ok true G else b ρ G := rfl
@[simp] theorem gIf_ev (t : FT) (a b : FE) : gIf t a b ρ G = (t ρ G).bind fun k G => if k then a ρ G else b ρ G := rfl
@[simp] theorem gNil_ev : gNil ρ G = .ok [] G := rfl
@[simp] theorem gCons_ev (g : FE) (r : FA) : gCons g r ρ G = (g ρ G).bind fun w G1 => (r ρ G1).bind fun ws G2 => .ok (w :: ws) G2 := rfl
@[simp] theorem gCall_ev (g : FC) (a : FA) : gCall g a ρ G = (a ρ G).bind g := rfl
@[simp] theorem gAnd_ev (a b : FE) : gAnd a b ρ G = (a ρ G).bind fun x G1 => match truW G1 x with
  | some true => b ρ G1
  | some false => .ok x G1
  | none => .no := rfl
@[simp] theorem gOr_ev (a b : FE) : gOr a b ρ G = (a ρ G).bind fun x G1 => match truW G1 x with
  | some true => .ok x G1
  | some false => b ρ G1
  | none => .no := rfl
@[simp] theorem gNot_ev (a : FE) : gNot a ρ G = (a ρ G).bind fun x G1 => match truW G1 x with
  | some b => .ok (.bl (!b)) G1
  | none => .no := rfl
@[simp] theorem gNeg_ev (g : FE) : gNeg g ρ G = (g ρ G).bind fun a G1 => match a with
  | .int i => .ok (.int (-i)) G1
  | _ => .no := rfl
theorem len_le (n : Nat) (h : n ≤ 16777216 := by decide) : n ≤ sizeLine := by rw [sizeLine_eq]; exact h
@[simp] theorem gTup_ev (g : FA) : gTup g ρ G = (g ρ G).bind fun ws G1 => if ws.length ≤ sizeLine then .ok (.tup ws) G1 else .no := rfl
@[simp] theorem gLst_ev (o : Bool) (g : FA) : gLst o g ρ G = (g ρ G).bind fun ws G1 => if ws.length ≤ sizeLine then mkL o ws G1 else .no := rfl
@[simp] theorem mkL_true (ws : List W) : mkL true ws G = .ok (.ref G.n) (G.push (.lst ws)) := rfl
@[simp] theorem mkL_false (ws : List W) : mkL false ws G = .ok (.lst ws) G := rfl
@[simp] theorem cFn_ev {n : Nat} {F : FC} {ws : List W} (h : ws.length = n) : cFn n F ws G = (F ws G).calm := by unfold cFn; rw [if_pos h]
@[simp] theorem gFrz_ev (g : FE) : gFrz g ρ G = (g ρ G).bind frz := rfl
@[simp] theorem gSl_ev (o : Bool) (g : FE) (l h : FO) : gSl o g l h ρ G = (g ρ G).bind fun w G1 => (l ρ G1).bind fun i G2 => (h ρ G2).bind fun j G3 => fSl o w i j G3 := rfl
@[simp] theorem gNoPart_ev : gNoPart ρ G = .ok none G := rfl
@[simp] theorem gPart_ev (g : FE) : gPart g ρ G = (g ρ G).bind fun w G1 => match w with
  | .int i => .ok (some i) G1
  | _ => .no := rfl
@[simp] theorem gPar_ev (i j : Nat) (a : FA) : gPar i j a ρ G = (a ρ G).thn ρ fun ws G1 => match ws with
  | [a, b] => .nx ((ρ.set i (some a)).set j (some b)) G1
  | _ => .no := rfl
@[simp] theorem gFor_ev (gi : FI) (t : FG1) (b : FS) : gFor gi t b ρ G = (gi ρ G).thn ρ fun k G1 => forW t b k ρ G1 := rfl
@[simp] theorem forW_vals (t : FG1) (b : FS) (ws : List W) : forW t b (.vals ws) ρ G = forF t b ws ρ G := rfl
@[simp] theorem forW_own (t : FG1) (b : FS) (n : Nat) : forW t b (.own n) ρ G = forO n t b (lenO G n) 0 ρ G := rfl
@[simp] theorem iSeq_ev (g : FE) : iSeq g ρ G = (g ρ G).bind asSeq := rfl
@[simp] theorem asSeq_l (ws : List W) : asSeq (.lst ws) G = .ok (.vals ws) G := rfl
@[simp] theorem asSeq_t (ws : List W) : asSeq (.tup ws) G = .ok (.vals ws) G := rfl
@[simp] theorem iRng_ev (f : List W → GH → R Wk) (g : FA) : iRng f g ρ G = (g ρ G).bind f := rfl
theorem iteB {γ : Type} {b : Bool} {x y : γ} : (if b = true then x else y) = bif b then x else y := by cases b <;> rfl

/-! ### operators -/
@[simp] theorem fAdd_i (o : Bool) (i j : Int) : fAddL o (.int i) (.int j) G = .ok (.int (i + j)) G := rfl
@[simp] theorem fSub_i (i j : Int) : fSub (.int i) (.int j) G = .ok (.int (i - j)) G := rfl
@[simp] theorem fLt_i (i j : Int) : fLt (.int i) (.int j) G = .ok (.bl (decide (i < j))) G := rfl
@[simp] theorem fLe_i (i j : Int) : fLe (.int i) (.int j) G = .ok (.bl (decide (i ≤ j))) G := rfl
@[simp] theorem fGt_i (i j : Int) : fGt (.int i) (.int j) G = .ok (.bl (decide (j < i))) G := rfl
@[simp] theorem fGe_i (i j : Int) : fGe (.int i) (.int j) G = .ok (.bl (decide (j ≤ i))) G := rfl
theorem fMul_i {i j : Int} (h : (-(2 ^ 64) < i ∧ i < 2 ^ 64) ∨ (-(2 ^ 64) < j ∧ j < 2 ^ 64)) : fMul (.int i) (.int j) G = .ok (.int (i * j)) G := by
  unfold fMul
  simp only
  rw [if_pos]
  rcases h with h | h
  · exact .inl h
  · exact .inr (.inl h)
theorem fDiv_i {i j : Int} (h : 0 < j) (h2 : j.natAbs.log2 < 9000) : fDiv (.int i) (.int j) G = .ok (.int (i / j)) G := by
  unfold fDiv
  simp only
  rw [if_pos ⟨h, h2⟩]
theorem fMod_i {i j : Int} (h : 0 < j) : fMod (.int i) (.int j) G = .ok (.int (i % j)) G := by
  unfold fMod
  simp only
  rw [if_pos h]
@[simp] theorem fPow_i (i j : Int) : fPow (.int i) (.int j) G = if 0 ≤ j ∧ j ≤ 1000000 ∧ i.natAbs < 2 ^ 64 then .ok (.int (i ^ j.toNat)) G else .no := rfl
@[simp] theorem cInt_i (i : Int) : cInt [.int i] G = .ok (.int i) G := rfl
@[simp] theorem cInt_b (b : Bool) : cInt [.bl b] G = .ok (.int (if b then 1 else 0)) G := rfl
@[simp] theorem set_same {n : Nat} {o : AO} : (G.set n o).at_ n = some o := by simp [GH.set]
@[simp] theorem set_n {n : Nat} {o : AO} : (G.set n o).n = G.n := rfl
theorem set_ne {m n : Nat} {o : AO} (h : m ≠ n) : (G.set n o).at_ m = G.at_ m := by simp [GH.set, h]
@[simp] theorem set_set {n : Nat} {o u : AO} : (G.set n o).set n u = G.set n u := by
  unfold GH.set
  congr 1
  funext j
  simp only
  split <;> rfl
theorem set_self {n : Nat} {o : AO} (h : G.at_ n = some o) : G.set n o = G := by
  unfold GH.set
  cases G with
  | mk k f =>
    congr 1
    funext j
    simp only
    split
    · rename_i e; subst e; exact h.symm
    · rfl
@[simp] theorem push_same {o : AO} : (G.push o).at_ G.n = some o := by simp [GH.push]
theorem push_ne {m : Nat} {o : AO} (h : m ≠ G.n) : (G.push o).at_ m = G.at_ m := by simp [GH.push, h]
@[simp] theorem push_n {o : AO} : (G.push o).n = G.n + 1 := rfl
section
variable {a b c d e f : α} {l : List α}
@[simp] theorem atI_0 : L2.atI (a :: l) 0 = some a := L2.atI_nat (j := 0) rfl
@[simp] theorem atI_1 : L2.atI (a :: b :: l) 1 = some b := L2.atI_nat (j := 1) rfl
@[simp] theorem atI_2 : L2.atI (a :: b :: c :: l) 2 = some c := L2.atI_nat (j := 2) rfl
@[simp] theorem atI_3 : L2.atI (a :: b :: c :: d :: l) 3 = some d := L2.atI_nat (j := 3) rfl
@[simp] theorem atI_4 : L2.atI (a :: b :: c :: d :: e :: l) 4 = some e := L2.atI_nat (j := 4) rfl
@[simp] theorem atI_5 : L2.atI (a :: b :: c :: d :: e :: f :: l) 5 = some f := L2.atI_nat (j := 5) rfl
end
theorem atI_at {l : List α} {i : Int} {x : α} (h0 : 0 ≤ i) (h : l[i.toNat]? = some x) : L2.atI l i = some x := by
  have := L2.atI_nat h
  rwa [Int.toNat_of_nonneg h0] at this
def optR (o : Option W) (G : GH) : R W := match o with
  | some w => .ok w G
  | none => .no
@[simp] theorem optR_some : optR (some w) G = .ok w G := rfl
@[simp] theorem fIx_ref (n : Nat) (i : Int) : fIx (.ref n) (.int i) G = match G.at_ n with
  | some (.lst ws) => optR (L2.atI ws i) G
  | _ => .no := by
  show (match sqs G (.ref n) with | some ws => (match L2.atI ws i with | some w => R.ok w G | none => .no) | none => .no) = _
  have e : sqs G (.ref n) = lsq G (.ref n) := by unfold sqs; rfl
  rw [e]
  unfold lsq
  simp only
  cases h : G.at_ n with
  | none => rfl
  | some o => cases o <;> rfl
@[simp] theorem fIx_tup (ws : List W) (i : Int) : fIx (.tup ws) (.int i) G = optR (L2.atI ws i) G := rfl
@[simp] theorem fIx_lst (ws : List W) (i : Int) : fIx (.lst ws) (.int i) G = optR (L2.atI ws i) G := rfl
theorem fSet_ref {n j : Nat} {ws : List W} {k : Int} {v : W} (h : G.at_ n = some (.lst ws)) (e : L2.ixN ws.length k = some j) : fSet (.ref n) (.int k) v G = some (G.set n (.lst (ws.set j v))) := by
  unfold fSet
  simp only [h, e]
def setG (n : Nat) (ws : List W) (k : Int) (v : W) (G : GH) : Option GH := match L2.ixN ws.length k with
  | some j => some (G.set n (.lst (ws.set j v)))
  | none => none
@[simp] theorem fSet_ev (n : Nat) (k : Int) (v : W) : fSet (.ref n) (.int k) v G = match G.at_ n with
  | some (.lst ws) => setG n ws k v G
  | _ => none := rfl
section
variable {n : Nat} {a b c d e v : W} {l : List W}
@[simp] theorem setG_0 : setG n (a :: l) 0 v G = some (G.set n (.lst (v :: l))) := by
  unfold setG; rw [show L2.ixN (a :: l).length 0 = some 0 by unfold L2.ixN; simp]; rfl
@[simp] theorem setG_1 : setG n (a :: b :: l) 1 v G = some (G.set n (.lst (a :: v :: l))) := by
  unfold setG; rw [show L2.ixN (a :: b :: l).length 1 = some 1 by unfold L2.ixN; simp; omega]; rfl
@[simp] theorem setG_2 : setG n (a :: b :: c :: l) 2 v G = some (G.set n (.lst (a :: b :: v :: l))) := by
  unfold setG; rw [show L2.ixN (a :: b :: c :: l).length 2 = some 2 by unfold L2.ixN; simp; omega]; rfl
@[simp] theorem setG_3 : setG n (a :: b :: c :: d :: l) 3 v G = some (G.set n (.lst (a :: b :: c :: v :: l))) := by
  unfold setG; rw [show L2.ixN (a :: b :: c :: d :: l).length 3 = some 3 by unfold L2.ixN; simp; omega]; rfl
end
@[simp] theorem truW_non : truW G .non = some false := rfl
@[simp] theorem truW_bl (b : Bool) : truW G (.bl b) = some b := rfl
@[simp] theorem truW_int (i : Int) : truW G (.int i) = some (i != 0) := rfl
@[simp] theorem truW_tup (ws : List W) : truW G (.tup ws) = some (!ws.isEmpty) := rfl
@[simp] theorem truW_lst (ws : List W) : truW G (.lst ws) = some (!ws.isEmpty) := rfl
@[simp] theorem asTru_bl (b : Bool) : asTru (.bl b) G = .ok b G := rfl
@[simp] theorem asTru_lst (ws : List W) : asTru (.lst ws) G = .ok (!ws.isEmpty) G := rfl
@[simp] theorem asTru_tup (ws : List W) : asTru (.tup ws) G = .ok (!ws.isEmpty) G := rfl
@[simp] theorem cLen_lst (ws : List W) : cLen [.lst ws] G = .ok (.int ws.length) G := rfl
@[simp] theorem cLen_tup (ws : List W) : cLen [.tup ws] G = .ok (.int ws.length) G := rfl
@[simp] theorem fIsN_f (b : Bool) {a : W} {k : Bool} (h : isNon a = some k) : fIsN b a .non G = .ok (.bl (if b then !k else k)) G := by unfold fIsN; simp only [h]
@[simp] theorem fIsB_f (b : Bool) {a : W} {k : Bool} {o : Option Bool} (h : plB a = some o) : fIsB b a (.bl k) G = .ok (.bl (if b then !decide (o = some k) else decide (o = some k))) G := by unfold fIsB; simp only [h]
end
end Fn

set_option Elab.async false
set_option linter.all false
set_option maxRecDepth 100000
namespace Fn
open PySem PySem.Spec PyProof.Rows L2
/-! ### equality -/
mutual
/-- data without truth values -/
def W.nb : W → Bool
  | .non | .int _ | .str _ => true
  | .tup ws | .lst ws => W.nbs ws
  | _ => false
def W.nbs : List W → Bool
  | [] => true
  | w :: ws => W.nb w && W.nbs ws
end
mutual
theorem W.pl_of_nb : ∀ w : W, w.nb = true → w.pl = true
  | .non, _ | .int _, _ | .str _, _ => rfl
  | .tup ws, h | .lst ws, h => by simp only [W.pl]; exact W.pls_of_nbs ws (by simpa [W.nb] using h)
  | .bl _, h | .dic _ _, h | .ins _ _ _, h | .ref _, h | .op _, h | .cl _, h => by cases h
theorem W.pls_of_nbs : ∀ ws : List W, W.nbs ws = true → W.pls ws = true
  | [], _ => rfl
  | w :: ws, h => by
    simp only [W.nbs, Bool.and_eq_true] at h
    simp only [W.pls, W.pl_of_nb w h.1, W.pls_of_nbs ws h.2, Bool.and_self]
end
mutual
theorem eqW_iff : ∀ a b : W, a.nb = true → b.nb = true → (eqW a b = true ↔ a = b)
  | .non, b, _, hb => by cases b <;> first | (cases hb; done) | simp [eqW]
  | .int i, b, _, hb => by cases b <;> first | (cases hb; done) | simp [eqW]
  | .str x, b, _, hb => by cases b <;> first | (cases hb; done) | simp [eqW]
  | .tup xs, b, ha, hb => by
    cases b with
    | tup ys => simp only [eqW, W.tup.injEq]; exact eqWs_iff xs ys (by simpa [W.nb] using ha) (by simpa [W.nb] using hb)
    | _ => first | (cases hb; done) | simp [eqW]
  | .lst xs, b, ha, hb => by
    cases b with
    | lst ys => simp only [eqW, W.lst.injEq]; exact eqWs_iff xs ys (by simpa [W.nb] using ha) (by simpa [W.nb] using hb)
    | _ => first | (cases hb; done) | simp [eqW]
  | .bl _, _, h, _ | .dic _ _, _, h, _ | .ins _ _ _, _, h, _ | .ref _, _, h, _ | .op _, _, h, _ | .cl _, _, h, _ => by cases h
theorem eqWs_iff : ∀ xs ys : List W, W.nbs xs = true → W.nbs ys = true → (eqWs xs ys = true ↔ xs = ys)
  | [], [], _, _ => by simp [eqWs]
  | [], _ :: _, _, _ => by simp [eqWs]
  | _ :: _, [], _, _ => by simp [eqWs]
  | x :: xs, y :: ys, ha, hb => by
    simp only [W.nbs, Bool.and_eq_true] at ha hb
    simp only [eqWs, Bool.and_eq_true, List.cons.injEq, eqW_iff x y ha.1 hb.1, eqWs_iff xs ys ha.2 hb.2]
end
section
variable {G : GH}
@[simp] theorem fEq_i (i j : Int) : fEq (.int i) (.int j) G = .ok (.bl (decide (i = j))) G := by rw [← Bool.beq_eq_decide_eq]; rfl
@[simp] theorem fEq_s (i j : Str) : fEq (.str i) (.str j) G = .ok (.bl (decide (i = j))) G := by rw [← Bool.beq_eq_decide_eq]; rfl
@[simp] theorem fEq_b (i j : Bool) : fEq (.bl i) (.bl j) G = .ok (.bl (i == j)) G := rfl
@[simp] theorem fNe_i (i j : Int) : fNe (.int i) (.int j) G = .ok (.bl (!decide (i = j))) G := by rw [← Bool.beq_eq_decide_eq]; rfl
@[simp] theorem fNe_s (i j : Str) : fNe (.str i) (.str j) G = .ok (.bl (!decide (i = j))) G := by rw [← Bool.beq_eq_decide_eq]; rfl
@[simp] theorem fNe_b (i j : Bool) : fNe (.bl i) (.bl j) G = .ok (.bl (!(i == j))) G := rfl
@[simp] theorem isNon_int (m : Int) : Fn.isNon (.int m) = some false := rfl
@[simp] theorem isNon_non : Fn.isNon .non = some true := rfl
@[simp] theorem isNon_bl (b : Bool) : Fn.isNon (.bl b) = some false := rfl
@[simp] theorem isNon_str (b : Str) : Fn.isNon (.str b) = some false := rfl
@[simp] theorem isNon_tup (b : List W) : Fn.isNon (.tup b) = some false := rfl
@[simp] theorem isNon_lst (b : List W) : Fn.isNon (.lst b) = some false := rfl
@[simp] theorem isNon_ins (c : Nat) (f : List Str) (b : List W) : Fn.isNon (.ins c f b) = some false := rfl
theorem res_nb {w : W} (h : w.nb = true) : res G w = w := by
  cases w with
  | ref n => cases h
  | _ => rfl
theorem fEq_nb {a b : W} (ha : a.nb = true) (hb : b.nb = true) (hd : min a.dep b.dep ≤ 60) : fEq a b G = .ok (.bl (eqW a b)) G := by
  unfold fEq eqOk
  rw [res_nb ha, res_nb hb, W.pl_of_nb a ha, W.pl_of_nb b hb, decide_eq_true hd]
  rfl
theorem fNe_nb {a b : W} (ha : a.nb = true) (hb : b.nb = true) (hd : min a.dep b.dep ≤ 60) : fNe a b G = .ok (.bl (!eqW a b)) G := by
  unfold fNe eqOk
  rw [res_nb ha, res_nb hb, W.pl_of_nb a ha, W.pl_of_nb b hb, decide_eq_true hd]
  rfl
theorem cIsa_nb {w : W} {T : String} {b : Bool} (h : w.nb = true) (e : isaW T w = some b) : cIsa [w, .op (.ty T)] G = .ok (.bl b) G := by
  unfold cIsa
  simp only [res_nb h, W.pl_of_nb w h, e, if_true]
theorem eqW_self {a : W} (ha : a.nb = true) : eqW a a = true := (eqW_iff a a ha ha).mpr rfl
theorem eqW_ne {a b : W} (ha : a.nb = true) (hb : b.nb = true) (h : a ≠ b) : eqW a b = false := by
  cases e : eqW a b with
  | false => rfl
  | true => exact absurd ((eqW_iff a b ha hb).mp e) h
theorem eqW_comm {a b : W} (ha : a.nb = true) (hb : b.nb = true) : eqW a b = eqW b a := by
  cases e : eqW a b with
  | true => rw [(eqW_iff a b ha hb).mp e, eqW_self hb]
  | false => rw [eqW_ne hb ha (fun z => by rw [z, eqW_self ha] at e; cases e)]
theorem str_inj {a b : String} : Str.ofString a = Str.ofString b ↔ a = b := by
  refine ⟨fun h => ?_, fun h => by rw [h]⟩
  rw [Str.ofString_eq_toList, Str.ofString_eq_toList, Str.mk.injEq] at h
  have h2 : a.toList.map Char.toNat = b.toList.map Char.toNat := by
    have := congrArg Array.toList h
    simpa using this
  have inj : ∀ (x y : List Char), x.map Char.toNat = y.map Char.toNat → x = y := by
    intro x
    induction x with
    | nil => intro y h; cases y with
      | nil => rfl
      | cons _ _ => simp at h
    | cons c x ih => intro y h; cases y with
      | nil => simp at h
      | cons d y =>
        simp only [List.map_cons, List.cons.injEq] at h
        rw [ih y h.2, Char.ext (UInt32.toNat_inj.mp h.1)]
  exact String.toList_inj.mp (inj _ _ h2)
@[simp] theorem str_lit {a b : String} : (Str.ofString a = Str.ofString b) = (a = b) := propext str_inj
theorem lens (n : Nat) (h : n ≤ 1000 := by decide) : n ≤ sizeLine := by rw [sizeLine_eq]; omega
end
end Fn

set_option Elab.async false
set_option linter.all false
set_option maxRecDepth 100000
namespace Fn
open PySem PySem.Spec PyProof.Rows L2
/-! ### loops, evaluated -/
section
variable {ρ ρw : En} {G : GH} {w : W}
@[simp] theorem forF_nil (t : FG1) (b : FS) : forF t b [] ρ G = .nx ρ G := rfl
theorem forF_nx {t : FG1} {b : FS} {ws : List W} {ρ1 ρ2 : En} {G1 G2 : GH} (e : t w ρ G = some (ρ1, G1)) (h : b ρ1 G1 = .nx ρ2 G2) : forF t b (w :: ws) ρ G = forF t b ws ρ2 G2 := by
  simp only [forF, turnF, e, h]
theorem forF_ct {t : FG1} {b : FS} {ws : List W} {ρ1 ρ2 : En} {G1 G2 : GH} (e : t w ρ G = some (ρ1, G1)) (h : b ρ1 G1 = .ct ρ2 G2) : forF t b (w :: ws) ρ G = forF t b ws ρ2 G2 := by
  simp only [forF, turnF, e, h]
theorem forF_rt {t : FG1} {b : FS} {ws : List W} {ρ1 : En} {v : W} {G1 G2 : GH} (e : t w ρ G = some (ρ1, G1)) (h : b ρ1 G1 = .rt v G2) : forF t b (w :: ws) ρ G = .rt v G2 := by
  simp only [forF, turnF, e, h]
theorem forF_bk {t : FG1} {b : FS} {ws : List W} {ρ1 ρ2 : En} {G1 G2 : GH} (e : t w ρ G = some (ρ1, G1)) (h : b ρ1 G1 = .bk ρ2 G2) : forF t b (w :: ws) ρ G = .nx ρ2 G2 := by
  simp only [forF, turnF, e, h]
/-- what holds ahead of each turn -/
theorem for_inv {t : FG1} {b : FS} (I : En → GH → Prop) : ∀ (ws : List W), (∀ w ∈ ws, ∀ ρ G, I ρ G → ∃ ρ1 G1 ρ2 G2, t w ρ G = some (ρ1, G1) ∧ (b ρ1 G1 = .nx ρ2 G2 ∨ b ρ1 G1 = .ct ρ2 G2) ∧ I ρ2 G2) →
    ∀ ρ G, I ρ G → ∃ ρ' G', forF t b ws ρ G = .nx ρ' G' ∧ I ρ' G'
  | [], _, ρ, G, h => ⟨ρ, G, rfl, h⟩
  | w :: ws, st, ρ, G, h => by
    obtain ⟨ρ1, G1, ρ2, G2, e1, e2, h2⟩ := st w (List.mem_cons_self) ρ G h
    obtain ⟨ρ', G', e3, h3⟩ := for_inv I ws (fun w m => st w (List.mem_cons_of_mem _ m)) ρ2 G2 h2
    rcases e2 with e2 | e2
    · exact ⟨ρ', G', by rw [forF_nx e1 e2]; exact e3, h3⟩
    · exact ⟨ρ', G', by rw [forF_ct e1 e2]; exact e3, h3⟩
/-- what holds ahead of each turn, with its number -/
theorem for_invN {t : FG1} {b : FS} (I : Nat → En → GH → Prop) : ∀ (ws : List W) (i : Nat), (∀ j w, ws[j]? = some w → ∀ ρ G, I (i + j) ρ G → ∃ ρ1 G1 ρ2 G2, t w ρ G = some (ρ1, G1) ∧ (b ρ1 G1 = .nx ρ2 G2 ∨ b ρ1 G1 = .ct ρ2 G2) ∧ I (i + j + 1) ρ2 G2) →
    ∀ ρ G, I i ρ G → ∃ ρ' G', forF t b ws ρ G = .nx ρ' G' ∧ I (i + ws.length) ρ' G'
  | [], i, _, ρ, G, h => ⟨ρ, G, rfl, h⟩
  | w :: ws, i, st, ρ, G, h => by
    obtain ⟨ρ1, G1, ρ2, G2, e1, e2, h2⟩ := st 0 w rfl ρ G h
    obtain ⟨ρ', G', e3, h3⟩ := for_invN I ws (i + 1) (fun j w m ρ G q => by
      have := st (j + 1) w (by simpa using m) ρ G (by rw [show i + (j + 1) = i + 1 + j by omega]; exact q)
      rwa [show i + (j + 1) + 1 = i + 1 + j + 1 by omega] at this) ρ2 G2 h2
    have h3 : I (i + (w :: ws).length) ρ' G' := by rw [show i + (w :: ws).length = i + 1 + ws.length by rw [List.length_cons]; omega]; exact h3
    rcases e2 with e2 | e2
    · exact ⟨ρ', G', by rw [forF_nx e1 e2]; exact e3, h3⟩
    · exact ⟨ρ', G', by rw [forF_ct e1 e2]; exact e3, h3⟩
@[simp] theorem lcW_vals (t : FG1) (tt : FT) (te : FE) (ws : List W) : lcW t tt te ρw (.vals ws) G = lcF t tt te ρw ws G := rfl
@[simp] theorem lcW_own (t : FG1) (tt : FT) (te : FE) (n : Nat) : lcW t tt te ρw (.own n) G = lcO n t tt te ρw (lenO G n) 0 G := rfl
@[simp] theorem gYes_ev : gYes ρ G = .ok true G := rfl
@[simp] theorem gLc_ev (own : Bool) (gi : FI) (t : FG1) (tt : FT) (te : FE) (vs : List Nat) : gLc own gi t tt te vs ρ G = (gi ρ G).bind fun k G1 => (lcW t tt te (wipeW ρ vs) k G1).calm.bind fun r G2 => if r.length ≤ sizeLine then mkL own r G2 else .no := rfl
/-- a list comprehension with no test and no effect, as a map -/
theorem lc_map {t : FG1} {te : FE} (f : W → W) : ∀ (ws : List W), (∀ w ∈ ws, ∃ ρ1, t w ρw G = some (ρ1, G) ∧ te ρ1 G = .ok (f w) G) → lcF t gYes te ρw ws G = .ok (ws.map f) G
  | [], _ => rfl
  | w :: ws, st => by
    obtain ⟨ρ1, e1, e2⟩ := st w (List.mem_cons_self)
    have ih := lc_map f ws fun w m => st w (List.mem_cons_of_mem _ m)
    rw [lcF, lcTurn, e1]
    simp [e2, ih, addO]
/-- a list comprehension with a test and no effect -/
theorem lc_filter {t : FG1} {tt : FT} {te : FE} (p : W → Bool) (f : W → W) : ∀ (ws : List W), (∀ w ∈ ws, ∃ ρ1, t w ρw G = some (ρ1, G) ∧ tt ρ1 G = .ok (p w) G ∧ (p w = true → te ρ1 G = .ok (f w) G)) → lcF t tt te ρw ws G = .ok ((ws.filter p).map f) G
  | [], _ => rfl
  | w :: ws, st => by
    obtain ⟨ρ1, e1, e2, e3⟩ := st w (List.mem_cons_self)
    have ih := lc_filter p f ws fun w m => st w (List.mem_cons_of_mem _ m)
    rw [lcF, lcTurn, e1]
    cases h : p w with
    | true => simp [e2, e3 h, ih, addO, h]
    | false => simp [e2, ih, addO, h]
@[simp] theorem fSl_lst (own : Bool) (ws : List W) (i j : Option Int) : fSl own (.lst ws) i j G = mkL own (cutW ws i j) G := rfl
@[simp] theorem fSl_tup (own : Bool) (ws : List W) (i j : Option Int) : fSl own (.tup ws) i j G = .ok (.tup (cutW ws i j)) G := rfl
theorem cut_all {ws : List W} {k : Nat} (h : ws.length ≤ k) : cutW ws none (some (k : Int)) = ws := by
  unfold cutW
  rw [HT.sIx_nat, HT.sIx_none, List.drop_zero, Nat.min_eq_right h, Nat.sub_zero, List.take_length]
@[simp] theorem asRng1_ev (j : Int) : asRng1 [.int j] G = if small62 j then .ok (.vals (rngW 0 j.toNat)) G else .no := rfl
/-- an owned list that no turn changes is walked like its items -/
theorem lcO_eq {n : Nat} {us : List W} {t : FG1} {tt : FT} {te : FE} (h : G.at_ n = some (.lst us)) (st : ∀ w ∈ us, ∃ o, lcTurn t tt te ρw w G = .ok o G) : ∀ k i, i + k = us.length → lcO n t tt te ρw k i G = lcF t tt te ρw (us.drop i) G
  | 0, i, e => by
    unfold lcO
    simp only [h]
    rw [if_pos (by omega), List.drop_eq_nil_of_le (by omega)]
    rfl
  | k + 1, i, e => by
    have hi : i < us.length := by omega
    obtain ⟨o, eo⟩ := st us[i] (List.getElem_mem hi)
    unfold lcO
    simp only [h, List.getElem?_eq_getElem hi]
    rw [List.drop_eq_getElem_cons hi, lcF, eo]
    simp only [bind_ok]
    rw [lcO_eq h st k (i + 1) (by omega)]
@[simp] theorem lenO_at {n : Nat} {us : List W} (h : G.at_ n = some (.lst us)) : lenO G n = us.length := by unfold lenO; rw [h]
/-- a value, or an owned list, of these items -/
def Sqs (G : GH) (w : W) (us : List W) : Prop := w = .lst us ∨ ∃ n, w = .ref n ∧ G.at_ n = some (.lst us)
theorem lc_over {w : W} {us : List W} {t : FG1} {tt : FT} {te : FE} {α : Type} {f : List W → GH → R α} (h : Sqs G w us) (st : ∀ w ∈ us, ∃ o, lcTurn t tt te ρw w G = .ok o G) : ((asSeq w G).bind fun k G1 => (lcW t tt te ρw k G1).calm.bind f) = (lcF t tt te ρw us G).calm.bind f := by
  rcases h with rfl | ⟨n, rfl, h⟩
  · rfl
  · unfold asSeq
    simp only [h, bind_ok, lcW_own, lenO_at h]
    rw [lcO_eq h st us.length 0 (by omega), List.drop_zero]
/-- over an owned list that every turn keeps -/
theorem forO_inv {n : Nat} {us : List W} {t : FG1} {b : FS} (I : En → GH → Prop) (hI : ∀ ρ G, I ρ G → G.at_ n = some (.lst us)) (st : ∀ w ∈ us, ∀ ρ G, I ρ G → ∃ ρ1 G1 ρ2 G2, t w ρ G = some (ρ1, G1) ∧ (b ρ1 G1 = .nx ρ2 G2 ∨ b ρ1 G1 = .ct ρ2 G2) ∧ I ρ2 G2) :
    ∀ k i, i + k = us.length → ∀ ρ G, I ρ G → ∃ ρ' G', forO n t b k i ρ G = .nx ρ' G' ∧ I ρ' G'
  | 0, i, e, ρ, G, h => by
    unfold forO
    simp only [hI ρ G h]
    rw [if_pos (by omega)]
    exact ⟨ρ, G, rfl, h⟩
  | k + 1, i, e, ρ, G, h => by
    have hi : i < us.length := by omega
    obtain ⟨ρ1, G1, ρ2, G2, e1, e2, h2⟩ := st us[i] (List.getElem_mem hi) ρ G h
    obtain ⟨ρ', G', e3, h3⟩ := forO_inv I hI st k (i + 1) (by omega) ρ2 G2 h2
    unfold forO turnF
    simp only [hI ρ G h, List.getElem?_eq_getElem hi, e1]
    rcases e2 with e2 | e2
    · simp only [e2]; exact ⟨ρ', G', e3, h3⟩
    · simp only [e2]; exact ⟨ρ', G', e3, h3⟩
/-! ### calls, evaluated -/
@[simp] theorem gMt_ev (T : String) (g : W → List W → GH → R W) (go : FE) (ga : FA) : gMt T g go ga ρ G = (go ρ G).bind fun o G1 => if isTy T G1 o then (ga ρ G1).bind fun ws G2 => g o ws G2 else .no := rfl
theorem isTy_at {n : Nat} {us : List W} (h : G.at_ n = some (.lst us)) : isTy "list" G (.ref n) = true := by unfold isTy; simp only [h]; rfl
@[simp] theorem isTy_str (x : Str) : isTy "str" G (.str x) = true := rfl
theorem lw_at {n : Nat} {us : List W} (h : G.at_ n = some (.lst us)) : lw G (.ref n) = some (n, us) := by unfold lw; simp only [h]
theorem mAppend_at {n : Nat} {us : List W} (h : G.at_ n = some (.lst us)) (hl : us.length < 1000000) : mAppend (.ref n) [w] G = .ok .non (G.set n (.lst (us ++ [w]))) := by
  unfold mAppend; simp only [lw_at h]; rw [if_pos (by rw [sizeLine_eq]; omega)]
theorem mInsert_at {n : Nat} {us : List W} {i : Int} (h : G.at_ n = some (.lst us)) (hl : us.length < 1000000) (h0 : 0 ≤ i) (h1 : i < 2 ^ 63) : mInsert (.ref n) [.int i, w] G = .ok .non (G.set n (.lst (us.take i.toNat ++ [w] ++ us.drop i.toNat))) := by
  unfold mInsert; simp only [lw_at h]; rw [if_pos ⟨by rw [sizeLine_eq]; omega, h0, h1⟩]
theorem mPop_at {n : Nat} {us : List W} (h : G.at_ n = some (.lst (us ++ [w]))) : mPop (.ref n) [] G = .ok w (G.set n (.lst us)) := by
  unfold mPop; simp only [lw_at h]
  simp
theorem mReverse_at {n : Nat} {us : List W} (h : G.at_ n = some (.lst us)) : mReverse (.ref n) [] G = .ok .non (G.set n (.lst us.reverse)) := by
  unfold mReverse; simp only [lw_at h]
@[simp] theorem cList_lst (o : Bool) (us : List W) : cList o [.lst us] G = mkL o us G := rfl
@[simp] theorem cList_tup (o : Bool) (us : List W) : cList o [.tup us] G = mkL o us G := rfl
@[simp] theorem cTuple_lst (us : List W) : cTuple [.lst us] G = .ok (.tup us) G := rfl
@[simp] theorem cTuple_tup (us : List W) : cTuple [.tup us] G = .ok (.tup us) G := rfl
theorem cTuple_at {n : Nat} {us : List W} (h : G.at_ n = some (.lst us)) : cTuple [.ref n] G = .ok (.tup us) G := by
  unfold cTuple sqs tsq lsq; simp only [h]
theorem cList_at {n : Nat} {us : List W} (o : Bool) (h : G.at_ n = some (.lst us)) : cList o [.ref n] G = mkL o us G := by
  unfold cList sqs tsq lsq; simp only [h]
theorem cLen_at {n : Nat} {us : List W} (h : G.at_ n = some (.lst us)) : cLen [.ref n] G = .ok (.int us.length) G := by
  unfold cLen sqs tsq lsq; simp only [h]
@[simp] theorem cAny_lst (bs : List Bool) : cAny [.lst (bs.map W.bl)] G = .ok (.bl (bs.any id)) G := by
  show (match blsOf (bs.map W.bl) with | some bs => R.ok (W.bl (bs.any id)) G | none => .no) = _
  rw [blsOf_map]
@[simp] theorem gCallK_ev (g : FCK) (ga gk : FA) : gCallK g ga gk ρ G = (ga ρ G).bind fun ws G1 => (gk ρ G1).bind fun us G2 => g ws us G2 := rfl
@[simp] theorem cBest_lst (f : Int → Int → Int) (d : W) (ns : List Int) : cBest f [.lst (ns.map W.int)] [d] G = .ok (bestW f d ns) G := by
  show (match intsOf (ns.map W.int) with | some ns => R.ok (bestW f d ns) G | none => .no) = _
  rw [intsOf_map]
theorem min_le {k : Int} : ∀ (ns : List Int) (m : Int), ns.foldl min m ≤ k ↔ m ≤ k ∨ ∃ n ∈ ns, n ≤ k
  | [], m => by simp
  | n :: ns, m => by
    rw [List.foldl_cons, min_le ns]
    constructor
    · rintro (h | ⟨x, hx, h⟩)
      · by_cases q : m ≤ n
        · exact .inl (by omega)
        · exact .inr ⟨n, List.mem_cons_self, by omega⟩
      · exact .inr ⟨x, List.mem_cons_of_mem _ hx, h⟩
    · rintro (h | ⟨x, hx, h⟩)
      · exact .inl (by omega)
      · rcases List.mem_cons.mp hx with rfl | hx
        · exact .inl (by omega)
        · exact .inr ⟨x, hx, h⟩
theorem frz_at {n : Nat} {us : List W} (h : G.at_ n = some (.lst us)) : frz (.ref n) G = .ok (.lst us) (G.del n) := by unfold frz; simp only [h]
theorem cut_at {ws : List W} {k : Nat} : cutW ws none (some (k : Int)) = ws.take k := by
  unfold cutW
  rw [HT.sIx_nat, HT.sIx_none, List.drop_zero, Nat.sub_zero, List.take_eq_take_iff]
  omega
theorem cut_from {ws : List W} {k : Nat} : cutW ws (some (k : Int)) none = ws.drop k := by
  unfold cutW
  rw [HT.sIx_nat, HT.sIx_none]
  by_cases h : k ≤ ws.length
  · rw [Nat.min_eq_left h]
    exact List.take_of_length_le (by rw [List.length_drop]; omega)
  · rw [Nat.min_eq_right (by omega), List.drop_length, List.drop_eq_nil_of_le (by omega), List.take_nil]
end
end Fn

set_option Elab.async false
set_option linter.all false
set_option maxRecDepth 100000
namespace Fn
open PySem PySem.Spec PyProof.Rows L2
/-! ### steps, with the functions as variables (so that no check unfolds them) -/
section
variable {G G0 : GH} {ρw : En} {n : Nat}
def Grow (G G' : GH) : Prop := G.n ≤ G'.n ∧ ∀ m, m < G.n → G'.at_ m = G.at_ m
theorem Grow.refl (G : GH) : Grow G G := ⟨Nat.le_refl _, fun _ _ => rfl⟩
theorem Grow.trans {A B C : GH} (x : Grow A B) (y : Grow B C) : Grow A C := ⟨Nat.le_trans x.1 y.1, fun m h => (y.2 m (Nat.lt_of_lt_of_le h x.1)).trans (x.2 m h)⟩
theorem Grow.push (G : GH) (o : AO) : Grow G (G.push o) := ⟨Nat.le_succ _, fun m h => push_ne (by omega)⟩
theorem Grow.set {G G' : GH} (x : Grow G G') {n : Nat} (hn : G.n ≤ n) (o : AO) : Grow G (G'.set n o) := ⟨x.1, fun m h => by rw [set_ne (by omega)]; exact x.2 m h⟩
theorem Grow.del {G G' : GH} (x : Grow G G') {n : Nat} (hn : G.n ≤ n) : Grow G (G'.del n) := ⟨x.1, fun m h => by
  unfold GH.del
  simp only
  rw [if_neg (by omega)]; exact x.2 m h⟩
theorem small_ok {n : Int} (h0 : 0 ≤ n) (h : n < 2 ^ 61) : small62 n = true := by unfold small62; simp; omega
theorem push_set {o u : AO} : (G.push o).set G.n u = G.push u := by
  unfold GH.push GH.set
  congr 1
  funext j
  simp only
  split <;> rfl
theorem lc_on {α : Type} {t : FG1} {te : FE} (u g : α → W) : ∀ (l : List α), (∀ a ∈ l, ∃ ρ1, t (u a) ρw G = some (ρ1, G) ∧ te ρ1 G = .ok (g a) G) → lcF t gYes te ρw (l.map u) G = .ok (l.map g) G
  | [], _ => rfl
  | a :: l, st => by
    obtain ⟨ρ1, e1, e2⟩ := st a (List.mem_cons_self)
    have ih := lc_on u g l fun w m => st w (List.mem_cons_of_mem _ m)
    rw [List.map_cons, lcF, lcTurn, e1]
    simp [e2, ih, addO]
theorem lc_run {α : Type} {t : FG1} {te : FE} (P : GH → Prop) (u g : α → W) : ∀ (l : List α), (∀ a ∈ l, ∀ G, P G → ∃ ρ1 G1, t (u a) ρw G = some (ρ1, G) ∧ te ρ1 G = .ok (g a) G1 ∧ P G1) → ∀ G, P G → ∃ G', lcF t gYes te ρw (l.map u) G = .ok (l.map g) G' ∧ P G'
  | [], _, G, h => ⟨G, rfl, h⟩
  | a :: l, st, G, h => by
    obtain ⟨ρ1, G1, e1, e2, h1⟩ := st a (List.mem_cons_self) G h
    obtain ⟨G', e3, h3⟩ := lc_run P u g l (fun w m => st w (List.mem_cons_of_mem _ m)) G1 h1
    refine ⟨G', ?_, h3⟩
    rw [List.map_cons, lcF, lcTurn, e1]
    simp [e2, e3, addO]
theorem cAll_bl (bs : List Bool) : cAll [.lst (bs.map W.bl)] G = .ok (.bl (bs.all id)) G := by
  show (match blsOf (bs.map W.bl) with | some bs => R.ok (W.bl (bs.all id)) G | none => .no) = _
  rw [blsOf_map]
theorem frz_non : frz .non G = .ok .non G := rfl
theorem rng_ok {m : Nat} (hz : m ≤ 100000) : asRng1 [.int (m : Int)] G = .ok (.vals (rngW 0 m)) G := by
  rw [asRng1_ev, if_pos (small_ok (by omega) (by omega)), Int.toNat_natCast]
theorem for_rng {f : List W → GH → R Wk} {ga : FA} {t : FG1} {b : FS} {ρ : En} {us vs : List W} {G G1 G2 : GH} (h1 : ga ρ G = .ok us G1) (h2 : f us G1 = .ok (.vals vs) G2) : gFor (iRng f ga) t b ρ G = forF t b vs ρ G2 := by
  rw [gFor_ev, iRng_ev, h1, bind_ok, h2, thn_ok, forW_vals]
theorem forO_nx {n : Nat} {t : FG1} {b : FS} {us : List W} {w : W} {k i : Nat} {ρ ρ1 ρ2 : En} {G G1 G2 : GH} (h : G.at_ n = some (.lst us)) (hi : us[i]? = some w) (e : t w ρ G = some (ρ1, G1)) (e2 : b ρ1 G1 = .nx ρ2 G2) : forO n t b (k + 1) i ρ G = forO n t b k (i + 1) ρ2 G2 := by
  simp only [forO, turnF, h, hi, e, e2]
theorem forO_rt {n : Nat} {t : FG1} {b : FS} {us : List W} {w v : W} {k i : Nat} {ρ ρ1 : En} {G G1 G2 : GH} (h : G.at_ n = some (.lst us)) (hi : us[i]? = some w) (e : t w ρ G = some (ρ1, G1)) (e2 : b ρ1 G1 = .rt v G2) : forO n t b (k + 1) i ρ G = .rt v G2 := by
  simp only [forO, turnF, h, hi, e, e2]
theorem forO_0 {n : Nat} {t : FG1} {b : FS} {us : List W} {i : Nat} {ρ : En} {G : GH} (h : G.at_ n = some (.lst us)) (hi : us.length ≤ i) : forO n t b 0 i ρ G = .nx ρ G := by
  simp only [forO, h, hi, if_true]
theorem add_tup {u v : List W} (h : u.length + v.length ≤ 1000000) : fAddL false (.tup u) (.tup v) G = .ok (.tup (u ++ v)) G := by
  unfold fAddL
  simp only
  rw [if_pos (by rw [sizeLine_eq]; omega)]
structure One (G0 G : GH) (n : Nat) (us : List W) : Prop where
  grow : Grow G0 G
  r : G.at_ n = some (.lst us)
  a : G0.n ≤ n
  b : n < G.n
theorem One.more {n : Nat} {us : List W} (h : One G0 G n us) {G' : GH} (g : Grow G G') : One G0 G' n us := ⟨h.grow.trans g, (g.2 _ h.b).trans h.r, h.a, Nat.lt_of_lt_of_le h.b g.1⟩
theorem One.set {n : Nat} {us : List W} (h : One G0 G n us) (vs : List W) : One G0 (G.set n (.lst vs)) n vs := ⟨h.grow.set h.a _, set_same, h.a, h.b⟩
theorem One.new (G : GH) (us : List W) : One G (G.push (.lst us)) G.n us := ⟨Grow.push G _, push_same, Nat.le_refl _, Nat.lt_succ_self _⟩
theorem extend_at {n : Nat} {us vs : List W} (h : G.at_ n = some (.lst us)) (hl : us.length + vs.length ≤ 1000000) : mExtend (.ref n) [.tup vs] G = .ok .non (G.set n (.lst (us ++ vs))) := by
  unfold mExtend
  simp only [lw_at h]
  show (if us.length + vs.length ≤ sizeLine then R.ok W.non (G.set n (.lst (us ++ vs))) else .no) = _
  rw [if_pos (by rw [sizeLine_eq]; omega)]
theorem gAug_ev {i : Nat} {f : F2} {g : FE} {ρ : En} {a : W} (h : ρ[i]? = some (some a)) : gAug i f g ρ G = (g ρ G).thn ρ fun b G1 => (f a b G1).thn ρ fun w G2 => .nx (ρ.set i (some w)) G2 := by
  unfold gAug
  rw [h]
theorem One.push {m : Nat} {us : List W} (T : One G0 G m us) (vs : List W) : One G0 (G.push (.lst vs)) G.n vs := ⟨T.grow.trans (Grow.push G _), push_same, T.grow.1, Nat.lt_succ_self _⟩
theorem rngW_map : ∀ (n : Nat) (i : Nat), rngW (i : Int) n = (List.range' i n).map fun (k : Nat) => W.int (k : Int)
  | 0, i => rfl
  | n + 1, i => by
    rw [rngW, List.range'_succ, List.map_cons, show (i : Int) + 1 = ((i + 1 : Nat) : Int) by omega, rngW_map n (i + 1)]
theorem rngW0 (n : Nat) : rngW 0 n = (List.range n).map fun (k : Nat) => W.int (k : Int) := by
  rw [List.range_eq_range']
  exact rngW_map n 0
theorem rng_n {n : Nat} (hn : n ≤ 1000) : asRng1 [.int (n : Int)] G = .ok (.vals ((List.range n).map fun (k : Nat) => W.int (k : Int))) G := by
  rw [rng_ok (by omega), rngW0]
theorem lcI {own : Bool} {f : List W → GH → R Wk} {ga : FA} {t : FG1} {te : FE} {vs : List Nat} {ρ : En} {us ws rs : List W} {G G1 G2 G3 : GH} (h1 : ga ρ G = .ok us G1) (h2 : f us G1 = .ok (.vals ws) G2) (h3 : lcF t gYes te (wipeW ρ vs) ws G2 = .ok rs G3) (hl : rs.length ≤ 1000000) : gLc own (iRng f ga) t gYes te vs ρ G = mkL own rs G3 := by
  rw [gLc_ev, iRng_ev, h1, bind_ok, h2, bind_ok, lcW_vals, h3, calm_ok, bind_ok, if_pos (by rw [sizeLine_eq]; omega)]
theorem lcS {own : Bool} {gi : FE} {t : FG1} {te : FE} {vs : List Nat} {ρ : En} {w : W} {ws rs : List W} {G G1 G2 G3 : GH} (h1 : gi ρ G = .ok w G1) (h2 : asSeq w G1 = .ok (.vals ws) G2) (h3 : lcF t gYes te (wipeW ρ vs) ws G2 = .ok rs G3) (hl : rs.length ≤ 1000000) : gLc own (iSeq gi) t gYes te vs ρ G = mkL own rs G3 := by
  rw [gLc_ev, iSeq_ev, h1, bind_ok, h2, bind_ok, lcW_vals, h3, calm_ok, bind_ok, if_pos (by rw [sizeLine_eq]; omega)]
theorem cSum_ints (ns : List Int) : cSum [.lst (ns.map W.int)] G = .ok (.int ns.sum) G := by
  show (match intsOf (ns.map W.int) with | some ns => R.ok (W.int ns.sum) G | none => .no) = _
  rw [intsOf_map]
theorem asg_nx {g : FE} {i : Nat} {k : FS} {ρ : En} {w : W} {G1 : GH} (e : g ρ G = .ok w G1) : gSeq (gAsg g (tgName i)) k ρ G = k (ρ.set i (some w)) G1 := by
  rw [gSeq_ev, gAsg_ev, e, thn_ok, tgName_ev]
  rfl
theorem ixn {len k : Nat} (h : k < len) : L2.ixN len (k : Int) = some k := by unfold L2.ixN; simp; omega
theorem add1_ev (ga gb : FE) {ρ : En} {i j : Int} {G1 G2 : GH} (h1 : ga ρ G = .ok (.int i) G1) (h2 : gb ρ G1 = .ok (.int j) G2) : gOp (fAddL false) ga gb ρ G = .ok (.int (i + j)) G2 := by
  rw [gOp_ev, h1, bind_ok, h2, bind_ok, fAdd_i]
theorem seq_if_t {t : FT} {a b k : FS} {ρ : En} {G1 : GH} (e : t ρ G = .ok true G1) : gSeq (gIfS t a b) k ρ G = (a ρ G1).seq k := by
  rw [gSeq_ev, gIfS_ev, e, thn_ok, if_pos rfl]
theorem seq_if_f {t : FT} {a b k : FS} {ρ : En} {G1 : GH} (e : t ρ G = .ok false G1) : gSeq (gIfS t a b) k ρ G = (b ρ G1).seq k := by
  rw [gSeq_ev, gIfS_ev, e, thn_ok, if_neg (by decide)]
theorem asg_only {g : FE} {i : Nat} {ρ : En} {w : W} {G1 : GH} (e : g ρ G = .ok w G1) : gAsg g (tgName i) ρ G = .nx (ρ.set i (some w)) G1 := by
  rw [gAsg_ev, e, thn_ok, tgName_ev]
theorem call1 {f : FC} {g : FE} {ρ : En} {w v : W} {G1 G2 : GH} (h1 : g ρ G = .ok w G1) (h2 : f [w] G1 = .ok v G2) : gCall (cFn 1 f) (gCons g gNil) ρ G = .ok v G2 := by
  rw [gCall_ev, gCons_ev, h1, bind_ok, gNil_ev, bind_ok, bind_ok, cFn_ev (n := 1) (ws := [w]) rfl, h2, calm_ok]
theorem op2 {f : F2} {a b : FE} {ρ : En} {u v w : W} {G1 G2 G3 : GH} (h1 : a ρ G = .ok u G1) (h2 : b ρ G1 = .ok v G2) (h3 : f u v G2 = .ok w G3) : gOp f a b ρ G = .ok w G3 := by
  rw [gOp_ev, h1, bind_ok, h2, bind_ok, h3]
theorem tst {g : FE} {ρ : En} {b : Bool} {G1 : GH} (h : g ρ G = .ok (.bl b) G1) : gTest g ρ G = .ok b G1 := by rw [gTest_ev, h, bind_ok, asB_ev]
theorem tru {g : FE} {ρ : En} {b : Bool} {G1 : GH} (h : g ρ G = .ok (.bl b) G1) : gTru g ρ G = .ok b G1 := by rw [gTru_ev, h, bind_ok, asTru_bl]
theorem notT {t : FT} {ρ : En} {b : Bool} {G1 : GH} (h : t ρ G = .ok b G1) : gNotT t ρ G = .ok (!b) G1 := by rw [gNotT_ev, h, bind_ok]
theorem orF {t u : FT} {ρ : En} {b : Bool} {G1 G2 : GH} (h : t ρ G = .ok false G1) (h2 : u ρ G1 = .ok b G2) : gOrT t u ρ G = .ok b G2 := by rw [gOrT_ev, h, bind_ok, if_neg (by decide), h2]
theorem vr {i : Nat} {ρ : En} {w : W} (h : ρ[i]? = some (some w)) : gVar i ρ G = .ok w G := gVar_ev h
theorem andV {a b : FE} {ρ : En} {k : Bool} {G1 G2 : GH} (h : a ρ G = .ok (.bl true) G1) (h2 : b ρ G1 = .ok (.bl k) G2) : gAnd a b ρ G = .ok (.bl k) G2 := by
  rw [gAnd_ev, h, bind_ok]
  exact h2
theorem if_only_f {t : FT} {a b : FS} {ρ : En} {G1 : GH} (e : t ρ G = .ok false G1) : gIfS t a b ρ G = b ρ G1 := by
  rw [gIfS_ev, e, thn_ok, if_neg (by decide)]
end
end Fn

set_option Elab.async false
set_option linter.all false
set_option maxRecDepth 100000
set_option maxHeartbeats 4000000
namespace Lw
open PySem PySem.Spec PyProof.Rows L2 Fn
def topS (i : Nat) : Stmt := PySem.Challenge.pw_swornlike_k45_texts_of_papers.main.body.getD i (.Pass ⟨0, 0, 0, 0⟩)
abbrev s__law_deck : Stmt := topS 24
abbrev names__law_deck : List Str := ["script", "cell"]
theorem sc__law_deck : FnScope names__law_deck ["script"] (defScope s__law_deck) := ⟨rfl, rfl, rfl, by decide +kernel, rfl, by decide +kernel, by decide +kernel⟩
abbrev s__law_draw : Stmt := topS 25
abbrev names__law_draw : List Str := ["deck", "many", "cell", "first", "second", "third", "digit"]
theorem sc__law_draw : FnScope names__law_draw ["deck", "many"] (defScope s__law_draw) := ⟨rfl, rfl, rfl, by decide +kernel, rfl, by decide +kernel, by decide +kernel⟩
abbrev s__law_any : Stmt := topS 26
abbrev names__law_any : List Str := ["deck", "pick"]
theorem sc__law_any : FnScope names__law_any ["deck"] (defScope s__law_any) := ⟨rfl, rfl, rfl, by decide +kernel, rfl, by decide +kernel, by decide +kernel⟩
abbrev s__law_some_told : Stmt := topS 27
abbrev names__law_some_told : List Str := ["deck", "pick"]
theorem sc__law_some_told : FnScope names__law_some_told ["deck"] (defScope s__law_some_told) := ⟨rfl, rfl, rfl, by decide +kernel, rfl, by decide +kernel, by decide +kernel⟩
abbrev s__law_some_paper : Stmt := topS 28
abbrev names__law_some_paper : List Str := ["deck", "units", "most", "paper", "unit", "pairs", "k", "goes", "stack", "firsts", "seconds", "at"]
theorem sc__law_some_paper : FnScope names__law_some_paper ["deck", "units", "most"] (defScope s__law_some_paper) := ⟨rfl, rfl, rfl, by decide +kernel, rfl, by decide +kernel, by decide +kernel⟩
abbrev s__law_paper_text : Stmt := topS 29
abbrev names__law_paper_text : List Str := ["paper", "rows", "goes", "pairs", "pair", "words", "step", "spot", "told", "number", "row", "part"]
theorem sc__law_paper_text : FnScope names__law_paper_text ["paper"] (defScope s__law_paper_text) := ⟨rfl, rfl, rfl, by decide +kernel, rfl, by decide +kernel, by decide +kernel⟩
abbrev s_joined : Stmt := topS 11
abbrev names_joined : List Str := ["word", "parts", "part"]
theorem sc_joined : FnScope names_joined ["word", "parts"] (defScope s_joined) := ⟨rfl, rfl, rfl, by decide +kernel, rfl, by decide +kernel, by decide +kernel⟩
abbrev s_pair_written : Stmt := topS 12
abbrev names_pair_written : List Str := ["pair", "numbers", "rows", "stack", "place", "firsts", "seconds", "spot", "told", "number", "level"]
theorem sc_pair_written : FnScope names_pair_written ["pair"] (defScope s_pair_written) := ⟨rfl, rfl, rfl, by decide +kernel, rfl, by decide +kernel, by decide +kernel⟩
abbrev s_write_likeness : Stmt := topS 13
abbrev names_write_likeness : List Str := ["paper", "rows", "goes", "pairs", "pair"]
theorem sc_write_likeness : FnScope names_write_likeness ["paper"] (defScope s_write_likeness) := ⟨rfl, rfl, rfl, by decide +kernel, rfl, by decide +kernel, by decide +kernel⟩
abbrev s_RowReader___init__ : Stmt := inClass (topS 21) 0
abbrev names_RowReader___init__ : List Str := ["self", "rows"]
theorem sc_RowReader___init__ : FnScope names_RowReader___init__ ["self", "rows"] (defScope s_RowReader___init__) := ⟨rfl, rfl, rfl, by decide +kernel, rfl, by decide +kernel, by decide +kernel⟩
abbrev s_read_number : Stmt := topS 7
abbrev names_read_number : List Str := ["word", "sign"]
theorem sc_read_number : FnScope names_read_number ["word"] (defScope s_read_number) := ⟨rfl, rfl, rfl, by decide +kernel, rfl, by decide +kernel, by decide +kernel⟩
abbrev s_read_integer : Stmt := topS 14
abbrev names_read_integer : List Str := ["word", "number"]
theorem sc_read_integer : FnScope names_read_integer ["word"] (defScope s_read_integer) := ⟨rfl, rfl, rfl, by decide +kernel, rfl, by decide +kernel, by decide +kernel⟩
abbrev s_read_integers : Stmt := topS 15
abbrev names_read_integers : List Str := ["words", "numbers", "word"]
theorem sc_read_integers : FnScope names_read_integers ["words"] (defScope s_read_integers) := ⟨rfl, rfl, rfl, by decide +kernel, rfl, by decide +kernel, by decide +kernel⟩
abbrev s_read_pair_row : Stmt := topS 17
abbrev names_read_pair_row : List Str := ["words", "numbers", "at"]
theorem sc_read_pair_row : FnScope names_read_pair_row ["words"] (defScope s_read_pair_row) := ⟨rfl, rfl, rfl, by decide +kernel, rfl, by decide +kernel, by decide +kernel⟩
abbrev s_read_told : Stmt := topS 18
abbrev names_read_told : List Str := ["words", "numbers"]
theorem sc_read_told : FnScope names_read_told ["words"] (defScope s_read_told) := ⟨rfl, rfl, rfl, by decide +kernel, rfl, by decide +kernel, by decide +kernel⟩
abbrev s_read_first_row : Stmt := topS 19
abbrev names_read_first_row : List Str := ["words", "spot", "told"]
theorem sc_read_first_row : FnScope names_read_first_row ["words"] (defScope s_read_first_row) := ⟨rfl, rfl, rfl, by decide +kernel, rfl, by decide +kernel, by decide +kernel⟩
abbrev s_read_second_row : Stmt := topS 20
abbrev names_read_second_row : List Str := ["words", "number", "told"]
theorem sc_read_second_row : FnScope names_read_second_row ["words"] (defScope s_read_second_row) := ⟨rfl, rfl, rfl, by decide +kernel, rfl, by decide +kernel, by decide +kernel⟩
abbrev s_read_unit_row : Stmt := topS 16
abbrev names_read_unit_row : List Str := ["words", "numbers"]
theorem sc_read_unit_row : FnScope names_read_unit_row ["words"] (defScope s_read_unit_row) := ⟨rfl, rfl, rfl, by decide +kernel, rfl, by decide +kernel, by decide +kernel⟩
abbrev s_RowReader_next_read : Stmt := inClass (topS 21) 1
abbrev names_RowReader_next_read : List Str := ["self", "read", "found"]
theorem sc_RowReader_next_read : FnScope names_RowReader_next_read ["self", "read"] (defScope s_RowReader_next_read) := ⟨rfl, rfl, rfl, by decide +kernel, rfl, by decide +kernel, by decide +kernel⟩
abbrev s_RowReader_all_told : Stmt := inClass (topS 21) 2
abbrev names_RowReader_all_told : List Str := ["self", "word", "read", "found"]
theorem sc_RowReader_all_told : FnScope names_RowReader_all_told ["self", "word", "read"] (defScope s_RowReader_all_told) := ⟨rfl, rfl, rfl, by decide +kernel, rfl, by decide +kernel, by decide +kernel⟩
abbrev s_RowReader_read_pair : Stmt := inClass (topS 21) 3
abbrev names_RowReader_read_pair : List Str := ["self", "firsts", "stack", "place"]
theorem sc_RowReader_read_pair : FnScope names_RowReader_read_pair ["self"] (defScope s_RowReader_read_pair) := ⟨rfl, rfl, rfl, by decide +kernel, rfl, by decide +kernel, by decide +kernel⟩
abbrev s_RowReader_read_unit : Stmt := inClass (topS 21) 4
abbrev names_RowReader_read_unit : List Str := ["self", "pairs", "_", "count", "goes"]
theorem sc_RowReader_read_unit : FnScope names_RowReader_read_unit ["self"] (defScope s_RowReader_read_unit) := ⟨rfl, rfl, rfl, by decide +kernel, rfl, by decide +kernel, by decide +kernel⟩
abbrev s_read_likeness : Stmt := topS 22
abbrev names_read_likeness : List Str := ["text", "reader", "parts"]
theorem sc_read_likeness : FnScope names_read_likeness ["text"] (defScope s_read_likeness) := ⟨rfl, rfl, rfl, by decide +kernel, rfl, by decide +kernel, by decide +kernel⟩
abbrev s__law_plain_kinds : Stmt := topS 30
abbrev names__law_plain_kinds : List Str := ["paper", "waiting", "turn", "part"]
theorem sc__law_plain_kinds : FnScope names__law_plain_kinds ["paper"] (defScope s__law_plain_kinds) := ⟨rfl, rfl, rfl, by decide +kernel, rfl, by decide +kernel, by decide +kernel⟩
abbrev s__law_asked : Stmt := topS 32
abbrev names__law_asked : List Str := ["paper", "text", "told", "back"]
theorem sc__law_asked : FnScope names__law_asked ["paper"] (defScope s__law_asked) := ⟨rfl, rfl, rfl, by decide +kernel, rfl, by decide +kernel, by decide +kernel⟩
abbrev s__law_one_changed : Stmt := topS 31
abbrev names__law_one_changed : List Str := ["deck", "paper", "unit", "at", "pick", "pairs", "goes", "stack", "place", "firsts", "seconds"]
theorem sc__law_one_changed : FnScope names__law_one_changed ["deck", "paper"] (defScope s__law_one_changed) := ⟨rfl, rfl, rfl, by decide +kernel, rfl, by decide +kernel, by decide +kernel⟩
abbrev s_law : Stmt := topS 33
abbrev names_law : List Str := ["script", "deck", "paper", "other"]
theorem sc_law : FnScope names_law ["script"] (defScope s_law) := ⟨rfl, rfl, rfl, by decide +kernel, rfl, by decide +kernel, by decide +kernel⟩

noncomputable section
def t__law_deck_1 : FS :=
  (gRet (gLst true (gCons (gLc false (iSeq (gSlX false (gVar 0) gNoPart (gPart (gC (.int 63))))) (tgName 1) gYes (gCall cIntX (gCons (gVar 1) gNil)) [1]) (gCons (gC (.int 0)) (gCons (gC (.int 0)) (gCons (gC (.int 0)) gNil))))))
def b__law_deck : FS :=
  t__law_deck_1
theorem fx__law_deck : ∃ f : FC, f = fnC 2 b__law_deck := ⟨_, rfl⟩
def f__law_deck : FC := Classical.choose fx__law_deck
theorem fd__law_deck : f__law_deck = fnC 2 b__law_deck := Classical.choose_spec fx__law_deck
theorem e__law_deck (w0 : W) (G : GH) : f__law_deck [w0] G = ((b__law_deck [some w0, none] G).fin).calm := by rw [fd__law_deck]; rfl
def t__law_draw_1 : FS :=
  (gRet (gOp fMod (gCall cIntX (gCons (gOp fDiv (gVar 5) (gC (.int 7))) gNil)) (gVar 1)))
def t__law_draw_2 : FS :=
  (gSeq (gAsg (gOp fMod (gCall cIntX (gCons (gOp (fAddL false) (gOp (fAddL false) (gOp fMul (gOp fDiv (gVar 4) (gC (.int 65536))) (gC (.int 40503))) (gOp fMul (gVar 4) (gC (.int 31)))) (gVar 3)) gNil)) (gC (.int 1073741789))) (tgName 5))
  t__law_draw_1)
def t__law_draw_3 : FS :=
  (gSeq (gAsg (gOp fMod (gCall cIntX (gCons (gOp (fAddL false) (gOp (fAddL false) (gOp fMul (gVar 3) (gVar 3)) (gOp fMul (gC (.int 48271)) (gVar 3))) (gOp fIx (gVar 0) (gC (.int 3)))) gNil)) (gC (.int 2147483629))) (tgName 4))
  t__law_draw_2)
def t__law_draw_4 : FS :=
  (gSeq (gAsg (gOp fMod (gCall cIntX (gCons (gOp (fAddL false) (gVar 2) (gOp fMul (gC (.int 7919)) (gOp fIx (gVar 0) (gC (.int 3))))) gNil)) (gC (.int 2147483647))) (tgName 3))
  t__law_draw_3)
def t__law_draw_5 : FS :=
  (gSeq (gIfS (gAndT (gTest (gOp fLe (gOp fIx (gVar 0) (gC (.int 1))) (gCall cLen (gCons (gOp fIx (gVar 0) (gC (.int 0))) gNil)))) (gTest (gOp fGe (gVar 2) (gOp fPow (gC (.int 10)) (gC (.int 18))))))
  (gSeq (gSet (gOp fDiv (gVar 2) (gVar 1)) (gVar 0) (gC (.int 2)))
  (gRet (gOp fMod (gCall cIntX (gCons (gVar 2) gNil)) (gVar 1))))
  gNext)
  t__law_draw_4)
def t__law_draw_6 : FS :=
  (gSeq (gSet (gOp (fAddL false) (gOp fIx (gVar 0) (gC (.int 1))) (gC (.int 1))) (gVar 0) (gC (.int 1)))
  t__law_draw_5)
def t__law_draw_7 : FS :=
  (gSeq (gIfS (gTru (gOp fIx (gVar 0) (gC (.int 0))))
  (gAsg (gOp fIx (gOp fIx (gVar 0) (gC (.int 0))) (gOp fMod (gCall cIntX (gCons (gOp fIx (gVar 0) (gC (.int 1))) gNil)) (gCall cLen (gCons (gOp fIx (gVar 0) (gC (.int 0))) gNil)))) (tgName 2))
  gNext)
  t__law_draw_6)
def t__law_draw_8 : FS :=
  (gSeq (gAsg (gC (.int 0)) (tgName 2))
  t__law_draw_7)
def t__law_draw_9 : FS :=
  (gSeq (gIfS (gTest (gOp fGe (gOp fIx (gVar 0) (gC (.int 2))) (gVar 1)))
  (gSeq (gAsg (gOp fMod (gCall cIntX (gCons (gOp fIx (gVar 0) (gC (.int 2))) gNil)) (gVar 1)) (tgName 6))
  (gSeq (gSet (gOp fDiv (gOp fIx (gVar 0) (gC (.int 2))) (gVar 1)) (gVar 0) (gC (.int 2)))
  (gRet (gVar 6))))
  gNext)
  t__law_draw_8)
def t__law_draw_10 : FS :=
  (gSeq (gSet (gOp (fAddL false) (gOp fIx (gVar 0) (gC (.int 3))) (gC (.int 1))) (gVar 0) (gC (.int 3)))
  t__law_draw_9)
def b__law_draw : FS :=
  t__law_draw_10
theorem fx__law_draw : ∃ f : FC, f = fnC 7 b__law_draw := ⟨_, rfl⟩
def f__law_draw : FC := Classical.choose fx__law_draw
theorem fd__law_draw : f__law_draw = fnC 7 b__law_draw := Classical.choose_spec fx__law_draw
theorem e__law_draw (w0 w1 : W) (G : GH) : f__law_draw [w0, w1] G = ((b__law_draw [some w0, some w1, none, none, none, none, none] G).fin).calm := by rw [fd__law_draw]; rfl
def t__law_any_1 : FS :=
  (gRet (gOp fSub (gCall (cFn 2 f__law_draw) (gCons (gVar 0) (gCons (gC (.int 14)) gNil))) (gC (.int 3))))
def t__law_any_2 : FS :=
  (gSeq (gIfS (gTest (gOp fEq (gVar 1) (gC (.int 1))))
  (gRet (gOp fIx (gLst false (gCons (gOp fSub (gOp fPow (gC (.int 10)) (gC (.int 12))) (gC (.int 1))) (gCons (gOp fSub (gC (.int 1)) (gOp fPow (gC (.int 10)) (gC (.int 12)))) (gCons (gOp fPow (gC (.int 10)) (gC (.int 11))) (gCons (gNeg (gOp fPow (gC (.int 10)) (gC (.int 11)))) gNil))))) (gCall (cFn 2 f__law_draw) (gCons (gVar 0) (gCons (gC (.int 4)) gNil)))))
  gNext)
  t__law_any_1)
def t__law_any_3 : FS :=
  (gSeq (gIfS (gTest (gOp fEq (gVar 1) (gC (.int 0))))
  (gRet (gOp (fAddL false) (gOp fSub (gCall (cFn 2 f__law_draw) (gCons (gVar 0) (gCons (gOp fSub (gOp fMul (gC (.int 2)) (gOp fPow (gC (.int 10)) (gC (.int 12)))) (gC (.int 1))) gNil))) (gOp fPow (gC (.int 10)) (gC (.int 12)))) (gC (.int 1))))
  gNext)
  t__law_any_2)
def t__law_any_4 : FS :=
  (gSeq (gAsg (gCall (cFn 2 f__law_draw) (gCons (gVar 0) (gCons (gC (.int 8)) gNil))) (tgName 1))
  t__law_any_3)
def b__law_any : FS :=
  t__law_any_4
theorem fx__law_any : ∃ f : FC, f = fnC 2 b__law_any := ⟨_, rfl⟩
def f__law_any : FC := Classical.choose fx__law_any
theorem fd__law_any : f__law_any = fnC 2 b__law_any := Classical.choose_spec fx__law_any
theorem e__law_any (w0 : W) (G : GH) : f__law_any [w0] G = ((b__law_any [some w0, none] G).fin).calm := by rw [fd__law_any]; rfl
def t__law_some_told_1 : FS :=
  (gRet (gTup (gCons (gC (.str "spot")) (gCons (gCall (cFn 1 f__law_any) (gCons (gVar 0) gNil)) (gCons (gCall (cFn 1 f__law_any) (gCons (gVar 0) gNil)) (gCons (gCall (cFn 1 f__law_any) (gCons (gVar 0) gNil)) gNil))))))
def t__law_some_told_2 : FS :=
  (gSeq (gIfS (gTest (gOp fEq (gVar 1) (gC (.int 1))))
  (gRet (gTup (gCons (gC (.str "len")) (gCons (gCall (cFn 1 f__law_any) (gCons (gVar 0) gNil)) (gCons (gCall (cFn 1 f__law_any) (gCons (gVar 0) gNil)) gNil)))))
  gNext)
  t__law_some_told_1)
def t__law_some_told_3 : FS :=
  (gSeq (gIfS (gTest (gOp fEq (gVar 1) (gC (.int 0))))
  (gRet (gTup (gCons (gC (.str "num")) (gCons (gCall (cFn 1 f__law_any) (gCons (gVar 0) gNil)) gNil))))
  gNext)
  t__law_some_told_2)
def t__law_some_told_4 : FS :=
  (gSeq (gAsg (gCall (cFn 2 f__law_draw) (gCons (gVar 0) (gCons (gC (.int 3)) gNil))) (tgName 1))
  t__law_some_told_3)
def b__law_some_told : FS :=
  t__law_some_told_4
theorem fx__law_some_told : ∃ f : FC, f = fnC 2 b__law_some_told := ⟨_, rfl⟩
def f__law_some_told : FC := Classical.choose fx__law_some_told
theorem fd__law_some_told : f__law_some_told = fnC 2 b__law_some_told := Classical.choose_spec fx__law_some_told
theorem e__law_some_told (w0 : W) (G : GH) : f__law_some_told [w0] G = ((b__law_some_told [some w0, none] G).fin).calm := by rw [fd__law_some_told]; rfl
def t__law_some_paper_1 : FS :=
  (gDrop (gMt "list" mAppend (gVar 5) (gCons (gTup (gCons (gCall cTuple (gCons (gVar 8) gNil)) (gCons (gCall (cFn 1 f__law_any) (gCons (gVar 0) gNil)) (gCons (gCall cTuple (gCons (gVar 9) gNil)) (gCons (gCall cTuple (gCons (gVar 10) gNil)) gNil))))) gNil)))
def t__law_some_paper_2 : FS :=
  (gSeq (gAsg (gLc false (iRng asRng1 (gCons (gCall (cFn 2 f__law_draw) (gCons (gVar 0) (gCons (gC (.int 3)) gNil))) gNil)) (tgName 11) gYes (gTup (gCons (gCall (cFn 1 f__law_any) (gCons (gVar 0) gNil)) (gCons (gCall (cFn 1 f__law_some_told) (gCons (gVar 0) gNil)) gNil))) [11]) (tgName 10))
  t__law_some_paper_1)
def t__law_some_paper_3 : FS :=
  (gSeq (gAsg (gLc false (iRng asRng1 (gCons (gCall (cFn 2 f__law_draw) (gCons (gVar 0) (gCons (gC (.int 3)) gNil))) gNil)) (tgName 11) gYes (gTup (gCons (gTup (gCons (gCall (cFn 1 f__law_any) (gCons (gVar 0) gNil)) (gCons (gCall (cFn 1 f__law_any) (gCons (gVar 0) gNil)) gNil))) (gCons (gCall (cFn 1 f__law_some_told) (gCons (gVar 0) gNil)) gNil))) [11]) (tgName 9))
  t__law_some_paper_2)
def t__law_some_paper_4 : FS :=
  (gSeq (gAsg (gLc false (iRng asRng1 (gCons (gOp (fAddL false) (gC (.int 1)) (gCall (cFn 2 f__law_draw) (gCons (gVar 0) (gCons (gC (.int 2)) gNil)))) gNil)) (tgName 11) gYes (gTup (gCons (gCall (cFn 1 f__law_any) (gCons (gVar 0) gNil)) (gCons (gCall (cFn 1 f__law_any) (gCons (gVar 0) gNil)) gNil))) [11]) (tgName 8))
  t__law_some_paper_3)
def t__law_some_paper_5 : FS :=
  (gDrop (gMt "list" mAppend (gVar 3) (gCons (gTup (gCons (gCall cTuple (gCons (gVar 7) gNil)) (gCons (gCall cTuple (gCons (gVar 5) gNil)) gNil))) gNil)))
def t__law_some_paper_6 : FS :=
  (gSeq (gAsg (gLc false (iRng asRng1 (gCons (gCall (cFn 2 f__law_draw) (gCons (gVar 0) (gCons (gC (.int 3)) gNil))) gNil)) (tgName 11) gYes (gCall (cFn 1 f__law_any) (gCons (gVar 0) gNil)) [11]) (tgName 7))
  t__law_some_paper_5)
def t__law_some_paper_7 : FS :=
  (gSeq (gFor (iRng asRng1 (gCons (gOp (fAddL false) (gC (.int 1)) (gCall (cFn 2 f__law_draw) (gCons (gVar 0) (gCons (gVar 2) gNil)))) gNil)) (tgName 6)
  t__law_some_paper_4)
  t__law_some_paper_6)
def t__law_some_paper_8 : FS :=
  (gSeq (gAsg (gLst true gNil) (tgName 5))
  t__law_some_paper_7)
def t__law_some_paper_9 : FS :=
  (gRet (gCall cTuple (gCons (gVar 3) gNil)))
def t__law_some_paper_10 : FS :=
  (gSeq (gFor (iRng asRng1 (gCons (gVar 1) gNil)) (tgName 4)
  t__law_some_paper_8)
  t__law_some_paper_9)
def t__law_some_paper_11 : FS :=
  (gSeq (gAsg (gLst true gNil) (tgName 3))
  t__law_some_paper_10)
def b__law_some_paper : FS :=
  t__law_some_paper_11
theorem fx__law_some_paper : ∃ f : FC, f = fnC 12 b__law_some_paper := ⟨_, rfl⟩
def f__law_some_paper : FC := Classical.choose fx__law_some_paper
theorem fd__law_some_paper : f__law_some_paper = fnC 12 b__law_some_paper := Classical.choose_spec fx__law_some_paper
theorem e__law_some_paper (w0 w1 w2 : W) (G : GH) : f__law_some_paper [w0, w1, w2] G = ((b__law_some_paper [some w0, some w1, some w2, none, none, none, none, none, none, none, none, none] G).fin).calm := by rw [fd__law_some_paper]; rfl
def t__law_paper_text_1 : FS :=
  (gAsg (gOp (fAddL false) (gVar 5) (gLst false (gCons (gCall cStrX (gCons (gOp fIx (gVar 6) (gC (.int 0))) gNil)) (gCons (gCall cStrX (gCons (gOp fIx (gVar 6) (gC (.int 1))) gNil)) gNil)))) (tgName 5))
def t__law_paper_text_2 : FS :=
  (gDrop (gMt "list" mAppend (gVar 1) (gCons (gMt "str" mJoin (gC (.str " ")) (gCons (gOp (fAddL false) (gLst false (gCons (gC (.str "first")) (gCons (gCall cStrX (gCons (gOp fIx (gVar 7) (gC (.int 0))) gNil)) (gCons (gCall cStrX (gCons (gOp fIx (gVar 7) (gC (.int 1))) gNil)) gNil)))) (gLc false (iSeq (gVar 8)) (tgName 11) gYes (gCall cStrX (gCons (gVar 11) gNil)) [11])) gNil)) gNil)))
def t__law_paper_text_3 : FS :=
  (gDrop (gMt "list" mAppend (gVar 1) (gCons (gMt "str" mJoin (gC (.str " ")) (gCons (gOp (fAddL false) (gLst false (gCons (gC (.str "second")) (gCons (gCall cStrX (gCons (gVar 9) gNil)) gNil))) (gLc false (iSeq (gVar 8)) (tgName 11) gYes (gCall cStrX (gCons (gVar 11) gNil)) [11])) gNil)) gNil)))
def t__law_paper_text_4 : FS :=
  (gFor (iSeq (gOp fIx (gVar 4) (gC (.int 3)))) (tgTup 2 (tgCons (tgName 9) (tgCons (tgName 8) tgNil)))
  t__law_paper_text_3)
def t__law_paper_text_5 : FS :=
  (gSeq (gFor (iSeq (gOp fIx (gVar 4) (gC (.int 2)))) (tgTup 2 (tgCons (tgName 7) (tgCons (tgName 8) tgNil)))
  t__law_paper_text_2)
  t__law_paper_text_4)
def t__law_paper_text_6 : FS :=
  (gSeq (gDrop (gMt "list" mAppend (gVar 1) (gCons (gMt "str" mJoin (gC (.str " ")) (gCons (gOp (fAddL false) (gVar 5) (gLst false (gCons (gC (.str "at")) (gCons (gCall cStrX (gCons (gOp fIx (gVar 4) (gC (.int 1))) gNil)) gNil)))) gNil)) gNil)))
  t__law_paper_text_5)
def t__law_paper_text_7 : FS :=
  (gSeq (gFor (iSeq (gOp fIx (gVar 4) (gC (.int 0)))) (tgName 6)
  t__law_paper_text_1)
  t__law_paper_text_6)
def t__law_paper_text_8 : FS :=
  (gSeq (gAsg (gLst false (gCons (gC (.str "pair")) gNil)) (tgName 5))
  t__law_paper_text_7)
def t__law_paper_text_9 : FS :=
  (gFor (iSeq (gVar 3)) (tgName 4)
  t__law_paper_text_8)
def t__law_paper_text_10 : FS :=
  (gSeq (gDrop (gMt "list" mAppend (gVar 1) (gCons (gMt "str" mJoin (gC (.str " ")) (gCons (gOp (fAddL false) (gLst false (gCons (gC (.str "unit")) (gCons (gCall cStrX (gCons (gCall cLen (gCons (gVar 3) gNil)) gNil)) gNil))) (gLc false (iSeq (gVar 2)) (tgName 10) gYes (gCall cStrX (gCons (gVar 10) gNil)) [10])) gNil)) gNil)))
  t__law_paper_text_9)
def t__law_paper_text_11 : FS :=
  (gRet (gMt "str" mJoin (gC (.str "\n")) (gCons (gVar 1) gNil)))
def t__law_paper_text_12 : FS :=
  (gSeq (gFor (iSeq (gVar 0)) (tgTup 2 (tgCons (tgName 2) (tgCons (tgName 3) tgNil)))
  t__law_paper_text_10)
  t__law_paper_text_11)
def t__law_paper_text_13 : FS :=
  (gSeq (gAsg (gLst true gNil) (tgName 1))
  t__law_paper_text_12)
def b__law_paper_text : FS :=
  t__law_paper_text_13
theorem fx__law_paper_text : ∃ f : FC, f = fnC 12 b__law_paper_text := ⟨_, rfl⟩
def f__law_paper_text : FC := Classical.choose fx__law_paper_text
theorem fd__law_paper_text : f__law_paper_text = fnC 12 b__law_paper_text := Classical.choose_spec fx__law_paper_text
theorem e__law_paper_text (w0 : W) (G : GH) : f__law_paper_text [w0] G = ((b__law_paper_text [some w0, none, none, none, none, none, none, none, none, none, none, none] G).fin).calm := by rw [fd__law_paper_text]; rfl
def t_joined_1 : FS :=
  (gRet (gMt "str" mJoin (gC (.str " ")) (gCons (gOp (fAddL false) (gLst false (gCons (gVar 0) gNil)) (gLc false (iSeq (gVar 1)) (tgName 2) gYes (gCall cStrX (gCons (gVar 2) gNil)) [2])) gNil)))
def b_joined : FS :=
  t_joined_1
theorem fx_joined : ∃ f : FC, f = fnC 3 b_joined := ⟨_, rfl⟩
def f_joined : FC := Classical.choose fx_joined
theorem fd_joined : f_joined = fnC 3 b_joined := Classical.choose_spec fx_joined
theorem e_joined (w0 w1 : W) (G : GH) : f_joined [w0, w1] G = ((b_joined [some w0, some w1, none] G).fin).calm := by rw [fd_joined]; rfl
def t_pair_written_1 : FS :=
  (gDrop (gMt "list" mAppend (gVar 2) (gCons (gCall (cFn 2 f_joined) (gCons (gC (.str "first")) (gCons (gOp (fAddL false) (gVar 7) (gVar 8)) gNil))) gNil)))
def t_pair_written_2 : FS :=
  (gDrop (gMt "list" mAppend (gVar 2) (gCons (gCall (cFn 2 f_joined) (gCons (gC (.str "second")) (gCons (gOp (fAddL false) (gTup (gCons (gVar 9) gNil)) (gVar 8)) gNil))) gNil)))
def t_pair_written_3 : FS :=
  (gRet (gVar 2))
def t_pair_written_4 : FS :=
  (gSeq (gFor (iSeq (gVar 6)) (tgTup 2 (tgCons (tgName 9) (tgCons (tgName 8) tgNil)))
  t_pair_written_2)
  t_pair_written_3)
def t_pair_written_5 : FS :=
  (gSeq (gFor (iSeq (gVar 5)) (tgTup 2 (tgCons (tgName 7) (tgCons (tgName 8) tgNil)))
  t_pair_written_1)
  t_pair_written_4)
def t_pair_written_6 : FS :=
  (gSeq (gAsg (gLst true (gCons (gCall (cFn 2 f_joined) (gCons (gC (.str "pair")) (gCons (gOp (fAddL false) (gVar 1) (gLst false (gCons (gC (.str "at")) (gCons (gVar 4) gNil)))) gNil))) gNil)) (tgName 2))
  t_pair_written_5)
def t_pair_written_7 : FS :=
  (gSeq (gAsg (gLc2 false (iSeq (gVar 3)) (tgName 10) gYes (iSeq (gVar 10)) (tgName 9) gYes (gVar 9) [10, 9] [9]) (tgName 1))
  t_pair_written_6)
def t_pair_written_8 : FS :=
  (gSeq (gAsg (gVar 0) (tgTup 4 (tgCons (tgName 3) (tgCons (tgName 4) (tgCons (tgName 5) (tgCons (tgName 6) tgNil))))))
  t_pair_written_7)
def b_pair_written : FS :=
  t_pair_written_8
theorem fx_pair_written : ∃ f : FC, f = fnC 11 b_pair_written := ⟨_, rfl⟩
def f_pair_written : FC := Classical.choose fx_pair_written
theorem fd_pair_written : f_pair_written = fnC 11 b_pair_written := Classical.choose_spec fx_pair_written
theorem e_pair_written (w0 : W) (G : GH) : f_pair_written [w0] G = ((b_pair_written [some w0, none, none, none, none, none, none, none, none, none, none] G).fin).calm := by rw [fd_pair_written]; rfl
def t_write_likeness_1 : FS :=
  (gDrop (gMt "list" mExtend (gVar 1) (gCons (gFrz (gCall (cFn 1 f_pair_written) (gCons (gVar 4) gNil))) gNil)))
def t_write_likeness_2 : FS :=
  (gFor (iSeq (gVar 3)) (tgName 4)
  t_write_likeness_1)
def t_write_likeness_3 : FS :=
  (gSeq (gDrop (gMt "list" mAppend (gVar 1) (gCons (gCall (cFn 2 f_joined) (gCons (gC (.str "unit")) (gCons (gOp (fAddL false) (gTup (gCons (gCall cLen (gCons (gVar 3) gNil)) gNil)) (gVar 2)) gNil))) gNil)))
  t_write_likeness_2)
def t_write_likeness_4 : FS :=
  (gRet (gMt "str" mJoin (gC (.str "\n")) (gCons (gVar 1) gNil)))
def t_write_likeness_5 : FS :=
  (gSeq (gFor (iSeq (gVar 0)) (tgTup 2 (tgCons (tgName 2) (tgCons (tgName 3) tgNil)))
  t_write_likeness_3)
  t_write_likeness_4)
def t_write_likeness_6 : FS :=
  (gSeq (gAsg (gLst true gNil) (tgName 1))
  t_write_likeness_5)
def b_write_likeness : FS :=
  t_write_likeness_6
theorem fx_write_likeness : ∃ f : FC, f = fnC 5 b_write_likeness := ⟨_, rfl⟩
def f_write_likeness : FC := Classical.choose fx_write_likeness
theorem fd_write_likeness : f_write_likeness = fnC 5 b_write_likeness := Classical.choose_spec fx_write_likeness
theorem e_write_likeness (w0 : W) (G : GH) : f_write_likeness [w0] G = ((b_write_likeness [some w0, none, none, none, none] G).fin).calm := by rw [fd_write_likeness]; rfl
def t_RowReader___init___1 : FS :=
  (gFldSet 0 "at" (gC (.int 0)) (gVar 0))
def t_RowReader___init___2 : FS :=
  (gSeq (gFldSet 0 "rows" (gVar 1) (gVar 0))
  t_RowReader___init___1)
def b_RowReader___init__ : FS :=
  t_RowReader___init___2
theorem fx_RowReader___init__ : ∃ f : FC, f = fnC 2 b_RowReader___init__ := ⟨_, rfl⟩
def f_RowReader___init__ : FC := Classical.choose fx_RowReader___init__
theorem fd_RowReader___init__ : f_RowReader___init__ = fnC 2 b_RowReader___init__ := Classical.choose_spec fx_RowReader___init__
theorem e_RowReader___init__ (w0 w1 : W) (G : GH) : f_RowReader___init__ [w0, w1] G = ((b_RowReader___init__ [some w0, some w1] G).fin).calm := by rw [fd_RowReader___init__]; rfl
def t_read_number_1 : FS :=
  (gIfS (gTest (gOp (fInT true) (gVar 1) (gC (.str "0123456789"))))
  (gRet (gC .non))
  gNext)
def t_read_number_2 : FS :=
  (gRet (gCall cIntX (gCons (gVar 0) gNil)))
def t_read_number_3 : FS :=
  (gSeq (gFor (iTxt (gVar 0)) (tgName 1)
  t_read_number_1)
  t_read_number_2)
def t_read_number_4 : FS :=
  (gSeq (gIfS (gOrT (gNotT (gTest (gChain fLe fLe (gC (.int 1)) (gCall cLen (gCons (gVar 0) gNil)) (gC (.int 12))))) (gAndT (gTest (gOp fEq (gOp fIx (gVar 0) (gC (.int 0))) (gC (.str "0")))) (gTest (gOp fNe (gVar 0) (gC (.str "0"))))))
  (gRet (gC .non))
  gNext)
  t_read_number_3)
def b_read_number : FS :=
  t_read_number_4
theorem fx_read_number : ∃ f : FC, f = fnC 2 b_read_number := ⟨_, rfl⟩
def f_read_number : FC := Classical.choose fx_read_number
theorem fd_read_number : f_read_number = fnC 2 b_read_number := Classical.choose_spec fx_read_number
theorem e_read_number (w0 : W) (G : GH) : f_read_number [w0] G = ((b_read_number [some w0, none] G).fin).calm := by rw [fd_read_number]; rfl
def t_read_integer_1 : FS :=
  (gRet (gIf (gOrT (gTest (gOp (fIsN false) (gVar 1) (gC .non))) (gTest (gOp fEq (gVar 1) (gC (.int 0))))) (gC .non) (gNeg (gVar 1))))
def t_read_integer_2 : FS :=
  (gSeq (gAsg (gCall (cFn 1 f_read_number) (gCons (gSlX false (gVar 0) (gPart (gC (.int 1))) gNoPart) gNil)) (tgName 1))
  t_read_integer_1)
def t_read_integer_3 : FS :=
  (gSeq (gIfS (gTest (gOp fNe (gSlX false (gVar 0) gNoPart (gPart (gC (.int 1)))) (gC (.str "-"))))
  (gRet (gCall (cFn 1 f_read_number) (gCons (gVar 0) gNil)))
  gNext)
  t_read_integer_2)
def b_read_integer : FS :=
  t_read_integer_3
theorem fx_read_integer : ∃ f : FC, f = fnC 2 b_read_integer := ⟨_, rfl⟩
def f_read_integer : FC := Classical.choose fx_read_integer
theorem fd_read_integer : f_read_integer = fnC 2 b_read_integer := Classical.choose_spec fx_read_integer
theorem e_read_integer (w0 : W) (G : GH) : f_read_integer [w0] G = ((b_read_integer [some w0, none] G).fin).calm := by rw [fd_read_integer]; rfl
def t_read_integers_1 : FS :=
  (gRet (gIf (gTest (gOp (fIn false) (gC .non) (gVar 1))) (gC .non) (gVar 1)))
def t_read_integers_2 : FS :=
  (gSeq (gAsg (gCall cTuple (gCons (gLc false (iSeq (gVar 0)) (tgName 2) gYes (gCall (cFn 1 f_read_integer) (gCons (gVar 2) gNil)) [2]) gNil)) (tgName 1))
  t_read_integers_1)
def b_read_integers : FS :=
  t_read_integers_2
theorem fx_read_integers : ∃ f : FC, f = fnC 3 b_read_integers := ⟨_, rfl⟩
def f_read_integers : FC := Classical.choose fx_read_integers
theorem fd_read_integers : f_read_integers = fnC 3 b_read_integers := Classical.choose_spec fx_read_integers
theorem e_read_integers (w0 : W) (G : GH) : f_read_integers [w0] G = ((b_read_integers [some w0, none, none] G).fin).calm := by rw [fd_read_integers]; rfl
def t_read_pair_row_1 : FS :=
  (gRet (gTup (gCons (gCall cTuple (gCons (gLc false (iRng asRng3 (gCons (gC (.int 0)) (gCons (gOp fSub (gCall cLen (gCons (gVar 1) gNil)) (gC (.int 1))) (gCons (gC (.int 2)) gNil)))) (tgName 2) gYes (gSlX false (gVar 1) (gPart (gVar 2)) (gPart (gOp (fAddL false) (gVar 2) (gC (.int 2))))) [2]) gNil)) (gCons (gOp fIx (gVar 1) (gNeg (gC (.int 1)))) gNil))))
def t_read_pair_row_2 : FS :=
  (gSeq (gIfS (gTest (gOp (fIsN false) (gVar 1) (gC .non)))
  (gRet (gC .non))
  gNext)
  t_read_pair_row_1)
def t_read_pair_row_3 : FS :=
  (gSeq (gAsg (gCall (cFn 1 f_read_integers) (gCons (gOp (fAddL false) (gSlX false (gVar 0) (gPart (gC (.int 1))) (gPart (gNeg (gC (.int 2))))) (gSlX false (gVar 0) (gPart (gNeg (gC (.int 1)))) gNoPart)) gNil)) (tgName 1))
  t_read_pair_row_2)
def t_read_pair_row_4 : FS :=
  (gSeq (gIfS (gOrT (gTest (gOp fNe (gOp fIx (gVar 0) (gC (.int 0))) (gC (.str "pair")))) (gOrT (gTest (gOp (fIn true) (gCall cLen (gCons (gVar 0) gNil)) (gC (.tup [(.int 5), (.int 7)])))) (gTest (gOp fNe (gOp fIx (gVar 0) (gNeg (gC (.int 2)))) (gC (.str "at"))))))
  (gRet (gC .non))
  gNext)
  t_read_pair_row_3)
def b_read_pair_row : FS :=
  t_read_pair_row_4
theorem fx_read_pair_row : ∃ f : FC, f = fnC 3 b_read_pair_row := ⟨_, rfl⟩
def f_read_pair_row : FC := Classical.choose fx_read_pair_row
theorem fd_read_pair_row : f_read_pair_row = fnC 3 b_read_pair_row := Classical.choose_spec fx_read_pair_row
theorem e_read_pair_row (w0 : W) (G : GH) : f_read_pair_row [w0] G = ((b_read_pair_row [some w0, none, none] G).fin).calm := by rw [fd_read_pair_row]; rfl
def t_read_told_1 : FS :=
  (gRet (gIf (gTest (gOp (fIsN false) (gVar 1) (gC .non))) (gC .non) (gOp (fAddL false) (gTup (gCons (gOp fIx (gVar 0) (gC (.int 0))) gNil)) (gVar 1))))
def t_read_told_2 : FS :=
  (gSeq (gAsg (gCall (cFn 1 f_read_integers) (gCons (gSlX false (gVar 0) (gPart (gC (.int 1))) gNoPart) gNil)) (tgName 1))
  t_read_told_1)
def t_read_told_3 : FS :=
  (gSeq (gIfS (gOrT (gTest (gOp fEq (gCall cLen (gCons (gVar 0) gNil)) (gC (.int 0)))) (gTest (gOp fNe (gGet (gC (.dic [(.inr "num"), (.inr "len"), (.inr "spot")] [(.int 2), (.int 3), (.int 4)])) (gOp fIx (gVar 0) (gC (.int 0)))) (gCall cLen (gCons (gVar 0) gNil)))))
  (gRet (gC .non))
  gNext)
  t_read_told_2)
def b_read_told : FS :=
  t_read_told_3
theorem fx_read_told : ∃ f : FC, f = fnC 2 b_read_told := ⟨_, rfl⟩
def f_read_told : FC := Classical.choose fx_read_told
theorem fd_read_told : f_read_told = fnC 2 b_read_told := Classical.choose_spec fx_read_told
theorem e_read_told (w0 : W) (G : GH) : f_read_told [w0] G = ((b_read_told [some w0, none] G).fin).calm := by rw [fd_read_told]; rfl
def t_read_first_row_1 : FS :=
  (gRet (gIf (gOrT (gTest (gOp (fIsN false) (gVar 1) (gC .non))) (gTest (gOp (fIsN false) (gVar 2) (gC .non)))) (gC .non) (gTup (gCons (gVar 1) (gCons (gVar 2) gNil)))))
def t_read_first_row_2 : FS :=
  (gSeq (gAsg (gCall (cFn 1 f_read_told) (gCons (gSlX false (gVar 0) (gPart (gC (.int 3))) gNoPart) gNil)) (tgName 2))
  t_read_first_row_1)
def t_read_first_row_3 : FS :=
  (gSeq (gAsg (gCall (cFn 1 f_read_integers) (gCons (gSlX false (gVar 0) (gPart (gC (.int 1))) (gPart (gC (.int 3)))) gNil)) (tgName 1))
  t_read_first_row_2)
def b_read_first_row : FS :=
  t_read_first_row_3
theorem fx_read_first_row : ∃ f : FC, f = fnC 3 b_read_first_row := ⟨_, rfl⟩
def f_read_first_row : FC := Classical.choose fx_read_first_row
theorem fd_read_first_row : f_read_first_row = fnC 3 b_read_first_row := Classical.choose_spec fx_read_first_row
theorem e_read_first_row (w0 : W) (G : GH) : f_read_first_row [w0] G = ((b_read_first_row [some w0, none, none] G).fin).calm := by rw [fd_read_first_row]; rfl
def t_read_second_row_1 : FS :=
  (gRet (gIf (gOrT (gTest (gOp (fIsN false) (gVar 1) (gC .non))) (gTest (gOp (fIsN false) (gVar 2) (gC .non)))) (gC .non) (gOp (fAddL false) (gVar 1) (gTup (gCons (gVar 2) gNil)))))
def t_read_second_row_2 : FS :=
  (gSeq (gAsg (gCall (cFn 1 f_read_told) (gCons (gSlX false (gVar 0) (gPart (gC (.int 2))) gNoPart) gNil)) (tgName 2))
  t_read_second_row_1)
def t_read_second_row_3 : FS :=
  (gSeq (gAsg (gCall (cFn 1 f_read_integers) (gCons (gSlX false (gVar 0) (gPart (gC (.int 1))) (gPart (gC (.int 2)))) gNil)) (tgName 1))
  t_read_second_row_2)
def b_read_second_row : FS :=
  t_read_second_row_3
theorem fx_read_second_row : ∃ f : FC, f = fnC 3 b_read_second_row := ⟨_, rfl⟩
def f_read_second_row : FC := Classical.choose fx_read_second_row
theorem fd_read_second_row : f_read_second_row = fnC 3 b_read_second_row := Classical.choose_spec fx_read_second_row
theorem e_read_second_row (w0 : W) (G : GH) : f_read_second_row [w0] G = ((b_read_second_row [some w0, none, none] G).fin).calm := by rw [fd_read_second_row]; rfl
def t_read_unit_row_1 : FS :=
  (gRet (gTup (gCons (gOp fIx (gVar 1) (gC (.int 0))) (gCons (gSlX false (gVar 1) (gPart (gC (.int 1))) gNoPart) gNil))))
def t_read_unit_row_2 : FS :=
  (gSeq (gIfS (gOrT (gTest (gOp fNe (gOp fIx (gVar 0) (gC (.int 0))) (gC (.str "unit")))) (gOrT (gTest (gOp (fIsN false) (gVar 1) (gC .non))) (gOrT (gTest (gOp fEq (gCall cLen (gCons (gVar 1) gNil)) (gC (.int 0)))) (gTest (gOp fLt (gOp fIx (gVar 1) (gC (.int 0))) (gC (.int 1)))))))
  (gRet (gC .non))
  gNext)
  t_read_unit_row_1)
def t_read_unit_row_3 : FS :=
  (gSeq (gAsg (gCall (cFn 1 f_read_integers) (gCons (gSlX false (gVar 0) (gPart (gC (.int 1))) gNoPart) gNil)) (tgName 1))
  t_read_unit_row_2)
def b_read_unit_row : FS :=
  t_read_unit_row_3
theorem fx_read_unit_row : ∃ f : FC, f = fnC 2 b_read_unit_row := ⟨_, rfl⟩
def f_read_unit_row : FC := Classical.choose fx_read_unit_row
theorem fd_read_unit_row : f_read_unit_row = fnC 2 b_read_unit_row := Classical.choose_spec fx_read_unit_row
theorem e_read_unit_row (w0 : W) (G : GH) : f_read_unit_row [w0] G = ((b_read_unit_row [some w0, none] G).fin).calm := by rw [fd_read_unit_row]; rfl
def tbl_1 : Nat → Option FC := fun k => match k with
  | 1 => some f_read_pair_row
  | 2 => some f_read_first_row
  | 3 => some f_read_second_row
  | 4 => some f_read_unit_row
  | _ => none
def t_RowReader_next_read_1 : FS :=
  (gRet (gVar 2))
def t_RowReader_next_read_2 : FS :=
  (gSeq (gFldAug 0 "at" (gVar 0) (gC (.int 1)))
  t_RowReader_next_read_1)
def t_RowReader_next_read_3 : FS :=
  (gSeq (gIfS (gTest (gOp (fIsN false) (gVar 2) (gC .non)))
  gNo
  gNext)
  t_RowReader_next_read_2)
def t_RowReader_next_read_4 : FS :=
  (gSeq (gAsg (gCallV 1 tbl_1 1 (gCons (gMt "str" (mSplit false) (gOp fIx (gFld 0 "rows" (gVar 0)) (gFld 0 "at" (gVar 0))) (gCons (gC (.str " ")) gNil)) gNil)) (tgName 2))
  t_RowReader_next_read_3)
def t_RowReader_next_read_5 : FS :=
  (gSeq (gIfS (gTest (gOp fEq (gFld 0 "at" (gVar 0)) (gCall cLen (gCons (gFld 0 "rows" (gVar 0)) gNil))))
  gNo
  gNext)
  t_RowReader_next_read_4)
def b_RowReader_next_read : FS :=
  t_RowReader_next_read_5
theorem fx_RowReader_next_read : ∃ f : FC, f = fnC 3 b_RowReader_next_read := ⟨_, rfl⟩
def f_RowReader_next_read : FC := Classical.choose fx_RowReader_next_read
theorem fd_RowReader_next_read : f_RowReader_next_read = fnC 3 b_RowReader_next_read := Classical.choose_spec fx_RowReader_next_read
theorem e_RowReader_next_read (w0 w1 : W) (G : GH) : f_RowReader_next_read [w0, w1] G = ((b_RowReader_next_read [some w0, some w1, none] G).fin).calm := by rw [fd_RowReader_next_read]; rfl
def t_RowReader_all_told_1 : FS :=
  (gDrop (gMt "list" mAppend (gVar 3) (gCons (gMeth 0 "next_read" 2 f_RowReader_next_read (gVar 0) (gCons (gVar 2) gNil)) gNil)))
def t_RowReader_all_told_2 : FS :=
  (gRet (gCall cTuple (gCons (gVar 3) gNil)))
def t_RowReader_all_told_3 : FS :=
  (gSeq (gWhile (gAndT (gTest (gOp fLt (gFld 0 "at" (gVar 0)) (gCall cLen (gCons (gFld 0 "rows" (gVar 0)) gNil)))) (gTest (gOp fEq (gOp fIx (gMt "str" (mSplit false) (gOp fIx (gFld 0 "rows" (gVar 0)) (gFld 0 "at" (gVar 0))) (gCons (gC (.str " ")) gNil)) (gC (.int 0))) (gVar 1))))
  t_RowReader_all_told_1)
  t_RowReader_all_told_2)
def t_RowReader_all_told_4 : FS :=
  (gSeq (gAsg (gLst true gNil) (tgName 3))
  t_RowReader_all_told_3)
def b_RowReader_all_told : FS :=
  t_RowReader_all_told_4
theorem fx_RowReader_all_told : ∃ f : FC, f = fnC 4 b_RowReader_all_told := ⟨_, rfl⟩
def f_RowReader_all_told : FC := Classical.choose fx_RowReader_all_told
theorem fd_RowReader_all_told : f_RowReader_all_told = fnC 4 b_RowReader_all_told := Classical.choose_spec fx_RowReader_all_told
theorem e_RowReader_all_told (w0 w1 w2 : W) (G : GH) : f_RowReader_all_told [w0, w1, w2] G = ((b_RowReader_all_told [some w0, some w1, some w2, none] G).fin).calm := by rw [fd_RowReader_all_told]; rfl
def t_RowReader_read_pair_1 : FS :=
  (gRet (gTup (gCons (gVar 2) (gCons (gVar 3) (gCons (gVar 1) (gCons (gMeth 0 "all_told" 3 f_RowReader_all_told (gVar 0) (gCons (gC (.str "second")) (gCons (gC (.cl 3)) gNil))) gNil))))))
def t_RowReader_read_pair_2 : FS :=
  (gSeq (gAsg (gMeth 0 "all_told" 3 f_RowReader_all_told (gVar 0) (gCons (gC (.str "first")) (gCons (gC (.cl 2)) gNil))) (tgName 1))
  t_RowReader_read_pair_1)
def t_RowReader_read_pair_3 : FS :=
  (gSeq (gAsg (gMeth 0 "next_read" 2 f_RowReader_next_read (gVar 0) (gCons (gC (.cl 1)) gNil)) (tgTup 2 (tgCons (tgName 2) (tgCons (tgName 3) tgNil))))
  t_RowReader_read_pair_2)
def b_RowReader_read_pair : FS :=
  t_RowReader_read_pair_3
theorem fx_RowReader_read_pair : ∃ f : FC, f = fnC 4 b_RowReader_read_pair := ⟨_, rfl⟩
def f_RowReader_read_pair : FC := Classical.choose fx_RowReader_read_pair
theorem fd_RowReader_read_pair : f_RowReader_read_pair = fnC 4 b_RowReader_read_pair := Classical.choose_spec fx_RowReader_read_pair
theorem e_RowReader_read_pair (w0 : W) (G : GH) : f_RowReader_read_pair [w0] G = ((b_RowReader_read_pair [some w0, none, none, none] G).fin).calm := by rw [fd_RowReader_read_pair]; rfl
def t_RowReader_read_unit_1 : FS :=
  (gDrop (gMt "list" mAppend (gVar 1) (gCons (gMeth 0 "read_pair" 1 f_RowReader_read_pair (gVar 0) gNil) gNil)))
def t_RowReader_read_unit_2 : FS :=
  (gRet (gTup (gCons (gVar 4) (gCons (gCall cTuple (gCons (gVar 1) gNil)) gNil))))
def t_RowReader_read_unit_3 : FS :=
  (gSeq (gFor (iRng asRng1 (gCons (gVar 3) gNil)) (tgName 2)
  t_RowReader_read_unit_1)
  t_RowReader_read_unit_2)
def t_RowReader_read_unit_4 : FS :=
  (gSeq (gAsg (gLst true gNil) (tgName 1))
  t_RowReader_read_unit_3)
def t_RowReader_read_unit_5 : FS :=
  (gSeq (gAsg (gMeth 0 "next_read" 2 f_RowReader_next_read (gVar 0) (gCons (gC (.cl 4)) gNil)) (tgTup 2 (tgCons (tgName 3) (tgCons (tgName 4) tgNil))))
  t_RowReader_read_unit_4)
def b_RowReader_read_unit : FS :=
  t_RowReader_read_unit_5
theorem fx_RowReader_read_unit : ∃ f : FC, f = fnC 5 b_RowReader_read_unit := ⟨_, rfl⟩
def f_RowReader_read_unit : FC := Classical.choose fx_RowReader_read_unit
theorem fd_RowReader_read_unit : f_RowReader_read_unit = fnC 5 b_RowReader_read_unit := Classical.choose_spec fx_RowReader_read_unit
theorem e_RowReader_read_unit (w0 : W) (G : GH) : f_RowReader_read_unit [w0] G = ((b_RowReader_read_unit [some w0, none, none, none, none] G).fin).calm := by rw [fd_RowReader_read_unit]; rfl
def t_read_likeness_1 : FS :=
  (gDrop (gMt "list" mAppend (gVar 2) (gCons (gMeth 0 "read_unit" 1 f_RowReader_read_unit (gVar 1) gNil) gNil)))
def t_read_likeness_2 : FS :=
  (gRet (gCall cTuple (gCons (gVar 2) gNil)))
def t_read_likeness_3 : FS :=
  (gSeq (gWhile (gTest (gOp fLt (gFld 0 "at" (gVar 1)) (gCall cLen (gCons (gFld 0 "rows" (gVar 1)) gNil))))
  t_read_likeness_1)
  t_read_likeness_2)
def t_read_likeness_4 : FS :=
  (gSeq (gAsg (gLst true gNil) (tgName 2))
  t_read_likeness_3)
def t_read_likeness_5 : FS :=
  (gSeq (gAsg (gMake 0 2 f_RowReader___init__ (gCons (gMt "str" (mSplit false) (gVar 0) (gCons (gC (.str "\n")) gNil)) gNil)) (tgName 1))
  t_read_likeness_4)
def t_read_likeness_6 : FS :=
  (gSeq (gIfS (gTest (gOp fEq (gVar 0) (gC (.str ""))))
  (gRet (gTup gNil))
  gNext)
  t_read_likeness_5)
def b_read_likeness : FS :=
  t_read_likeness_6
theorem fx_read_likeness : ∃ f : FC, f = fnC 3 b_read_likeness := ⟨_, rfl⟩
def f_read_likeness : FC := Classical.choose fx_read_likeness
theorem fd_read_likeness : f_read_likeness = fnC 3 b_read_likeness := Classical.choose_spec fx_read_likeness
theorem e_read_likeness (w0 : W) (G : GH) : f_read_likeness [w0] G = ((b_read_likeness [some w0, none, none] G).fin).calm := by rw [fd_read_likeness]; rfl
def t__law_plain_kinds_1 : FS :=
  (gIfS (gTru (gCall cIsa (gCons (gVar 3) (gCons (gC (.op (.ty "tuple"))) gNil))))
  (gAsg (gOp (fAddL true) (gVar 1) (gCall (cList false) (gCons (gVar 3) gNil))) (tgName 1))
  (gIfS (gOrT (gTru (gCall cIsa (gCons (gVar 3) (gCons (gC (.op (.ty "bool"))) gNil)))) (gNotT (gTru (gIsaT ["int", "str"] (gVar 3)))))
  (gRet (gC (.bl false)))
  gNext))
def t__law_plain_kinds_2 : FS :=
  (gSeq (gAsg (gMt "list" mPop (gVar 1) gNil) (tgName 3))
  t__law_plain_kinds_1)
def t__law_plain_kinds_3 : FS :=
  (gSeq (gIfS (gNotT (gTru (gVar 1)))
  (gRet (gC (.bl true)))
  gNext)
  t__law_plain_kinds_2)
def t__law_plain_kinds_4 : FS :=
  (gRet (gC (.bl true)))
def t__law_plain_kinds_5 : FS :=
  (gSeq (gFor (iRng asRng1 (gCons (gC (.int 4000)) gNil)) (tgName 2)
  t__law_plain_kinds_3)
  t__law_plain_kinds_4)
def t__law_plain_kinds_6 : FS :=
  (gSeq (gAsg (gLst true (gCons (gVar 0) gNil)) (tgName 1))
  t__law_plain_kinds_5)
def b__law_plain_kinds : FS :=
  t__law_plain_kinds_6
theorem fx__law_plain_kinds : ∃ f : FC, f = fnC 4 b__law_plain_kinds := ⟨_, rfl⟩
def f__law_plain_kinds : FC := Classical.choose fx__law_plain_kinds
theorem fd__law_plain_kinds : f__law_plain_kinds = fnC 4 b__law_plain_kinds := Classical.choose_spec fx__law_plain_kinds
theorem e__law_plain_kinds (w0 : W) (G : GH) : f__law_plain_kinds [w0] G = ((b__law_plain_kinds [some w0, none, none, none] G).fin).calm := by rw [fd__law_plain_kinds]; rfl
def t__law_asked_1 : FS :=
  (gRet (gOp fEq (gCall (cFn 1 f_write_likeness) (gCons (gVar 3) gNil)) (gVar 1)))
def t__law_asked_2 : FS :=
  (gSeq (gIfS (gOrT (gNotT (gTru (gCall cIsa (gCons (gVar 3) (gCons (gC (.op (.ty "tuple"))) gNil))))) (gOrT (gTest (gOp fNe (gVar 3) (gVar 0))) (gNotT (gTru (gCall (cFn 1 f__law_plain_kinds) (gCons (gVar 3) gNil))))))
  (gRet (gC (.bl false)))
  gNext)
  t__law_asked_1)
def t__law_asked_3 : FS :=
  (gSeq (gAsg (gCall (cFn 1 f_read_likeness) (gCons (gVar 1) gNil)) (tgName 3))
  t__law_asked_2)
def t__law_asked_4 : FS :=
  (gSeq (gIfS (gOrT (gNotT (gTru (gCall cIsa (gCons (gVar 2) (gCons (gC (.op (.ty "str"))) gNil))))) (gTest (gOp fNe (gVar 2) (gVar 1))))
  (gRet (gC (.bl false)))
  gNext)
  t__law_asked_3)
def t__law_asked_5 : FS :=
  (gSeq (gAsg (gCall (cFn 1 f_write_likeness) (gCons (gVar 0) gNil)) (tgName 2))
  t__law_asked_4)
def t__law_asked_6 : FS :=
  (gSeq (gAsg (gCall (cFn 1 f__law_paper_text) (gCons (gVar 0) gNil)) (tgName 1))
  t__law_asked_5)
def b__law_asked : FS :=
  t__law_asked_6
theorem fx__law_asked : ∃ f : FC, f = fnC 4 b__law_asked := ⟨_, rfl⟩
def f__law_asked : FC := Classical.choose fx__law_asked
theorem fd__law_asked : f__law_asked = fnC 4 b__law_asked := Classical.choose_spec fx__law_asked
theorem e__law_asked (w0 : W) (G : GH) : f__law_asked [w0] G = ((b__law_asked [some w0, none, none, none] G).fin).calm := by rw [fd__law_asked]; rfl
def t__law_one_changed_1 : FS :=
  (gRet (gOp (fAddL false) (gOp (fAddL false) (gSlX false (gVar 1) gNoPart (gPart (gVar 2))) (gTup (gCons (gTup (gCons (gVar 6) (gCons (gVar 5) gNil))) gNil))) (gSlX false (gVar 1) (gPart (gOp (fAddL false) (gVar 2) (gC (.int 1)))) gNoPart)))
def t__law_one_changed_2 : FS :=
  (gSeq (gAsg (gOp (fAddL false) (gOp (fAddL false) (gSlX false (gVar 5) gNoPart (gPart (gVar 3))) (gTup (gCons (gTup (gCons (gVar 7) (gCons (gVar 8) (gCons (gVar 9) (gCons (gVar 10) gNil))))) gNil))) (gSlX false (gVar 5) (gPart (gOp (fAddL false) (gVar 3) (gC (.int 1)))) gNoPart)) (tgName 5))
  t__law_one_changed_1)
def t__law_one_changed_3 : FS :=
  (gSeq (gIfS (gTest (gOp fEq (gVar 4) (gC (.int 3))))
  (gAsg (gOp (fAddL false) (gTup (gCons (gTup (gCons (gCall (cFn 1 f__law_any) (gCons (gVar 0) gNil)) (gCons (gOp fIx (gOp fIx (gVar 7) (gC (.int 0))) (gC (.int 1))) gNil))) gNil)) (gSlX false (gVar 7) (gPart (gC (.int 1))) gNoPart)) (tgName 7))
  gNext)
  t__law_one_changed_2)
def t__law_one_changed_4 : FS :=
  (gSeq (gIfS (gTest (gOp fEq (gVar 4) (gC (.int 2))))
  (gAsg (gOp (fAddL false) (gVar 10) (gTup (gCons (gTup (gCons (gCall (cFn 1 f__law_any) (gCons (gVar 0) gNil)) (gCons (gCall (cFn 1 f__law_some_told) (gCons (gVar 0) gNil)) gNil))) gNil))) (tgName 10))
  gNext)
  t__law_one_changed_3)
def t__law_one_changed_5 : FS :=
  (gSeq (gIfS (gTest (gOp fEq (gVar 4) (gC (.int 1))))
  (gAsg (gOp (fAddL false) (gVar 6) (gTup (gCons (gCall (cFn 1 f__law_any) (gCons (gVar 0) gNil)) gNil))) (tgName 6))
  gNext)
  t__law_one_changed_4)
def t__law_one_changed_6 : FS :=
  (gSeq (gIfS (gTest (gOp fEq (gVar 4) (gC (.int 0))))
  (gAsg (gOp fSub (gCall (cFn 2 f__law_draw) (gCons (gVar 0) (gCons (gC (.int 40)) gNil))) (gC (.int 20))) (tgName 8))
  gNext)
  t__law_one_changed_5)
def t__law_one_changed_7 : FS :=
  (gSeq (gAsg (gCall (cFn 2 f__law_draw) (gCons (gVar 0) (gCons (gC (.int 4)) gNil))) (tgName 4))
  t__law_one_changed_6)
def t__law_one_changed_8 : FS :=
  (gSeq (gAsg (gOp fIx (gVar 5) (gVar 3)) (tgTup 4 (tgCons (tgName 7) (tgCons (tgName 8) (tgCons (tgName 9) (tgCons (tgName 10) tgNil))))))
  t__law_one_changed_7)
def t__law_one_changed_9 : FS :=
  (gSeq (gAsg (gCall (cFn 2 f__law_draw) (gCons (gVar 0) (gCons (gCall cLen (gCons (gVar 5) gNil)) gNil))) (tgName 3))
  t__law_one_changed_8)
def t__law_one_changed_10 : FS :=
  (gSeq (gAsg (gOp fIx (gVar 1) (gVar 2)) (tgTup 2 (tgCons (tgName 6) (tgCons (tgName 5) tgNil))))
  t__law_one_changed_9)
def t__law_one_changed_11 : FS :=
  (gSeq (gAsg (gCall (cFn 2 f__law_draw) (gCons (gVar 0) (gCons (gCall cLen (gCons (gVar 1) gNil)) gNil))) (tgName 2))
  t__law_one_changed_10)
def b__law_one_changed : FS :=
  t__law_one_changed_11
theorem fx__law_one_changed : ∃ f : FC, f = fnC 11 b__law_one_changed := ⟨_, rfl⟩
def f__law_one_changed : FC := Classical.choose fx__law_one_changed
theorem fd__law_one_changed : f__law_one_changed = fnC 11 b__law_one_changed := Classical.choose_spec fx__law_one_changed
theorem e__law_one_changed (w0 w1 : W) (G : GH) : f__law_one_changed [w0, w1] G = ((b__law_one_changed [some w0, some w1, none, none, none, none, none, none, none, none, none] G).fin).calm := by rw [fd__law_one_changed]; rfl
def t_law_1 : FS :=
  (gRet (gAnd (gOp fEq (gCall (cFn 1 f_write_likeness) (gCons (gTup gNil) gNil)) (gC (.str ""))) (gOp fEq (gCall (cFn 1 f_read_likeness) (gCons (gC (.str "")) gNil)) (gTup gNil))))
def t_law_2 : FS :=
  (gSeq (gIfS (gTru (gVar 2))
  (gSeq (gAsg (gCall (cFn 2 f__law_one_changed) (gCons (gVar 1) (gCons (gVar 2) gNil))) (tgName 3))
  (gIfS (gOrT (gNotT (gTru (gCall (cFn 1 f__law_asked) (gCons (gVar 3) gNil)))) (gNotT (gTru (gCall (cFn 1 f__law_asked) (gCons (gVar 2) gNil)))))
  (gRet (gC (.bl false)))
  gNext))
  gNext)
  t_law_1)
def t_law_3 : FS :=
  (gSeq (gIfS (gNotT (gTru (gCall (cFn 1 f__law_asked) (gCons (gVar 2) gNil))))
  (gRet (gC (.bl false)))
  gNext)
  t_law_2)
def t_law_4 : FS :=
  (gSeq (gIfS (gTest (gOp fEq (gCall (cFn 2 f__law_draw) (gCons (gVar 1) (gCons (gC (.int 4)) gNil))) (gC (.int 0))))
  (gAsg (gOp (fAddL false) (gVar 2) (gCall (cFn 3 f__law_some_paper) (gCons (gVar 1) (gCons (gC (.int 1)) (gCons (gC (.int 12)) gNil))))) (tgName 2))
  gNext)
  t_law_3)
def t_law_5 : FS :=
  (gSeq (gAsg (gCall (cFn 3 f__law_some_paper) (gCons (gVar 1) (gCons (gCall (cFn 2 f__law_draw) (gCons (gVar 1) (gCons (gC (.int 6)) gNil))) (gCons (gC (.int 3)) gNil)))) (tgName 2))
  t_law_4)
def t_law_6 : FS :=
  (gSeq (gAsg (gCall (cFn 1 f__law_deck) (gCons (gVar 0) gNil)) (tgName 1))
  t_law_5)
def b_law : FS :=
  t_law_6
theorem fx_law : ∃ f : FC, f = fnC 4 b_law := ⟨_, rfl⟩
def f_law : FC := Classical.choose fx_law
theorem fd_law : f_law = fnC 4 b_law := Classical.choose_spec fx_law
theorem e_law (w0 : W) (G : GH) : f_law [w0] G = ((b_law [some w0, none, none, none] G).fin).calm := by rw [fd_law]; rfl
end

structure Tx (K : PySem.W.Frag) (w : World) (mg : Str → Option Value) where
  a__law_deck : Addr
  d__law_deck : FuncData
  F__law_deck : Fun K "_law_deck" "_law_deck" s__law_deck a__law_deck d__law_deck
  g__law_deck : mg "_law_deck" = some (.ref a__law_deck)
  b__law_deck : Binds K d__law_deck ["script"] []
  a__law_draw : Addr
  d__law_draw : FuncData
  F__law_draw : Fun K "_law_draw" "_law_draw" s__law_draw a__law_draw d__law_draw
  g__law_draw : mg "_law_draw" = some (.ref a__law_draw)
  b__law_draw : Binds K d__law_draw ["deck", "many"] []
  a__law_any : Addr
  d__law_any : FuncData
  F__law_any : Fun K "_law_any" "_law_any" s__law_any a__law_any d__law_any
  g__law_any : mg "_law_any" = some (.ref a__law_any)
  b__law_any : Binds K d__law_any ["deck"] []
  a__law_some_told : Addr
  d__law_some_told : FuncData
  F__law_some_told : Fun K "_law_some_told" "_law_some_told" s__law_some_told a__law_some_told d__law_some_told
  g__law_some_told : mg "_law_some_told" = some (.ref a__law_some_told)
  b__law_some_told : Binds K d__law_some_told ["deck"] []
  a__law_some_paper : Addr
  d__law_some_paper : FuncData
  F__law_some_paper : Fun K "_law_some_paper" "_law_some_paper" s__law_some_paper a__law_some_paper d__law_some_paper
  g__law_some_paper : mg "_law_some_paper" = some (.ref a__law_some_paper)
  b__law_some_paper : Binds K d__law_some_paper ["deck", "units", "most"] []
  a__law_paper_text : Addr
  d__law_paper_text : FuncData
  F__law_paper_text : Fun K "_law_paper_text" "_law_paper_text" s__law_paper_text a__law_paper_text d__law_paper_text
  g__law_paper_text : mg "_law_paper_text" = some (.ref a__law_paper_text)
  b__law_paper_text : Binds K d__law_paper_text ["paper"] []
  a_joined : Addr
  d_joined : FuncData
  F_joined : Fun K "joined" "joined" s_joined a_joined d_joined
  g_joined : mg "joined" = some (.ref a_joined)
  b_joined : Binds K d_joined ["word", "parts"] []
  a_pair_written : Addr
  d_pair_written : FuncData
  F_pair_written : Fun K "pair_written" "pair_written" s_pair_written a_pair_written d_pair_written
  g_pair_written : mg "pair_written" = some (.ref a_pair_written)
  b_pair_written : Binds K d_pair_written ["pair"] []
  a_write_likeness : Addr
  d_write_likeness : FuncData
  F_write_likeness : Fun K "write_likeness" "write_likeness" s_write_likeness a_write_likeness d_write_likeness
  g_write_likeness : mg "write_likeness" = some (.ref a_write_likeness)
  b_write_likeness : Binds K d_write_likeness ["paper"] []
  a_RowReader___init__ : Addr
  d_RowReader___init__ : FuncData
  F_RowReader___init__ : Fun K "__init__" "RowReader.__init__" s_RowReader___init__ a_RowReader___init__ d_RowReader___init__
  b_RowReader___init__ : Binds K d_RowReader___init__ ["self", "rows"] []
  a_read_number : Addr
  d_read_number : FuncData
  F_read_number : Fun K "read_number" "read_number" s_read_number a_read_number d_read_number
  g_read_number : mg "read_number" = some (.ref a_read_number)
  b_read_number : Binds K d_read_number ["word"] []
  a_read_integer : Addr
  d_read_integer : FuncData
  F_read_integer : Fun K "read_integer" "read_integer" s_read_integer a_read_integer d_read_integer
  g_read_integer : mg "read_integer" = some (.ref a_read_integer)
  b_read_integer : Binds K d_read_integer ["word"] []
  a_read_integers : Addr
  d_read_integers : FuncData
  F_read_integers : Fun K "read_integers" "read_integers" s_read_integers a_read_integers d_read_integers
  g_read_integers : mg "read_integers" = some (.ref a_read_integers)
  b_read_integers : Binds K d_read_integers ["words"] []
  a_read_pair_row : Addr
  d_read_pair_row : FuncData
  F_read_pair_row : Fun K "read_pair_row" "read_pair_row" s_read_pair_row a_read_pair_row d_read_pair_row
  g_read_pair_row : mg "read_pair_row" = some (.ref a_read_pair_row)
  b_read_pair_row : Binds K d_read_pair_row ["words"] []
  a_read_told : Addr
  d_read_told : FuncData
  F_read_told : Fun K "read_told" "read_told" s_read_told a_read_told d_read_told
  g_read_told : mg "read_told" = some (.ref a_read_told)
  b_read_told : Binds K d_read_told ["words"] []
  a_read_first_row : Addr
  d_read_first_row : FuncData
  F_read_first_row : Fun K "read_first_row" "read_first_row" s_read_first_row a_read_first_row d_read_first_row
  g_read_first_row : mg "read_first_row" = some (.ref a_read_first_row)
  b_read_first_row : Binds K d_read_first_row ["words"] []
  a_read_second_row : Addr
  d_read_second_row : FuncData
  F_read_second_row : Fun K "read_second_row" "read_second_row" s_read_second_row a_read_second_row d_read_second_row
  g_read_second_row : mg "read_second_row" = some (.ref a_read_second_row)
  b_read_second_row : Binds K d_read_second_row ["words"] []
  a_read_unit_row : Addr
  d_read_unit_row : FuncData
  F_read_unit_row : Fun K "read_unit_row" "read_unit_row" s_read_unit_row a_read_unit_row d_read_unit_row
  g_read_unit_row : mg "read_unit_row" = some (.ref a_read_unit_row)
  b_read_unit_row : Binds K d_read_unit_row ["words"] []
  a_RowReader_next_read : Addr
  d_RowReader_next_read : FuncData
  F_RowReader_next_read : Fun K "next_read" "RowReader.next_read" s_RowReader_next_read a_RowReader_next_read d_RowReader_next_read
  b_RowReader_next_read : Binds K d_RowReader_next_read ["self", "read"] []
  a_RowReader_all_told : Addr
  d_RowReader_all_told : FuncData
  F_RowReader_all_told : Fun K "all_told" "RowReader.all_told" s_RowReader_all_told a_RowReader_all_told d_RowReader_all_told
  b_RowReader_all_told : Binds K d_RowReader_all_told ["self", "word", "read"] []
  a_RowReader_read_pair : Addr
  d_RowReader_read_pair : FuncData
  F_RowReader_read_pair : Fun K "read_pair" "RowReader.read_pair" s_RowReader_read_pair a_RowReader_read_pair d_RowReader_read_pair
  b_RowReader_read_pair : Binds K d_RowReader_read_pair ["self"] []
  a_RowReader_read_unit : Addr
  d_RowReader_read_unit : FuncData
  F_RowReader_read_unit : Fun K "read_unit" "RowReader.read_unit" s_RowReader_read_unit a_RowReader_read_unit d_RowReader_read_unit
  b_RowReader_read_unit : Binds K d_RowReader_read_unit ["self"] []
  a_read_likeness : Addr
  d_read_likeness : FuncData
  F_read_likeness : Fun K "read_likeness" "read_likeness" s_read_likeness a_read_likeness d_read_likeness
  g_read_likeness : mg "read_likeness" = some (.ref a_read_likeness)
  b_read_likeness : Binds K d_read_likeness ["text"] []
  a__law_plain_kinds : Addr
  d__law_plain_kinds : FuncData
  F__law_plain_kinds : Fun K "_law_plain_kinds" "_law_plain_kinds" s__law_plain_kinds a__law_plain_kinds d__law_plain_kinds
  g__law_plain_kinds : mg "_law_plain_kinds" = some (.ref a__law_plain_kinds)
  b__law_plain_kinds : Binds K d__law_plain_kinds ["paper"] []
  a__law_asked : Addr
  d__law_asked : FuncData
  F__law_asked : Fun K "_law_asked" "_law_asked" s__law_asked a__law_asked d__law_asked
  g__law_asked : mg "_law_asked" = some (.ref a__law_asked)
  b__law_asked : Binds K d__law_asked ["paper"] []
  a__law_one_changed : Addr
  d__law_one_changed : FuncData
  F__law_one_changed : Fun K "_law_one_changed" "_law_one_changed" s__law_one_changed a__law_one_changed d__law_one_changed
  g__law_one_changed : mg "_law_one_changed" = some (.ref a__law_one_changed)
  b__law_one_changed : Binds K d__law_one_changed ["deck", "paper"] []
  a_law : Addr
  d_law : FuncData
  F_law : Fun K "law" "law" s_law a_law d_law
  g_law : mg "law" = some (.ref a_law)
  b_law : Binds K d_law ["script"] []
  A_RowReader : Addr
  cl_RowReader : Cls K A_RowReader
  mgC_RowReader : mg "RowReader" = some (.ref A_RowReader)
  mk_RowReader : Mk K A_RowReader a_RowReader___init__
  nf_RowReader_rows : NoAttr K A_RowReader "rows"
  nf_RowReader_at : NoAttr K A_RowReader "at"
  m_RowReader_next_read : Meth K A_RowReader "next_read" a_RowReader_next_read
  m_RowReader_all_told : Meth K A_RowReader "all_told" a_RowReader_all_told
  m_RowReader_read_pair : Meth K A_RowReader "read_pair" a_RowReader_read_pair
  m_RowReader_read_unit : Meth K A_RowReader "read_unit" a_RowReader_read_unit
  z_bool : mg "bool" = none
  z_int : mg "int" = none
  z_isinstance : mg "isinstance" = none
  z_len : mg "len" = none
  z_list : mg "list" = none
  z_range : mg "range" = none
  z_str : mg "str" = none
  z_tuple : mg "tuple" = none
  t_MOST_FIGURES : Tok
  c_MOST_FIGURES : mg "MOST_FIGURES" = some (.int (12) t_MOST_FIGURES)
  t_FIGURES : Tok
  c_FIGURES : mg "FIGURES" = some (.str "0123456789" t_FIGURES)
  a_PAIR_SIZES : Addr
  c_PAIR_SIZES : mg "PAIR_SIZES" = some (.ref a_PAIR_SIZES)
  k_PAIR_SIZES : KTupX K a_PAIR_SIZES ([(.int 5), (.int 7)] : List V)
  a_TOLD_SIZES : Addr
  c_TOLD_SIZES : mg "TOLD_SIZES" = some (.ref a_TOLD_SIZES)
  k_TOLD_SIZES : KTab K w a_TOLD_SIZES ([((.inr "num"), (.int 2)), ((.inr "len"), (.int 3)), ((.inr "spot"), (.int 4))] : List (Key × V))
def clsOf {K : PySem.W.Frag} {w : World} {mg : Str → Option Value} (T : Tx K w mg) : Nat → Addr := fun k => match k with
  | 0 => T.A_RowReader
  | 1 => T.a_read_pair_row
  | 2 => T.a_read_first_row
  | 3 => T.a_read_second_row
  | 4 => T.a_read_unit_row
  | _ => T.a_law
section
variable {P : Program} {w : World} {K : PySem.W.Frag} {mg : Str → Option Value} {base : Heap} {cls : Nat → Addr} (T : Tx K w mg)
theorem ok__law_deck : FnOk P w K mg base CX0 1 T.a__law_deck T.d__law_deck ["script"] (absF ⟨K, clsOf T, w⟩ 1 f__law_deck) := by
  rw [fd__law_deck]
  exact @fn0 ⟨K, clsOf T, w⟩ P w mg base "_law_deck" "_law_deck" s__law_deck T.a__law_deck T.d__law_deck names__law_deck ["script"] 0 b__law_deck T.F__law_deck sc__law_deck fun cdv A outer s H E hr => ((fss_one (fs_ret (fe_lst (own := true) (fa_cons (fe_lc (own := false) (onames := [("cell", 1)]) rfl sc__law_deck.nd (fi_seq (fe_slX (own := false) (fe_var (pv 0)) fo_none (fo_some fe_int))) (blkOk_by (N := names__law_deck) (sc := defScope s__law_deck) (by decide +kernel)) (fun _ _ _ _ _ => (fg_name (pg_name (i := 1) sc__law_deck.nd rfl (by first | exact .inl rfl | exact .inr rfl)))) (fun _ _ _ _ _ => fts_nil) (fun _ _ _ _ _ => (fe_callTy cf_intX (by rfl) T.z_int PyProof.Rows.boot_int (fa_cons (fe_var (pv 1)) fa_nil)))) (fa_cons fe_int (fa_cons fe_int (fa_cons fe_int fa_nil))))))))
theorem ok__law_draw : FnOk P w K mg base CX0 1 T.a__law_draw T.d__law_draw ["deck", "many"] (absF ⟨K, clsOf T, w⟩ 2 f__law_draw) := by
  rw [fd__law_draw]
  exact @fn0 ⟨K, clsOf T, w⟩ P w mg base "_law_draw" "_law_draw" s__law_draw T.a__law_draw T.d__law_draw names__law_draw ["deck", "many"] 0 b__law_draw T.F__law_draw sc__law_draw fun cdv A outer s H E hr => ((fss_cons (fs_set (fe_op (of_add (own := false)) (fe_ix (fe_var (pv 0)) fe_int) fe_int) (fe_var (pv 0)) fe_int)
  (fss_cons (fs_if (ft_cmp of_ge (fe_ix (fe_var (pv 0)) fe_int) (fe_var (pv 1)) (by rfl))
  (fss_cons (fs_asg (fe_op of_mod (fe_callTy cf_intX (by rfl) T.z_int PyProof.Rows.boot_int (fa_cons (fe_ix (fe_var (pv 0)) fe_int) fa_nil)) (fe_var (pv 1))) (fg_name (pg_name (i := 6) sc__law_draw.nd rfl (by first | exact .inl rfl | exact .inr rfl))))
  (fss_cons (fs_set (fe_op of_div (fe_ix (fe_var (pv 0)) fe_int) (fe_var (pv 1))) (fe_var (pv 0)) fe_int)
  (fss_one (fs_ret (fe_var (pv 6))))))
  fss_nil)
  (fss_cons (fs_asg fe_int (fg_name (pg_name (i := 2) sc__law_draw.nd rfl (by first | exact .inl rfl | exact .inr rfl))))
  (fss_cons (fs_if (ft_tru (fe_ix (fe_var (pv 0)) fe_int))
  (fss_one (fs_asg (fe_ix (fe_ix (fe_var (pv 0)) fe_int) (fe_op of_mod (fe_callTy cf_intX (by rfl) T.z_int PyProof.Rows.boot_int (fa_cons (fe_ix (fe_var (pv 0)) fe_int) fa_nil)) (fe_callB cf_len (by rfl) T.z_len PySem.boot_len (fa_cons (fe_ix (fe_var (pv 0)) fe_int) fa_nil)))) (fg_name (pg_name (i := 2) sc__law_draw.nd rfl (by first | exact .inl rfl | exact .inr rfl)))))
  fss_nil)
  (fss_cons (fs_set (fe_op (of_add (own := false)) (fe_ix (fe_var (pv 0)) fe_int) fe_int) (fe_var (pv 0)) fe_int)
  (fss_cons (fs_if ((fw_and (ft_cmp of_le (fe_ix (fe_var (pv 0)) fe_int) (fe_callB cf_len (by rfl) T.z_len PySem.boot_len (fa_cons (fe_ix (fe_var (pv 0)) fe_int) fa_nil)) (by rfl)) (fw_and1 (ft_cmp of_ge (fe_var (pv 2)) (fe_op of_pow fe_int fe_int) (by rfl))))).pt
  (fss_cons (fs_set (fe_op of_div (fe_var (pv 2)) (fe_var (pv 1))) (fe_var (pv 0)) fe_int)
  (fss_one (fs_ret (fe_op of_mod (fe_callTy cf_intX (by rfl) T.z_int PyProof.Rows.boot_int (fa_cons (fe_var (pv 2)) fa_nil)) (fe_var (pv 1))))))
  fss_nil)
  (fss_cons (fs_asg (fe_op of_mod (fe_callTy cf_intX (by rfl) T.z_int PyProof.Rows.boot_int (fa_cons (fe_op (of_add (own := false)) (fe_var (pv 2)) (fe_op of_mul fe_int (fe_ix (fe_var (pv 0)) fe_int))) fa_nil)) fe_int) (fg_name (pg_name (i := 3) sc__law_draw.nd rfl (by first | exact .inl rfl | exact .inr rfl))))
  (fss_cons (fs_asg (fe_op of_mod (fe_callTy cf_intX (by rfl) T.z_int PyProof.Rows.boot_int (fa_cons (fe_op (of_add (own := false)) (fe_op (of_add (own := false)) (fe_op of_mul (fe_var (pv 3)) (fe_var (pv 3))) (fe_op of_mul fe_int (fe_var (pv 3)))) (fe_ix (fe_var (pv 0)) fe_int)) fa_nil)) fe_int) (fg_name (pg_name (i := 4) sc__law_draw.nd rfl (by first | exact .inl rfl | exact .inr rfl))))
  (fss_cons (fs_asg (fe_op of_mod (fe_callTy cf_intX (by rfl) T.z_int PyProof.Rows.boot_int (fa_cons (fe_op (of_add (own := false)) (fe_op (of_add (own := false)) (fe_op of_mul (fe_op of_div (fe_var (pv 4)) fe_int) fe_int) (fe_op of_mul (fe_var (pv 4)) fe_int)) (fe_var (pv 3))) fa_nil)) fe_int) (fg_name (pg_name (i := 5) sc__law_draw.nd rfl (by first | exact .inl rfl | exact .inr rfl))))
  (fss_one (fs_ret (fe_op of_mod (fe_callTy cf_intX (by rfl) T.z_int PyProof.Rows.boot_int (fa_cons (fe_op of_div (fe_var (pv 5)) fe_int) fa_nil)) (fe_var (pv 1)))))))))))))))
theorem ok__law_any : FnOk P w K mg base CX0 2 T.a__law_any T.d__law_any ["deck"] (absF ⟨K, clsOf T, w⟩ 1 f__law_any) := by
  rw [fd__law_any]
  exact @fn0 ⟨K, clsOf T, w⟩ P w mg base "_law_any" "_law_any" s__law_any T.a__law_any T.d__law_any names__law_any ["deck"] 1 b__law_any T.F__law_any sc__law_any fun cdv A outer s H E hr => ((fss_cons (fs_asg (fe_call (ok__law_draw T) (hr.mono (by decide)) (by rfl) T.g__law_draw T.F__law_draw.kp T.b__law_draw (fa_cons (fe_var (pv 0)) (fa_cons fe_int fa_nil))) (fg_name (pg_name (i := 1) sc__law_any.nd rfl (by first | exact .inl rfl | exact .inr rfl))))
  (fss_cons (fs_if (ft_cmp (of_eq hr.units) (fe_var (pv 1)) fe_int (by rfl))
  (fss_one (fs_ret (fe_op (of_add (own := false)) (fe_op of_sub (fe_call (ok__law_draw T) (hr.mono (by decide)) (by rfl) T.g__law_draw T.F__law_draw.kp T.b__law_draw (fa_cons (fe_var (pv 0)) (fa_cons (fe_op of_sub (fe_op of_mul fe_int (fe_op of_pow fe_int fe_int)) fe_int) fa_nil))) (fe_op of_pow fe_int fe_int)) fe_int)))
  fss_nil)
  (fss_cons (fs_if (ft_cmp (of_eq hr.units) (fe_var (pv 1)) fe_int (by rfl))
  (fss_one (fs_ret (fe_ix (fe_lst (own := false) (fa_cons (fe_op of_sub (fe_op of_pow fe_int fe_int) fe_int) (fa_cons (fe_op of_sub fe_int (fe_op of_pow fe_int fe_int)) (fa_cons (fe_op of_pow fe_int fe_int) (fa_cons (fe_neg (fe_op of_pow fe_int fe_int)) fa_nil))))) (fe_call (ok__law_draw T) (hr.mono (by decide)) (by rfl) T.g__law_draw T.F__law_draw.kp T.b__law_draw (fa_cons (fe_var (pv 0)) (fa_cons fe_int fa_nil))))))
  fss_nil)
  (fss_one (fs_ret (fe_op of_sub (fe_call (ok__law_draw T) (hr.mono (by decide)) (by rfl) T.g__law_draw T.F__law_draw.kp T.b__law_draw (fa_cons (fe_var (pv 0)) (fa_cons fe_int fa_nil))) fe_int)))))))
theorem ok__law_some_told : FnOk P w K mg base CX0 3 T.a__law_some_told T.d__law_some_told ["deck"] (absF ⟨K, clsOf T, w⟩ 1 f__law_some_told) := by
  rw [fd__law_some_told]
  exact @fn0 ⟨K, clsOf T, w⟩ P w mg base "_law_some_told" "_law_some_told" s__law_some_told T.a__law_some_told T.d__law_some_told names__law_some_told ["deck"] 2 b__law_some_told T.F__law_some_told sc__law_some_told fun cdv A outer s H E hr => ((fss_cons (fs_asg (fe_call (ok__law_draw T) (hr.mono (by decide)) (by rfl) T.g__law_draw T.F__law_draw.kp T.b__law_draw (fa_cons (fe_var (pv 0)) (fa_cons fe_int fa_nil))) (fg_name (pg_name (i := 1) sc__law_some_told.nd rfl (by first | exact .inl rfl | exact .inr rfl))))
  (fss_cons (fs_if (ft_cmp (of_eq hr.units) (fe_var (pv 1)) fe_int (by rfl))
  (fss_one (fs_ret (fe_tup (fa_cons fe_str (fa_cons (fe_call (ok__law_any T) (hr.mono (by decide)) (by rfl) T.g__law_any T.F__law_any.kp T.b__law_any (fa_cons (fe_var (pv 0)) fa_nil)) fa_nil)))))
  fss_nil)
  (fss_cons (fs_if (ft_cmp (of_eq hr.units) (fe_var (pv 1)) fe_int (by rfl))
  (fss_one (fs_ret (fe_tup (fa_cons fe_str (fa_cons (fe_call (ok__law_any T) (hr.mono (by decide)) (by rfl) T.g__law_any T.F__law_any.kp T.b__law_any (fa_cons (fe_var (pv 0)) fa_nil)) (fa_cons (fe_call (ok__law_any T) (hr.mono (by decide)) (by rfl) T.g__law_any T.F__law_any.kp T.b__law_any (fa_cons (fe_var (pv 0)) fa_nil)) fa_nil))))))
  fss_nil)
  (fss_one (fs_ret (fe_tup (fa_cons fe_str (fa_cons (fe_call (ok__law_any T) (hr.mono (by decide)) (by rfl) T.g__law_any T.F__law_any.kp T.b__law_any (fa_cons (fe_var (pv 0)) fa_nil)) (fa_cons (fe_call (ok__law_any T) (hr.mono (by decide)) (by rfl) T.g__law_any T.F__law_any.kp T.b__law_any (fa_cons (fe_var (pv 0)) fa_nil)) (fa_cons (fe_call (ok__law_any T) (hr.mono (by decide)) (by rfl) T.g__law_any T.F__law_any.kp T.b__law_any (fa_cons (fe_var (pv 0)) fa_nil)) fa_nil)))))))))))
theorem ok__law_some_paper : FnOk P w K mg base CX0 4 T.a__law_some_paper T.d__law_some_paper ["deck", "units", "most"] (absF ⟨K, clsOf T, w⟩ 3 f__law_some_paper) := by
  rw [fd__law_some_paper]
  exact @fn0 ⟨K, clsOf T, w⟩ P w mg base "_law_some_paper" "_law_some_paper" s__law_some_paper T.a__law_some_paper T.d__law_some_paper names__law_some_paper ["deck", "units", "most"] 3 b__law_some_paper T.F__law_some_paper sc__law_some_paper fun cdv A outer s H E hr => ((fss_cons (fs_asg (fe_lst (own := true) fa_nil) (fg_name (pg_name (i := 3) sc__law_some_paper.nd rfl (by first | exact .inl rfl | exact .inr rfl))))
  (fss_cons (fs_for PassesOwn.never rfl (fi_rng1 (by rfl) T.z_range (fa_cons (fe_var (pv 1)) fa_nil)) (fg_name (pg_name (i := 4) sc__law_some_paper.nd rfl (by first | exact .inl rfl | exact .inr rfl)))
  (fss_cons (fs_asg (fe_lst (own := true) fa_nil) (fg_name (pg_name (i := 5) sc__law_some_paper.nd rfl (by first | exact .inl rfl | exact .inr rfl))))
  (fss_cons (fs_for PassesOwn.never rfl (fi_rng1 (by rfl) T.z_range (fa_cons (fe_op (of_add (own := false)) fe_int (fe_call (ok__law_draw T) (hr.mono (by decide)) (by rfl) T.g__law_draw T.F__law_draw.kp T.b__law_draw (fa_cons (fe_var (pv 0)) (fa_cons (fe_var (pv 2)) fa_nil)))) fa_nil)) (fg_name (pg_name (i := 6) sc__law_some_paper.nd rfl (by first | exact .inl rfl | exact .inr rfl)))
  (fss_cons (fs_lc (own := false) (i := 8) (onames := [("at", 11)]) rfl sc__law_some_paper.nd rfl rfl (sw_true rfl rfl rfl (by decide +kernel)) (fi_rng1 (by rfl) T.z_range (fa_cons (fe_op (of_add (own := false)) fe_int (fe_call (ok__law_draw T) (hr.mono (by decide)) (by rfl) T.g__law_draw T.F__law_draw.kp T.b__law_draw (fa_cons (fe_var (pv 0)) (fa_cons fe_int fa_nil)))) fa_nil)) (blkOk_by (N := names__law_some_paper) (sc := defScope s__law_some_paper) (by decide +kernel)) (fun _ _ _ _ _ => (fg_name (pg_name (i := 11) sc__law_some_paper.nd rfl (by first | exact .inl rfl | exact .inr rfl)))) (fun _ _ _ _ _ => fts_nil) (fun _ _ _ _ _ => (fe_tup (fa_cons (fe_call (ok__law_any T) (hr.mono (by decide)) (by rfl) T.g__law_any T.F__law_any.kp T.b__law_any (fa_cons (fe_var (pv 0)) fa_nil)) (fa_cons (fe_call (ok__law_any T) (hr.mono (by decide)) (by rfl) T.g__law_any T.F__law_any.kp T.b__law_any (fa_cons (fe_var (pv 0)) fa_nil)) fa_nil)))))
  (fss_cons (fs_lc (own := false) (i := 9) (onames := [("at", 11)]) rfl sc__law_some_paper.nd rfl rfl (sw_true rfl rfl rfl (by decide +kernel)) (fi_rng1 (by rfl) T.z_range (fa_cons (fe_call (ok__law_draw T) (hr.mono (by decide)) (by rfl) T.g__law_draw T.F__law_draw.kp T.b__law_draw (fa_cons (fe_var (pv 0)) (fa_cons fe_int fa_nil))) fa_nil)) (blkOk_by (N := names__law_some_paper) (sc := defScope s__law_some_paper) (by decide +kernel)) (fun _ _ _ _ _ => (fg_name (pg_name (i := 11) sc__law_some_paper.nd rfl (by first | exact .inl rfl | exact .inr rfl)))) (fun _ _ _ _ _ => fts_nil) (fun _ _ _ _ _ => (fe_tup (fa_cons (fe_tup (fa_cons (fe_call (ok__law_any T) (hr.mono (by decide)) (by rfl) T.g__law_any T.F__law_any.kp T.b__law_any (fa_cons (fe_var (pv 0)) fa_nil)) (fa_cons (fe_call (ok__law_any T) (hr.mono (by decide)) (by rfl) T.g__law_any T.F__law_any.kp T.b__law_any (fa_cons (fe_var (pv 0)) fa_nil)) fa_nil))) (fa_cons (fe_call (ok__law_some_told T) (hr.mono (by decide)) (by rfl) T.g__law_some_told T.F__law_some_told.kp T.b__law_some_told (fa_cons (fe_var (pv 0)) fa_nil)) fa_nil)))))
  (fss_cons (fs_lc (own := false) (i := 10) (onames := [("at", 11)]) rfl sc__law_some_paper.nd rfl rfl (sw_true rfl rfl rfl (by decide +kernel)) (fi_rng1 (by rfl) T.z_range (fa_cons (fe_call (ok__law_draw T) (hr.mono (by decide)) (by rfl) T.g__law_draw T.F__law_draw.kp T.b__law_draw (fa_cons (fe_var (pv 0)) (fa_cons fe_int fa_nil))) fa_nil)) (blkOk_by (N := names__law_some_paper) (sc := defScope s__law_some_paper) (by decide +kernel)) (fun _ _ _ _ _ => (fg_name (pg_name (i := 11) sc__law_some_paper.nd rfl (by first | exact .inl rfl | exact .inr rfl)))) (fun _ _ _ _ _ => fts_nil) (fun _ _ _ _ _ => (fe_tup (fa_cons (fe_call (ok__law_any T) (hr.mono (by decide)) (by rfl) T.g__law_any T.F__law_any.kp T.b__law_any (fa_cons (fe_var (pv 0)) fa_nil)) (fa_cons (fe_call (ok__law_some_told T) (hr.mono (by decide)) (by rfl) T.g__law_some_told T.F__law_some_told.kp T.b__law_some_told (fa_cons (fe_var (pv 0)) fa_nil)) fa_nil)))))
  (fss_one (fs_expr (fe_mt PySem.F.plainAttrs_list PySem.F.slot_list_append PySem.F.type_list_append mf_append (fe_var (pv 5)) (fa_cons (fe_tup (fa_cons (fe_callTy cf_tuple (by rfl) T.z_tuple PyProof.Rows.boot_tuple (fa_cons (fe_var (pv 8)) fa_nil)) (fa_cons (fe_call (ok__law_any T) (hr.mono (by decide)) (by rfl) T.g__law_any T.F__law_any.kp T.b__law_any (fa_cons (fe_var (pv 0)) fa_nil)) (fa_cons (fe_callTy cf_tuple (by rfl) T.z_tuple PyProof.Rows.boot_tuple (fa_cons (fe_var (pv 9)) fa_nil)) (fa_cons (fe_callTy cf_tuple (by rfl) T.z_tuple PyProof.Rows.boot_tuple (fa_cons (fe_var (pv 10)) fa_nil)) fa_nil))))) fa_nil))))))))
  (fss_cons (fs_lc (own := false) (i := 7) (onames := [("at", 11)]) rfl sc__law_some_paper.nd rfl rfl (sw_true rfl rfl rfl (by decide +kernel)) (fi_rng1 (by rfl) T.z_range (fa_cons (fe_call (ok__law_draw T) (hr.mono (by decide)) (by rfl) T.g__law_draw T.F__law_draw.kp T.b__law_draw (fa_cons (fe_var (pv 0)) (fa_cons fe_int fa_nil))) fa_nil)) (blkOk_by (N := names__law_some_paper) (sc := defScope s__law_some_paper) (by decide +kernel)) (fun _ _ _ _ _ => (fg_name (pg_name (i := 11) sc__law_some_paper.nd rfl (by first | exact .inl rfl | exact .inr rfl)))) (fun _ _ _ _ _ => fts_nil) (fun _ _ _ _ _ => (fe_call (ok__law_any T) (hr.mono (by decide)) (by rfl) T.g__law_any T.F__law_any.kp T.b__law_any (fa_cons (fe_var (pv 0)) fa_nil))))
  (fss_one (fs_expr (fe_mt PySem.F.plainAttrs_list PySem.F.slot_list_append PySem.F.type_list_append mf_append (fe_var (pv 3)) (fa_cons (fe_tup (fa_cons (fe_callTy cf_tuple (by rfl) T.z_tuple PyProof.Rows.boot_tuple (fa_cons (fe_var (pv 7)) fa_nil)) (fa_cons (fe_callTy cf_tuple (by rfl) T.z_tuple PyProof.Rows.boot_tuple (fa_cons (fe_var (pv 5)) fa_nil)) fa_nil))) fa_nil))))))))
  (fss_one (fs_ret (fe_callTy cf_tuple (by rfl) T.z_tuple PyProof.Rows.boot_tuple (fa_cons (fe_var (pv 3)) fa_nil)))))))
theorem ok__law_paper_text : FnOk P w K mg base CX0 1 T.a__law_paper_text T.d__law_paper_text ["paper"] (absF ⟨K, clsOf T, w⟩ 1 f__law_paper_text) := by
  rw [fd__law_paper_text]
  exact @fn0 ⟨K, clsOf T, w⟩ P w mg base "_law_paper_text" "_law_paper_text" s__law_paper_text T.a__law_paper_text T.d__law_paper_text names__law_paper_text ["paper"] 0 b__law_paper_text T.F__law_paper_text sc__law_paper_text fun cdv A outer s H E hr => ((fss_cons (fs_asg (fe_lst (own := true) fa_nil) (fg_name (pg_name (i := 1) sc__law_paper_text.nd rfl (by first | exact .inl rfl | exact .inr rfl))))
  (fss_cons (fs_for PassesOwn.never rfl (fi_seq (fe_var (pv 0))) (fg_tup rfl (fgs_cons (fg_name (pg_name (i := 2) sc__law_paper_text.nd rfl (by first | exact .inl rfl | exact .inr rfl))) (fgs_cons (fg_name (pg_name (i := 3) sc__law_paper_text.nd rfl (by first | exact .inl rfl | exact .inr rfl))) fgs_nil)))
  (fss_cons (fs_expr (fe_mt PySem.F.plainAttrs_list PySem.F.slot_list_append PySem.F.type_list_append mf_append (fe_var (pv 1)) (fa_cons (fe_mt PySem.F.plainAttrs_str PySem.F.slot_str_join PySem.F.type_str_join mf_join fe_str (fa_cons (fe_op (of_add (own := false)) (fe_lst (own := false) (fa_cons fe_str (fa_cons (fe_callTy cf_strX (by rfl) T.z_str PyProof.Rows.boot_str (fa_cons (fe_callB cf_len (by rfl) T.z_len PySem.boot_len (fa_cons (fe_var (pv 3)) fa_nil)) fa_nil)) fa_nil))) (fe_lc (own := false) (onames := [("row", 10)]) rfl sc__law_paper_text.nd (fi_seq (fe_var (pv 2))) (blkOk_by (N := names__law_paper_text) (sc := defScope s__law_paper_text) (by decide +kernel)) (fun _ _ _ _ _ => (fg_name (pg_name (i := 10) sc__law_paper_text.nd rfl (by first | exact .inl rfl | exact .inr rfl)))) (fun _ _ _ _ _ => fts_nil) (fun _ _ _ _ _ => (fe_callTy cf_strX (by rfl) T.z_str PyProof.Rows.boot_str (fa_cons (fe_var (pv 10)) fa_nil))))) fa_nil)) fa_nil)))
  (fss_one (fs_for PassesOwn.never rfl (fi_seq (fe_var (pv 3))) (fg_name (pg_name (i := 4) sc__law_paper_text.nd rfl (by first | exact .inl rfl | exact .inr rfl)))
  (fss_cons (fs_asg (fe_lst (own := false) (fa_cons fe_str fa_nil)) (fg_name (pg_name (i := 5) sc__law_paper_text.nd rfl (by first | exact .inl rfl | exact .inr rfl))))
  (fss_cons (fs_for PassesOwn.never rfl (fi_seq (fe_ix (fe_var (pv 4)) fe_int)) (fg_name (pg_name (i := 6) sc__law_paper_text.nd rfl (by first | exact .inl rfl | exact .inr rfl)))
  (fss_one (fs_asg (fe_op (of_add (own := false)) (fe_var (pv 5)) (fe_lst (own := false) (fa_cons (fe_callTy cf_strX (by rfl) T.z_str PyProof.Rows.boot_str (fa_cons (fe_ix (fe_var (pv 6)) fe_int) fa_nil)) (fa_cons (fe_callTy cf_strX (by rfl) T.z_str PyProof.Rows.boot_str (fa_cons (fe_ix (fe_var (pv 6)) fe_int) fa_nil)) fa_nil)))) (fg_name (pg_name (i := 5) sc__law_paper_text.nd rfl (by first | exact .inl rfl | exact .inr rfl))))))
  (fss_cons (fs_expr (fe_mt PySem.F.plainAttrs_list PySem.F.slot_list_append PySem.F.type_list_append mf_append (fe_var (pv 1)) (fa_cons (fe_mt PySem.F.plainAttrs_str PySem.F.slot_str_join PySem.F.type_str_join mf_join fe_str (fa_cons (fe_op (of_add (own := false)) (fe_var (pv 5)) (fe_lst (own := false) (fa_cons fe_str (fa_cons (fe_callTy cf_strX (by rfl) T.z_str PyProof.Rows.boot_str (fa_cons (fe_ix (fe_var (pv 4)) fe_int) fa_nil)) fa_nil)))) fa_nil)) fa_nil)))
  (fss_cons (fs_for PassesOwn.never rfl (fi_seq (fe_ix (fe_var (pv 4)) fe_int)) (fg_tup rfl (fgs_cons (fg_name (pg_name (i := 7) sc__law_paper_text.nd rfl (by first | exact .inl rfl | exact .inr rfl))) (fgs_cons (fg_name (pg_name (i := 8) sc__law_paper_text.nd rfl (by first | exact .inl rfl | exact .inr rfl))) fgs_nil)))
  (fss_one (fs_expr (fe_mt PySem.F.plainAttrs_list PySem.F.slot_list_append PySem.F.type_list_append mf_append (fe_var (pv 1)) (fa_cons (fe_mt PySem.F.plainAttrs_str PySem.F.slot_str_join PySem.F.type_str_join mf_join fe_str (fa_cons (fe_op (of_add (own := false)) (fe_lst (own := false) (fa_cons fe_str (fa_cons (fe_callTy cf_strX (by rfl) T.z_str PyProof.Rows.boot_str (fa_cons (fe_ix (fe_var (pv 7)) fe_int) fa_nil)) (fa_cons (fe_callTy cf_strX (by rfl) T.z_str PyProof.Rows.boot_str (fa_cons (fe_ix (fe_var (pv 7)) fe_int) fa_nil)) fa_nil)))) (fe_lc (own := false) (onames := [("part", 11)]) rfl sc__law_paper_text.nd (fi_seq (fe_var (pv 8))) (blkOk_by (N := names__law_paper_text) (sc := defScope s__law_paper_text) (by decide +kernel)) (fun _ _ _ _ _ => (fg_name (pg_name (i := 11) sc__law_paper_text.nd rfl (by first | exact .inl rfl | exact .inr rfl)))) (fun _ _ _ _ _ => fts_nil) (fun _ _ _ _ _ => (fe_callTy cf_strX (by rfl) T.z_str PyProof.Rows.boot_str (fa_cons (fe_var (pv 11)) fa_nil))))) fa_nil)) fa_nil)))))
  (fss_one (fs_for PassesOwn.never rfl (fi_seq (fe_ix (fe_var (pv 4)) fe_int)) (fg_tup rfl (fgs_cons (fg_name (pg_name (i := 9) sc__law_paper_text.nd rfl (by first | exact .inl rfl | exact .inr rfl))) (fgs_cons (fg_name (pg_name (i := 8) sc__law_paper_text.nd rfl (by first | exact .inl rfl | exact .inr rfl))) fgs_nil)))
  (fss_one (fs_expr (fe_mt PySem.F.plainAttrs_list PySem.F.slot_list_append PySem.F.type_list_append mf_append (fe_var (pv 1)) (fa_cons (fe_mt PySem.F.plainAttrs_str PySem.F.slot_str_join PySem.F.type_str_join mf_join fe_str (fa_cons (fe_op (of_add (own := false)) (fe_lst (own := false) (fa_cons fe_str (fa_cons (fe_callTy cf_strX (by rfl) T.z_str PyProof.Rows.boot_str (fa_cons (fe_var (pv 9)) fa_nil)) fa_nil))) (fe_lc (own := false) (onames := [("part", 11)]) rfl sc__law_paper_text.nd (fi_seq (fe_var (pv 8))) (blkOk_by (N := names__law_paper_text) (sc := defScope s__law_paper_text) (by decide +kernel)) (fun _ _ _ _ _ => (fg_name (pg_name (i := 11) sc__law_paper_text.nd rfl (by first | exact .inl rfl | exact .inr rfl)))) (fun _ _ _ _ _ => fts_nil) (fun _ _ _ _ _ => (fe_callTy cf_strX (by rfl) T.z_str PyProof.Rows.boot_str (fa_cons (fe_var (pv 11)) fa_nil))))) fa_nil)) fa_nil))))))))))))))
  (fss_one (fs_ret (fe_mt PySem.F.plainAttrs_str PySem.F.slot_str_join PySem.F.type_str_join mf_join fe_str (fa_cons (fe_var (pv 1)) fa_nil)))))))
theorem ok_joined : FnOk P w K mg base CX0 1 T.a_joined T.d_joined ["word", "parts"] (absF ⟨K, clsOf T, w⟩ 2 f_joined) := by
  rw [fd_joined]
  exact @fn0 ⟨K, clsOf T, w⟩ P w mg base "joined" "joined" s_joined T.a_joined T.d_joined names_joined ["word", "parts"] 0 b_joined T.F_joined sc_joined fun cdv A outer s H E hr => ((fss_one (fs_ret (fe_mt PySem.F.plainAttrs_str PySem.F.slot_str_join PySem.F.type_str_join mf_join fe_str (fa_cons (fe_op (of_add (own := false)) (fe_lst (own := false) (fa_cons (fe_var (pv 0)) fa_nil)) (fe_lc (own := false) (onames := [("part", 2)]) rfl sc_joined.nd (fi_seq (fe_var (pv 1))) (blkOk_by (N := names_joined) (sc := defScope s_joined) (by decide +kernel)) (fun _ _ _ _ _ => (fg_name (pg_name (i := 2) sc_joined.nd rfl (by first | exact .inl rfl | exact .inr rfl)))) (fun _ _ _ _ _ => fts_nil) (fun _ _ _ _ _ => (fe_callTy cf_strX (by rfl) T.z_str PyProof.Rows.boot_str (fa_cons (fe_var (pv 2)) fa_nil))))) fa_nil)))))
theorem ok_pair_written : FnOk P w K mg base CX0 2 T.a_pair_written T.d_pair_written ["pair"] (absF ⟨K, clsOf T, w⟩ 1 f_pair_written) := by
  rw [fd_pair_written]
  exact @fn0 ⟨K, clsOf T, w⟩ P w mg base "pair_written" "pair_written" s_pair_written T.a_pair_written T.d_pair_written names_pair_written ["pair"] 1 b_pair_written T.F_pair_written sc_pair_written fun cdv A outer s H E hr => ((fss_cons (fs_asg (fe_var (pv 0)) (fg_tup rfl (fgs_cons (fg_name (pg_name (i := 3) sc_pair_written.nd rfl (by first | exact .inl rfl | exact .inr rfl))) (fgs_cons (fg_name (pg_name (i := 4) sc_pair_written.nd rfl (by first | exact .inl rfl | exact .inr rfl))) (fgs_cons (fg_name (pg_name (i := 5) sc_pair_written.nd rfl (by first | exact .inl rfl | exact .inr rfl))) (fgs_cons (fg_name (pg_name (i := 6) sc_pair_written.nd rfl (by first | exact .inl rfl | exact .inr rfl))) fgs_nil))))))
  (fss_cons (fs_lc2 (own := false) (i := 1) (onames := [("level", 10), ("number", 9)]) (vs1 := [9]) rfl sc_pair_written.nd rfl rfl (sw_true rfl rfl rfl (by decide +kernel)) (fi_seq (fe_var (pv 3))) (blkOk_by (N := names_pair_written) (sc := defScope s_pair_written) (by decide +kernel)) (by decide) (fun _ _ _ _ _ => (fg_name (pg_name (i := 10) sc_pair_written.nd rfl (by first | exact .inl rfl | exact .inr rfl)))) (fun _ _ _ _ _ => fts_nil) (fun _ _ _ _ _ => (fi_seq (fe_var (pv 10)))) (fun _ _ _ _ _ => (fg_name (pg_name (i := 9) sc_pair_written.nd rfl (by first | exact .inl rfl | exact .inr rfl)))) (fun _ _ _ _ _ => fts_nil) (fun _ _ _ _ _ => (fe_var (pv 9))))
  (fss_cons (fs_asg (fe_lst (own := true) (fa_cons (fe_call (ok_joined T) (hr.mono (by decide)) (by rfl) T.g_joined T.F_joined.kp T.b_joined (fa_cons fe_str (fa_cons (fe_op (of_add (own := false)) (fe_var (pv 1)) (fe_lst (own := false) (fa_cons fe_str (fa_cons (fe_var (pv 4)) fa_nil)))) fa_nil))) fa_nil)) (fg_name (pg_name (i := 2) sc_pair_written.nd rfl (by first | exact .inl rfl | exact .inr rfl))))
  (fss_cons (fs_for PassesOwn.never rfl (fi_seq (fe_var (pv 5))) (fg_tup rfl (fgs_cons (fg_name (pg_name (i := 7) sc_pair_written.nd rfl (by first | exact .inl rfl | exact .inr rfl))) (fgs_cons (fg_name (pg_name (i := 8) sc_pair_written.nd rfl (by first | exact .inl rfl | exact .inr rfl))) fgs_nil)))
  (fss_one (fs_expr (fe_mt PySem.F.plainAttrs_list PySem.F.slot_list_append PySem.F.type_list_append mf_append (fe_var (pv 2)) (fa_cons (fe_call (ok_joined T) (hr.mono (by decide)) (by rfl) T.g_joined T.F_joined.kp T.b_joined (fa_cons fe_str (fa_cons (fe_op (of_add (own := false)) (fe_var (pv 7)) (fe_var (pv 8))) fa_nil))) fa_nil)))))
  (fss_cons (fs_for PassesOwn.never rfl (fi_seq (fe_var (pv 6))) (fg_tup rfl (fgs_cons (fg_name (pg_name (i := 9) sc_pair_written.nd rfl (by first | exact .inl rfl | exact .inr rfl))) (fgs_cons (fg_name (pg_name (i := 8) sc_pair_written.nd rfl (by first | exact .inl rfl | exact .inr rfl))) fgs_nil)))
  (fss_one (fs_expr (fe_mt PySem.F.plainAttrs_list PySem.F.slot_list_append PySem.F.type_list_append mf_append (fe_var (pv 2)) (fa_cons (fe_call (ok_joined T) (hr.mono (by decide)) (by rfl) T.g_joined T.F_joined.kp T.b_joined (fa_cons fe_str (fa_cons (fe_op (of_add (own := false)) (fe_tup (fa_cons (fe_var (pv 9)) fa_nil)) (fe_var (pv 8))) fa_nil))) fa_nil)))))
  (fss_one (fs_ret (fe_var (pv 2))))))))))
theorem ok_write_likeness : FnOk P w K mg base CX0 3 T.a_write_likeness T.d_write_likeness ["paper"] (absF ⟨K, clsOf T, w⟩ 1 f_write_likeness) := by
  rw [fd_write_likeness]
  exact @fn0 ⟨K, clsOf T, w⟩ P w mg base "write_likeness" "write_likeness" s_write_likeness T.a_write_likeness T.d_write_likeness names_write_likeness ["paper"] 2 b_write_likeness T.F_write_likeness sc_write_likeness fun cdv A outer s H E hr => ((fss_cons (fs_asg (fe_lst (own := true) fa_nil) (fg_name (pg_name (i := 1) sc_write_likeness.nd rfl (by first | exact .inl rfl | exact .inr rfl))))
  (fss_cons (fs_for PassesOwn.never rfl (fi_seq (fe_var (pv 0))) (fg_tup rfl (fgs_cons (fg_name (pg_name (i := 2) sc_write_likeness.nd rfl (by first | exact .inl rfl | exact .inr rfl))) (fgs_cons (fg_name (pg_name (i := 3) sc_write_likeness.nd rfl (by first | exact .inl rfl | exact .inr rfl))) fgs_nil)))
  (fss_cons (fs_expr (fe_mt PySem.F.plainAttrs_list PySem.F.slot_list_append PySem.F.type_list_append mf_append (fe_var (pv 1)) (fa_cons (fe_call (ok_joined T) (hr.mono (by decide)) (by rfl) T.g_joined T.F_joined.kp T.b_joined (fa_cons fe_str (fa_cons (fe_op (of_add (own := false)) (fe_tup (fa_cons (fe_callB cf_len (by rfl) T.z_len PySem.boot_len (fa_cons (fe_var (pv 3)) fa_nil)) fa_nil)) (fe_var (pv 2))) fa_nil))) fa_nil)))
  (fss_one (fs_for PassesOwn.never rfl (fi_seq (fe_var (pv 3))) (fg_name (pg_name (i := 4) sc_write_likeness.nd rfl (by first | exact .inl rfl | exact .inr rfl)))
  (fss_one (fs_expr (fe_mt PySem.F.plainAttrs_list PySem.F.slot_list_extend PySem.F.type_list_extend mf_extend (fe_var (pv 1)) (fa_cons (fe_frz (fe_call (ok_pair_written T) (hr.mono (by decide)) (by rfl) T.g_pair_written T.F_pair_written.kp T.b_pair_written (fa_cons (fe_var (pv 4)) fa_nil))) fa_nil))))))))
  (fss_one (fs_ret (fe_mt PySem.F.plainAttrs_str PySem.F.slot_str_join PySem.F.type_str_join mf_join fe_str (fa_cons (fe_var (pv 1)) fa_nil)))))))
theorem ok_RowReader___init__ : FnOk P w K mg base CX0 1 T.a_RowReader___init__ T.d_RowReader___init__ ["self", "rows"] (absF ⟨K, clsOf T, w⟩ 2 f_RowReader___init__) := by
  rw [fd_RowReader___init__]
  exact @fn0 ⟨K, clsOf T, w⟩ P w mg base "__init__" "RowReader.__init__" s_RowReader___init__ T.a_RowReader___init__ T.d_RowReader___init__ names_RowReader___init__ ["self", "rows"] 0 b_RowReader___init__ T.F_RowReader___init__ sc_RowReader___init__ fun cdv A outer s H E hr => ((fss_cons (fs_fld (k := 0) T.cl_RowReader T.nf_RowReader_rows (fe_var (pv 1)) (fe_var (pv 0)))
  (fss_one (fs_fld (k := 0) T.cl_RowReader T.nf_RowReader_at fe_int (fe_var (pv 0))))))
theorem ok_read_number : FnOk P w K mg base CX0 1 T.a_read_number T.d_read_number ["word"] (absF ⟨K, clsOf T, w⟩ 1 f_read_number) := by
  rw [fd_read_number]
  exact @fn0 ⟨K, clsOf T, w⟩ P w mg base "read_number" "read_number" s_read_number T.a_read_number T.d_read_number names_read_number ["word"] 0 b_read_number T.F_read_number sc_read_number fun cdv A outer s H E hr => ((fss_cons (fs_if ((fw_or (ft_not (ft_chain of_le of_le fe_int (fe_callB cf_len (by rfl) T.z_len PySem.boot_len (fa_cons (fe_var (pv 0)) fa_nil)) (fe_gl (v := (.int 12)) (by rfl) T.c_MOST_FIGURES ⟨_, rfl⟩))) (fw_or1 ((fw_and (ft_cmp (of_eq hr.units) (fe_ix (fe_var (pv 0)) fe_int) fe_str (by rfl)) (fw_and1 (ft_cmp (of_ne hr.units) (fe_var (pv 0)) fe_str (by rfl))))).pt))).pt
  (fss_one (fs_ret fe_non))
  fss_nil)
  (fss_cons (fs_for PassesOwn.never rfl (fi_txt (fe_var (pv 0))) (fg_name (pg_name (i := 1) sc_read_number.nd rfl (by first | exact .inl rfl | exact .inr rfl)))
  (fss_one (fs_if (ft_cmp of_notInT (fe_var (pv 1)) (fe_gl (v := (.str "0123456789")) (by rfl) T.c_FIGURES ⟨_, rfl⟩) (by rfl))
  (fss_one (fs_ret fe_non))
  fss_nil)))
  (fss_one (fs_ret (fe_callTy cf_intX (by rfl) T.z_int PyProof.Rows.boot_int (fa_cons (fe_var (pv 0)) fa_nil)))))))
theorem ok_read_integer : FnOk P w K mg base CX0 2 T.a_read_integer T.d_read_integer ["word"] (absF ⟨K, clsOf T, w⟩ 1 f_read_integer) := by
  rw [fd_read_integer]
  exact @fn0 ⟨K, clsOf T, w⟩ P w mg base "read_integer" "read_integer" s_read_integer T.a_read_integer T.d_read_integer names_read_integer ["word"] 1 b_read_integer T.F_read_integer sc_read_integer fun cdv A outer s H E hr => ((fss_cons (fs_if (ft_cmp (of_ne hr.units) (fe_slX (own := false) (fe_var (pv 0)) fo_none (fo_some fe_int)) fe_str (by rfl))
  (fss_one (fs_ret (fe_call (ok_read_number T) (hr.mono (by decide)) (by rfl) T.g_read_number T.F_read_number.kp T.b_read_number (fa_cons (fe_var (pv 0)) fa_nil))))
  fss_nil)
  (fss_cons (fs_asg (fe_call (ok_read_number T) (hr.mono (by decide)) (by rfl) T.g_read_number T.F_read_number.kp T.b_read_number (fa_cons (fe_slX (own := false) (fe_var (pv 0)) (fo_some fe_int) fo_none) fa_nil)) (fg_name (pg_name (i := 1) sc_read_integer.nd rfl (by first | exact .inl rfl | exact .inr rfl))))
  (fss_one (fs_ret (fe_if ((fw_or (ft_cmp of_is (fe_var (pv 1)) fe_non (by rfl)) (fw_or1 (ft_cmp (of_eq hr.units) (fe_var (pv 1)) fe_int (by rfl))))).pt fe_non (fe_neg (fe_var (pv 1)))))))))
theorem ok_read_integers : FnOk P w K mg base CX0 3 T.a_read_integers T.d_read_integers ["words"] (absF ⟨K, clsOf T, w⟩ 1 f_read_integers) := by
  rw [fd_read_integers]
  exact @fn0 ⟨K, clsOf T, w⟩ P w mg base "read_integers" "read_integers" s_read_integers T.a_read_integers T.d_read_integers names_read_integers ["words"] 2 b_read_integers T.F_read_integers sc_read_integers fun cdv A outer s H E hr => ((fss_cons (fs_asg (fe_callTy cf_tuple (by rfl) T.z_tuple PyProof.Rows.boot_tuple (fa_cons (fe_lc (own := false) (onames := [("word", 2)]) rfl sc_read_integers.nd (fi_seq (fe_var (pv 0))) (blkOk_by (N := names_read_integers) (sc := defScope s_read_integers) (by decide +kernel)) (fun _ _ _ _ _ => (fg_name (pg_name (i := 2) sc_read_integers.nd rfl (by first | exact .inl rfl | exact .inr rfl)))) (fun _ _ _ _ _ => fts_nil) (fun _ _ _ _ _ => (fe_call (ok_read_integer T) (hr.mono (by decide)) (by rfl) T.g_read_integer T.F_read_integer.kp T.b_read_integer (fa_cons (fe_var (pv 2)) fa_nil)))) fa_nil)) (fg_name (pg_name (i := 1) sc_read_integers.nd rfl (by first | exact .inl rfl | exact .inr rfl))))
  (fss_one (fs_ret (fe_if (ft_cmp (of_in hr.units) fe_non (fe_var (pv 1)) (by rfl)) fe_non (fe_var (pv 1)))))))
theorem ok_read_pair_row : FnOk P w K mg base CX0 4 T.a_read_pair_row T.d_read_pair_row ["words"] (absF ⟨K, clsOf T, w⟩ 1 f_read_pair_row) := by
  rw [fd_read_pair_row]
  exact @fn0 ⟨K, clsOf T, w⟩ P w mg base "read_pair_row" "read_pair_row" s_read_pair_row T.a_read_pair_row T.d_read_pair_row names_read_pair_row ["words"] 3 b_read_pair_row T.F_read_pair_row sc_read_pair_row fun cdv A outer s H E hr => ((fss_cons (fs_if ((fw_or (ft_cmp (of_ne hr.units) (fe_ix (fe_var (pv 0)) fe_int) fe_str (by rfl)) (fw_or (ft_cmp (of_notIn hr.units) (fe_callB cf_len (by rfl) T.z_len PySem.boot_len (fa_cons (fe_var (pv 0)) fa_nil)) (fe_glT (vs := [(.int 5), (.int 7)]) (by rfl) T.c_PAIR_SIZES T.k_PAIR_SIZES.tup) (by rfl)) (fw_or1 (ft_cmp (of_ne hr.units) (fe_ix (fe_var (pv 0)) (fe_neg fe_int)) fe_str (by rfl)))))).pt
  (fss_one (fs_ret fe_non))
  fss_nil)
  (fss_cons (fs_asg (fe_call (ok_read_integers T) (hr.mono (by decide)) (by rfl) T.g_read_integers T.F_read_integers.kp T.b_read_integers (fa_cons (fe_op (of_add (own := false)) (fe_slX (own := false) (fe_var (pv 0)) (fo_some fe_int) (fo_some (fe_neg fe_int))) (fe_slX (own := false) (fe_var (pv 0)) (fo_some (fe_neg fe_int)) fo_none)) fa_nil)) (fg_name (pg_name (i := 1) sc_read_pair_row.nd rfl (by first | exact .inl rfl | exact .inr rfl))))
  (fss_cons (fs_if (ft_cmp of_is (fe_var (pv 1)) fe_non (by rfl))
  (fss_one (fs_ret fe_non))
  fss_nil)
  (fss_one (fs_ret (fe_tup (fa_cons (fe_callTy cf_tuple (by rfl) T.z_tuple PyProof.Rows.boot_tuple (fa_cons (fe_lc (own := false) (onames := [("at", 2)]) rfl sc_read_pair_row.nd (fi_rng3 (by rfl) T.z_range (fa_cons fe_int (fa_cons (fe_op of_sub (fe_callB cf_len (by rfl) T.z_len PySem.boot_len (fa_cons (fe_var (pv 1)) fa_nil)) fe_int) (fa_cons fe_int fa_nil)))) (blkOk_by (N := names_read_pair_row) (sc := defScope s_read_pair_row) (by decide +kernel)) (fun _ _ _ _ _ => (fg_name (pg_name (i := 2) sc_read_pair_row.nd rfl (by first | exact .inl rfl | exact .inr rfl)))) (fun _ _ _ _ _ => fts_nil) (fun _ _ _ _ _ => (fe_slX (own := false) (fe_var (pv 1)) (fo_some (fe_var (pv 2))) (fo_some (fe_op (of_add (own := false)) (fe_var (pv 2)) fe_int))))) fa_nil)) (fa_cons (fe_ix (fe_var (pv 1)) (fe_neg fe_int)) fa_nil)))))))))
theorem ok_read_told : FnOk P w K mg base CX0 4 T.a_read_told T.d_read_told ["words"] (absF ⟨K, clsOf T, w⟩ 1 f_read_told) := by
  rw [fd_read_told]
  exact @fn0 ⟨K, clsOf T, w⟩ P w mg base "read_told" "read_told" s_read_told T.a_read_told T.d_read_told names_read_told ["words"] 3 b_read_told T.F_read_told sc_read_told fun cdv A outer s H E hr => ((fss_cons (fs_if ((fw_or (ft_cmp (of_eq hr.units) (fe_callB cf_len (by rfl) T.z_len PySem.boot_len (fa_cons (fe_var (pv 0)) fa_nil)) fe_int (by rfl)) (fw_or1 (ft_cmp (of_ne hr.units) (fe_get (fe_glD (tab := [((.inr "num"), (.int 2)), ((.inr "len"), (.int 3)), ((.inr "spot"), (.int 4))]) (by rfl) T.c_TOLD_SIZES T.k_TOLD_SIZES) (fe_ix (fe_var (pv 0)) fe_int)) (fe_callB cf_len (by rfl) T.z_len PySem.boot_len (fa_cons (fe_var (pv 0)) fa_nil)) (by rfl))))).pt
  (fss_one (fs_ret fe_non))
  fss_nil)
  (fss_cons (fs_asg (fe_call (ok_read_integers T) (hr.mono (by decide)) (by rfl) T.g_read_integers T.F_read_integers.kp T.b_read_integers (fa_cons (fe_slX (own := false) (fe_var (pv 0)) (fo_some fe_int) fo_none) fa_nil)) (fg_name (pg_name (i := 1) sc_read_told.nd rfl (by first | exact .inl rfl | exact .inr rfl))))
  (fss_one (fs_ret (fe_if (ft_cmp of_is (fe_var (pv 1)) fe_non (by rfl)) fe_non (fe_op (of_add (own := false)) (fe_tup (fa_cons (fe_ix (fe_var (pv 0)) fe_int) fa_nil)) (fe_var (pv 1)))))))))
theorem ok_read_first_row : FnOk P w K mg base CX0 5 T.a_read_first_row T.d_read_first_row ["words"] (absF ⟨K, clsOf T, w⟩ 1 f_read_first_row) := by
  rw [fd_read_first_row]
  exact @fn0 ⟨K, clsOf T, w⟩ P w mg base "read_first_row" "read_first_row" s_read_first_row T.a_read_first_row T.d_read_first_row names_read_first_row ["words"] 4 b_read_first_row T.F_read_first_row sc_read_first_row fun cdv A outer s H E hr => ((fss_cons (fs_asg (fe_call (ok_read_integers T) (hr.mono (by decide)) (by rfl) T.g_read_integers T.F_read_integers.kp T.b_read_integers (fa_cons (fe_slX (own := false) (fe_var (pv 0)) (fo_some fe_int) (fo_some fe_int)) fa_nil)) (fg_name (pg_name (i := 1) sc_read_first_row.nd rfl (by first | exact .inl rfl | exact .inr rfl))))
  (fss_cons (fs_asg (fe_call (ok_read_told T) (hr.mono (by decide)) (by rfl) T.g_read_told T.F_read_told.kp T.b_read_told (fa_cons (fe_slX (own := false) (fe_var (pv 0)) (fo_some fe_int) fo_none) fa_nil)) (fg_name (pg_name (i := 2) sc_read_first_row.nd rfl (by first | exact .inl rfl | exact .inr rfl))))
  (fss_one (fs_ret (fe_if ((fw_or (ft_cmp of_is (fe_var (pv 1)) fe_non (by rfl)) (fw_or1 (ft_cmp of_is (fe_var (pv 2)) fe_non (by rfl))))).pt fe_non (fe_tup (fa_cons (fe_var (pv 1)) (fa_cons (fe_var (pv 2)) fa_nil)))))))))
theorem ok_read_second_row : FnOk P w K mg base CX0 5 T.a_read_second_row T.d_read_second_row ["words"] (absF ⟨K, clsOf T, w⟩ 1 f_read_second_row) := by
  rw [fd_read_second_row]
  exact @fn0 ⟨K, clsOf T, w⟩ P w mg base "read_second_row" "read_second_row" s_read_second_row T.a_read_second_row T.d_read_second_row names_read_second_row ["words"] 4 b_read_second_row T.F_read_second_row sc_read_second_row fun cdv A outer s H E hr => ((fss_cons (fs_asg (fe_call (ok_read_integers T) (hr.mono (by decide)) (by rfl) T.g_read_integers T.F_read_integers.kp T.b_read_integers (fa_cons (fe_slX (own := false) (fe_var (pv 0)) (fo_some fe_int) (fo_some fe_int)) fa_nil)) (fg_name (pg_name (i := 1) sc_read_second_row.nd rfl (by first | exact .inl rfl | exact .inr rfl))))
  (fss_cons (fs_asg (fe_call (ok_read_told T) (hr.mono (by decide)) (by rfl) T.g_read_told T.F_read_told.kp T.b_read_told (fa_cons (fe_slX (own := false) (fe_var (pv 0)) (fo_some fe_int) fo_none) fa_nil)) (fg_name (pg_name (i := 2) sc_read_second_row.nd rfl (by first | exact .inl rfl | exact .inr rfl))))
  (fss_one (fs_ret (fe_if ((fw_or (ft_cmp of_is (fe_var (pv 1)) fe_non (by rfl)) (fw_or1 (ft_cmp of_is (fe_var (pv 2)) fe_non (by rfl))))).pt fe_non (fe_op (of_add (own := false)) (fe_var (pv 1)) (fe_tup (fa_cons (fe_var (pv 2)) fa_nil)))))))))
theorem ok_read_unit_row : FnOk P w K mg base CX0 4 T.a_read_unit_row T.d_read_unit_row ["words"] (absF ⟨K, clsOf T, w⟩ 1 f_read_unit_row) := by
  rw [fd_read_unit_row]
  exact @fn0 ⟨K, clsOf T, w⟩ P w mg base "read_unit_row" "read_unit_row" s_read_unit_row T.a_read_unit_row T.d_read_unit_row names_read_unit_row ["words"] 3 b_read_unit_row T.F_read_unit_row sc_read_unit_row fun cdv A outer s H E hr => ((fss_cons (fs_asg (fe_call (ok_read_integers T) (hr.mono (by decide)) (by rfl) T.g_read_integers T.F_read_integers.kp T.b_read_integers (fa_cons (fe_slX (own := false) (fe_var (pv 0)) (fo_some fe_int) fo_none) fa_nil)) (fg_name (pg_name (i := 1) sc_read_unit_row.nd rfl (by first | exact .inl rfl | exact .inr rfl))))
  (fss_cons (fs_if ((fw_or (ft_cmp (of_ne hr.units) (fe_ix (fe_var (pv 0)) fe_int) fe_str (by rfl)) (fw_or (ft_cmp of_is (fe_var (pv 1)) fe_non (by rfl)) (fw_or (ft_cmp (of_eq hr.units) (fe_callB cf_len (by rfl) T.z_len PySem.boot_len (fa_cons (fe_var (pv 1)) fa_nil)) fe_int (by rfl)) (fw_or1 (ft_cmp of_lt (fe_ix (fe_var (pv 1)) fe_int) fe_int (by rfl))))))).pt
  (fss_one (fs_ret fe_non))
  fss_nil)
  (fss_one (fs_ret (fe_tup (fa_cons (fe_ix (fe_var (pv 1)) fe_int) (fa_cons (fe_slX (own := false) (fe_var (pv 1)) (fo_some fe_int) fo_none) fa_nil))))))))
theorem tblOk_1 : ∀ k F, tbl_1 k = some F → ∃ fd ps, FnOk P w K mg base CX0 5 (clsOf T k) fd ps (absF ⟨K, clsOf T, w⟩ 1 F) ∧ PySem.W.keepIn K (.ref (clsOf T k)) = true ∧ Binds K fd ps [] := by
  intro k F h
  unfold tbl_1 at h
  split at h
  · cases h; exact ⟨T.d_read_pair_row, ["words"], (ok_read_pair_row T).mono (by decide), T.F_read_pair_row.kp, T.b_read_pair_row⟩
  · cases h; exact ⟨T.d_read_first_row, ["words"], (ok_read_first_row T).mono (by decide), T.F_read_first_row.kp, T.b_read_first_row⟩
  · cases h; exact ⟨T.d_read_second_row, ["words"], (ok_read_second_row T).mono (by decide), T.F_read_second_row.kp, T.b_read_second_row⟩
  · cases h; exact ⟨T.d_read_unit_row, ["words"], (ok_read_unit_row T).mono (by decide), T.F_read_unit_row.kp, T.b_read_unit_row⟩
  · cases h
theorem ok_RowReader_next_read : FnOk P w K mg base CX0 6 T.a_RowReader_next_read T.d_RowReader_next_read ["self", "read"] (absF ⟨K, clsOf T, w⟩ 2 f_RowReader_next_read) := by
  rw [fd_RowReader_next_read]
  exact @fn0 ⟨K, clsOf T, w⟩ P w mg base "next_read" "RowReader.next_read" s_RowReader_next_read T.a_RowReader_next_read T.d_RowReader_next_read names_RowReader_next_read ["self", "read"] 5 b_RowReader_next_read T.F_RowReader_next_read sc_RowReader_next_read fun cdv A outer s H E hr => ((fss_cons (fs_if (ft_cmp (of_eq hr.units) (fe_fld (k := 0) T.cl_RowReader T.nf_RowReader_at (fe_var (pv 0))) (fe_callB cf_len (by rfl) T.z_len PySem.boot_len (fa_cons (fe_fld (k := 0) T.cl_RowReader T.nf_RowReader_rows (fe_var (pv 0))) fa_nil)) (by rfl))
  (fss_one fs_no)
  fss_nil)
  (fss_cons (fs_asg (fe_callV (i := 1) (n := 1) (tbl := tbl_1) (tblOk_1 T) (hr.mono (by decide)) (by rfl) (by first | exact .inl rfl | exact .inr rfl) (fa_cons (fe_mt PySem.F.plainAttrs_str PySem.F.slot_str_split PySem.F.type_str_split (mf_split (own := false)) (fe_ix (fe_fld (k := 0) T.cl_RowReader T.nf_RowReader_rows (fe_var (pv 0))) (fe_fld (k := 0) T.cl_RowReader T.nf_RowReader_at (fe_var (pv 0)))) (fa_cons fe_str fa_nil)) fa_nil)) (fg_name (pg_name (i := 2) sc_RowReader_next_read.nd rfl (by first | exact .inl rfl | exact .inr rfl))))
  (fss_cons (fs_if (ft_cmp of_is (fe_var (pv 2)) fe_non (by rfl))
  (fss_one fs_no)
  fss_nil)
  (fss_cons (fs_fldAug (k := 0) T.cl_RowReader T.nf_RowReader_at (fe_var (pv 0)) fe_int)
  (fss_one (fs_ret (fe_var (pv 2)))))))))
theorem ok_RowReader_all_told : FnOk P w K mg base CX0 7 T.a_RowReader_all_told T.d_RowReader_all_told ["self", "word", "read"] (absF ⟨K, clsOf T, w⟩ 3 f_RowReader_all_told) := by
  rw [fd_RowReader_all_told]
  exact @fn0 ⟨K, clsOf T, w⟩ P w mg base "all_told" "RowReader.all_told" s_RowReader_all_told T.a_RowReader_all_told T.d_RowReader_all_told names_RowReader_all_told ["self", "word", "read"] 6 b_RowReader_all_told T.F_RowReader_all_told sc_RowReader_all_told fun cdv A outer s H E hr => ((fss_cons (fs_asg (fe_lst (own := true) fa_nil) (fg_name (pg_name (i := 3) sc_RowReader_all_told.nd rfl (by first | exact .inl rfl | exact .inr rfl))))
  (fss_cons (fs_while PassesOwn.never ((fw_and (ft_cmp of_lt (fe_fld (k := 0) T.cl_RowReader T.nf_RowReader_at (fe_var (pv 0))) (fe_callB cf_len (by rfl) T.z_len PySem.boot_len (fa_cons (fe_fld (k := 0) T.cl_RowReader T.nf_RowReader_rows (fe_var (pv 0))) fa_nil)) (by rfl)) (fw_and1 (ft_cmp (of_eq hr.units) (fe_ix (fe_mt PySem.F.plainAttrs_str PySem.F.slot_str_split PySem.F.type_str_split (mf_split (own := false)) (fe_ix (fe_fld (k := 0) T.cl_RowReader T.nf_RowReader_rows (fe_var (pv 0))) (fe_fld (k := 0) T.cl_RowReader T.nf_RowReader_at (fe_var (pv 0)))) (fa_cons fe_str fa_nil)) fe_int) (fe_var (pv 1)) (by rfl))))).pt
  (fss_one (fs_expr (fe_mt PySem.F.plainAttrs_list PySem.F.slot_list_append PySem.F.type_list_append mf_append (fe_var (pv 3)) (fa_cons (fe_meth (k := 0) T.cl_RowReader T.m_RowReader_next_read (ok_RowReader_next_read T) (hr.mono (by decide)) T.b_RowReader_next_read (fe_var (pv 0)) (fa_cons (fe_var (pv 2)) fa_nil)) fa_nil)))))
  (fss_one (fs_ret (fe_callTy cf_tuple (by rfl) T.z_tuple PyProof.Rows.boot_tuple (fa_cons (fe_var (pv 3)) fa_nil)))))))
theorem ok_RowReader_read_pair : FnOk P w K mg base CX0 8 T.a_RowReader_read_pair T.d_RowReader_read_pair ["self"] (absF ⟨K, clsOf T, w⟩ 1 f_RowReader_read_pair) := by
  rw [fd_RowReader_read_pair]
  exact @fn0 ⟨K, clsOf T, w⟩ P w mg base "read_pair" "RowReader.read_pair" s_RowReader_read_pair T.a_RowReader_read_pair T.d_RowReader_read_pair names_RowReader_read_pair ["self"] 7 b_RowReader_read_pair T.F_RowReader_read_pair sc_RowReader_read_pair fun cdv A outer s H E hr => ((fss_cons (fs_asg (fe_meth (k := 0) T.cl_RowReader T.m_RowReader_next_read (ok_RowReader_next_read T) (hr.mono (by decide)) T.b_RowReader_next_read (fe_var (pv 0)) (fa_cons (fe_fun (k := 1) (by rfl) T.g_read_pair_row) fa_nil)) (fg_tup rfl (fgs_cons (fg_name (pg_name (i := 2) sc_RowReader_read_pair.nd rfl (by first | exact .inl rfl | exact .inr rfl))) (fgs_cons (fg_name (pg_name (i := 3) sc_RowReader_read_pair.nd rfl (by first | exact .inl rfl | exact .inr rfl))) fgs_nil))))
  (fss_cons (fs_asg (fe_meth (k := 0) T.cl_RowReader T.m_RowReader_all_told (ok_RowReader_all_told T) (hr.mono (by decide)) T.b_RowReader_all_told (fe_var (pv 0)) (fa_cons fe_str (fa_cons (fe_fun (k := 2) (by rfl) T.g_read_first_row) fa_nil))) (fg_name (pg_name (i := 1) sc_RowReader_read_pair.nd rfl (by first | exact .inl rfl | exact .inr rfl))))
  (fss_one (fs_ret (fe_tup (fa_cons (fe_var (pv 2)) (fa_cons (fe_var (pv 3)) (fa_cons (fe_var (pv 1)) (fa_cons (fe_meth (k := 0) T.cl_RowReader T.m_RowReader_all_told (ok_RowReader_all_told T) (hr.mono (by decide)) T.b_RowReader_all_told (fe_var (pv 0)) (fa_cons fe_str (fa_cons (fe_fun (k := 3) (by rfl) T.g_read_second_row) fa_nil))) fa_nil))))))))))
theorem ok_RowReader_read_unit : FnOk P w K mg base CX0 9 T.a_RowReader_read_unit T.d_RowReader_read_unit ["self"] (absF ⟨K, clsOf T, w⟩ 1 f_RowReader_read_unit) := by
  rw [fd_RowReader_read_unit]
  exact @fn0 ⟨K, clsOf T, w⟩ P w mg base "read_unit" "RowReader.read_unit" s_RowReader_read_unit T.a_RowReader_read_unit T.d_RowReader_read_unit names_RowReader_read_unit ["self"] 8 b_RowReader_read_unit T.F_RowReader_read_unit sc_RowReader_read_unit fun cdv A outer s H E hr => ((fss_cons (fs_asg (fe_meth (k := 0) T.cl_RowReader T.m_RowReader_next_read (ok_RowReader_next_read T) (hr.mono (by decide)) T.b_RowReader_next_read (fe_var (pv 0)) (fa_cons (fe_fun (k := 4) (by rfl) T.g_read_unit_row) fa_nil)) (fg_tup rfl (fgs_cons (fg_name (pg_name (i := 3) sc_RowReader_read_unit.nd rfl (by first | exact .inl rfl | exact .inr rfl))) (fgs_cons (fg_name (pg_name (i := 4) sc_RowReader_read_unit.nd rfl (by first | exact .inl rfl | exact .inr rfl))) fgs_nil))))
  (fss_cons (fs_asg (fe_lst (own := true) fa_nil) (fg_name (pg_name (i := 1) sc_RowReader_read_unit.nd rfl (by first | exact .inl rfl | exact .inr rfl))))
  (fss_cons (fs_for PassesOwn.never rfl (fi_rng1 (by rfl) T.z_range (fa_cons (fe_var (pv 3)) fa_nil)) (fg_name (pg_name (i := 2) sc_RowReader_read_unit.nd rfl (by first | exact .inl rfl | exact .inr rfl)))
  (fss_one (fs_expr (fe_mt PySem.F.plainAttrs_list PySem.F.slot_list_append PySem.F.type_list_append mf_append (fe_var (pv 1)) (fa_cons (fe_meth0 (k := 0) T.cl_RowReader T.m_RowReader_read_pair (ok_RowReader_read_pair T) (hr.mono (by decide)) T.b_RowReader_read_pair (fe_var (pv 0))) fa_nil)))))
  (fss_one (fs_ret (fe_tup (fa_cons (fe_var (pv 4)) (fa_cons (fe_callTy cf_tuple (by rfl) T.z_tuple PyProof.Rows.boot_tuple (fa_cons (fe_var (pv 1)) fa_nil)) fa_nil)))))))))
theorem ok_read_likeness : FnOk P w K mg base CX0 10 T.a_read_likeness T.d_read_likeness ["text"] (absF ⟨K, clsOf T, w⟩ 1 f_read_likeness) := by
  rw [fd_read_likeness]
  exact @fn0 ⟨K, clsOf T, w⟩ P w mg base "read_likeness" "read_likeness" s_read_likeness T.a_read_likeness T.d_read_likeness names_read_likeness ["text"] 9 b_read_likeness T.F_read_likeness sc_read_likeness fun cdv A outer s H E hr => ((fss_cons (fs_if (ft_cmp (of_eq hr.units) (fe_var (pv 0)) fe_str (by rfl))
  (fss_one (fs_ret (fe_tup fa_nil)))
  fss_nil)
  (fss_cons (fs_asg (fe_make (k := 0) T.mk_RowReader (ok_RowReader___init__ T) (hr.mono (by decide)) (by rfl) T.mgC_RowReader T.b_RowReader___init__ (fa_cons (fe_mt PySem.F.plainAttrs_str PySem.F.slot_str_split PySem.F.type_str_split (mf_split (own := false)) (fe_var (pv 0)) (fa_cons fe_str fa_nil)) fa_nil)) (fg_name (pg_name (i := 1) sc_read_likeness.nd rfl (by first | exact .inl rfl | exact .inr rfl))))
  (fss_cons (fs_asg (fe_lst (own := true) fa_nil) (fg_name (pg_name (i := 2) sc_read_likeness.nd rfl (by first | exact .inl rfl | exact .inr rfl))))
  (fss_cons (fs_while PassesOwn.never (ft_cmp of_lt (fe_fld (k := 0) T.cl_RowReader T.nf_RowReader_at (fe_var (pv 1))) (fe_callB cf_len (by rfl) T.z_len PySem.boot_len (fa_cons (fe_fld (k := 0) T.cl_RowReader T.nf_RowReader_rows (fe_var (pv 1))) fa_nil)) (by rfl))
  (fss_one (fs_expr (fe_mt PySem.F.plainAttrs_list PySem.F.slot_list_append PySem.F.type_list_append mf_append (fe_var (pv 2)) (fa_cons (fe_meth0 (k := 0) T.cl_RowReader T.m_RowReader_read_unit (ok_RowReader_read_unit T) (hr.mono (by decide)) T.b_RowReader_read_unit (fe_var (pv 1))) fa_nil)))))
  (fss_one (fs_ret (fe_callTy cf_tuple (by rfl) T.z_tuple PyProof.Rows.boot_tuple (fa_cons (fe_var (pv 2)) fa_nil)))))))))
theorem ok__law_plain_kinds : FnOk P w K mg base CX0 1 T.a__law_plain_kinds T.d__law_plain_kinds ["paper"] (absF ⟨K, clsOf T, w⟩ 1 f__law_plain_kinds) := by
  rw [fd__law_plain_kinds]
  exact @fn0 ⟨K, clsOf T, w⟩ P w mg base "_law_plain_kinds" "_law_plain_kinds" s__law_plain_kinds T.a__law_plain_kinds T.d__law_plain_kinds names__law_plain_kinds ["paper"] 0 b__law_plain_kinds T.F__law_plain_kinds sc__law_plain_kinds fun cdv A outer s H E hr => ((fss_cons (fs_asg (fe_lst (own := true) (fa_cons (fe_var (pv 0)) fa_nil)) (fg_name (pg_name (i := 1) sc__law_plain_kinds.nd rfl (by first | exact .inl rfl | exact .inr rfl))))
  (fss_cons (fs_for PassesOwn.never rfl (fi_rng1 (by rfl) T.z_range (fa_cons fe_int fa_nil)) (fg_name (pg_name (i := 2) sc__law_plain_kinds.nd rfl (by first | exact .inl rfl | exact .inr rfl)))
  (fss_cons (fs_if (ft_not (ft_tru (fe_var (pv 1))))
  (fss_one (fs_ret fe_bl))
  fss_nil)
  (fss_cons (fs_asg (fe_mt0 PySem.F.plainAttrs_list PySem.F.slot_list_pop PySem.F.type_list_pop mf_pop (fe_var (pv 1))) (fg_name (pg_name (i := 3) sc__law_plain_kinds.nd rfl (by first | exact .inl rfl | exact .inr rfl))))
  (fss_one (fs_if (ft_tru (fe_callB cf_isa (by rfl) T.z_isinstance PyProof.Rows.boot_isinstance (fa_cons (fe_var (pv 3)) (fa_cons (fe_ty (by rfl) T.z_tuple PyProof.Rows.boot_tuple) fa_nil))))
  (fss_one (fs_asg (fe_op (of_add (own := true)) (fe_var (pv 1)) (fe_callTy (cf_list (own := false)) (by rfl) T.z_list PyProof.Rows.boot_list (fa_cons (fe_var (pv 3)) fa_nil))) (fg_name (pg_name (i := 1) sc__law_plain_kinds.nd rfl (by first | exact .inl rfl | exact .inr rfl)))))
  (fss_one (fs_if ((fw_or (ft_tru (fe_callB cf_isa (by rfl) T.z_isinstance PyProof.Rows.boot_isinstance (fa_cons (fe_var (pv 3)) (fa_cons (fe_ty (by rfl) T.z_bool PyProof.Rows.boot_bool) fa_nil)))) (fw_or1 (ft_not (ft_tru (fe_isaT (ts := ["int", "str"]) (by rfl) T.z_isinstance (fe_var (pv 3)) (fa_cons (fe_ty (by rfl) T.z_int PyProof.Rows.boot_int) (fa_cons (fe_ty (by rfl) T.z_str PyProof.Rows.boot_str) fa_nil)))))))).pt
  (fss_one (fs_ret fe_bl))
  fss_nil)))))))
  (fss_one (fs_ret fe_bl)))))
theorem ok__law_asked : FnOk P w K mg base CX0 11 T.a__law_asked T.d__law_asked ["paper"] (absF ⟨K, clsOf T, w⟩ 1 f__law_asked) := by
  rw [fd__law_asked]
  exact @fn0 ⟨K, clsOf T, w⟩ P w mg base "_law_asked" "_law_asked" s__law_asked T.a__law_asked T.d__law_asked names__law_asked ["paper"] 10 b__law_asked T.F__law_asked sc__law_asked fun cdv A outer s H E hr => ((fss_cons (fs_asg (fe_call (ok__law_paper_text T) (hr.mono (by decide)) (by rfl) T.g__law_paper_text T.F__law_paper_text.kp T.b__law_paper_text (fa_cons (fe_var (pv 0)) fa_nil)) (fg_name (pg_name (i := 1) sc__law_asked.nd rfl (by first | exact .inl rfl | exact .inr rfl))))
  (fss_cons (fs_asg (fe_call (ok_write_likeness T) (hr.mono (by decide)) (by rfl) T.g_write_likeness T.F_write_likeness.kp T.b_write_likeness (fa_cons (fe_var (pv 0)) fa_nil)) (fg_name (pg_name (i := 2) sc__law_asked.nd rfl (by first | exact .inl rfl | exact .inr rfl))))
  (fss_cons (fs_if ((fw_or (ft_not (ft_tru (fe_callB cf_isa (by rfl) T.z_isinstance PyProof.Rows.boot_isinstance (fa_cons (fe_var (pv 2)) (fa_cons (fe_ty (by rfl) T.z_str PyProof.Rows.boot_str) fa_nil))))) (fw_or1 (ft_cmp (of_ne hr.units) (fe_var (pv 2)) (fe_var (pv 1)) (by rfl))))).pt
  (fss_one (fs_ret fe_bl))
  fss_nil)
  (fss_cons (fs_asg (fe_call (ok_read_likeness T) (hr.mono (by decide)) (by rfl) T.g_read_likeness T.F_read_likeness.kp T.b_read_likeness (fa_cons (fe_var (pv 1)) fa_nil)) (fg_name (pg_name (i := 3) sc__law_asked.nd rfl (by first | exact .inl rfl | exact .inr rfl))))
  (fss_cons (fs_if ((fw_or (ft_not (ft_tru (fe_callB cf_isa (by rfl) T.z_isinstance PyProof.Rows.boot_isinstance (fa_cons (fe_var (pv 3)) (fa_cons (fe_ty (by rfl) T.z_tuple PyProof.Rows.boot_tuple) fa_nil))))) (fw_or (ft_cmp (of_ne hr.units) (fe_var (pv 3)) (fe_var (pv 0)) (by rfl)) (fw_or1 (ft_not (ft_tru (fe_call (ok__law_plain_kinds T) (hr.mono (by decide)) (by rfl) T.g__law_plain_kinds T.F__law_plain_kinds.kp T.b__law_plain_kinds (fa_cons (fe_var (pv 3)) fa_nil)))))))).pt
  (fss_one (fs_ret fe_bl))
  fss_nil)
  (fss_one (fs_ret (fe_cmp (of_eq hr.units) (fe_call (ok_write_likeness T) (hr.mono (by decide)) (by rfl) T.g_write_likeness T.F_write_likeness.kp T.b_write_likeness (fa_cons (fe_var (pv 3)) fa_nil)) (fe_var (pv 1)) (by rfl))))))))))
theorem ok__law_one_changed : FnOk P w K mg base CX0 4 T.a__law_one_changed T.d__law_one_changed ["deck", "paper"] (absF ⟨K, clsOf T, w⟩ 2 f__law_one_changed) := by
  rw [fd__law_one_changed]
  exact @fn0 ⟨K, clsOf T, w⟩ P w mg base "_law_one_changed" "_law_one_changed" s__law_one_changed T.a__law_one_changed T.d__law_one_changed names__law_one_changed ["deck", "paper"] 3 b__law_one_changed T.F__law_one_changed sc__law_one_changed fun cdv A outer s H E hr => ((fss_cons (fs_asg (fe_call (ok__law_draw T) (hr.mono (by decide)) (by rfl) T.g__law_draw T.F__law_draw.kp T.b__law_draw (fa_cons (fe_var (pv 0)) (fa_cons (fe_callB cf_len (by rfl) T.z_len PySem.boot_len (fa_cons (fe_var (pv 1)) fa_nil)) fa_nil))) (fg_name (pg_name (i := 2) sc__law_one_changed.nd rfl (by first | exact .inl rfl | exact .inr rfl))))
  (fss_cons (fs_asg (fe_ix (fe_var (pv 1)) (fe_var (pv 2))) (fg_tup rfl (fgs_cons (fg_name (pg_name (i := 6) sc__law_one_changed.nd rfl (by first | exact .inl rfl | exact .inr rfl))) (fgs_cons (fg_name (pg_name (i := 5) sc__law_one_changed.nd rfl (by first | exact .inl rfl | exact .inr rfl))) fgs_nil))))
  (fss_cons (fs_asg (fe_call (ok__law_draw T) (hr.mono (by decide)) (by rfl) T.g__law_draw T.F__law_draw.kp T.b__law_draw (fa_cons (fe_var (pv 0)) (fa_cons (fe_callB cf_len (by rfl) T.z_len PySem.boot_len (fa_cons (fe_var (pv 5)) fa_nil)) fa_nil))) (fg_name (pg_name (i := 3) sc__law_one_changed.nd rfl (by first | exact .inl rfl | exact .inr rfl))))
  (fss_cons (fs_asg (fe_ix (fe_var (pv 5)) (fe_var (pv 3))) (fg_tup rfl (fgs_cons (fg_name (pg_name (i := 7) sc__law_one_changed.nd rfl (by first | exact .inl rfl | exact .inr rfl))) (fgs_cons (fg_name (pg_name (i := 8) sc__law_one_changed.nd rfl (by first | exact .inl rfl | exact .inr rfl))) (fgs_cons (fg_name (pg_name (i := 9) sc__law_one_changed.nd rfl (by first | exact .inl rfl | exact .inr rfl))) (fgs_cons (fg_name (pg_name (i := 10) sc__law_one_changed.nd rfl (by first | exact .inl rfl | exact .inr rfl))) fgs_nil))))))
  (fss_cons (fs_asg (fe_call (ok__law_draw T) (hr.mono (by decide)) (by rfl) T.g__law_draw T.F__law_draw.kp T.b__law_draw (fa_cons (fe_var (pv 0)) (fa_cons fe_int fa_nil))) (fg_name (pg_name (i := 4) sc__law_one_changed.nd rfl (by first | exact .inl rfl | exact .inr rfl))))
  (fss_cons (fs_if (ft_cmp (of_eq hr.units) (fe_var (pv 4)) fe_int (by rfl))
  (fss_one (fs_asg (fe_op of_sub (fe_call (ok__law_draw T) (hr.mono (by decide)) (by rfl) T.g__law_draw T.F__law_draw.kp T.b__law_draw (fa_cons (fe_var (pv 0)) (fa_cons fe_int fa_nil))) fe_int) (fg_name (pg_name (i := 8) sc__law_one_changed.nd rfl (by first | exact .inl rfl | exact .inr rfl)))))
  fss_nil)
  (fss_cons (fs_if (ft_cmp (of_eq hr.units) (fe_var (pv 4)) fe_int (by rfl))
  (fss_one (fs_asg (fe_op (of_add (own := false)) (fe_var (pv 6)) (fe_tup (fa_cons (fe_call (ok__law_any T) (hr.mono (by decide)) (by rfl) T.g__law_any T.F__law_any.kp T.b__law_any (fa_cons (fe_var (pv 0)) fa_nil)) fa_nil))) (fg_name (pg_name (i := 6) sc__law_one_changed.nd rfl (by first | exact .inl rfl | exact .inr rfl)))))
  fss_nil)
  (fss_cons (fs_if (ft_cmp (of_eq hr.units) (fe_var (pv 4)) fe_int (by rfl))
  (fss_one (fs_asg (fe_op (of_add (own := false)) (fe_var (pv 10)) (fe_tup (fa_cons (fe_tup (fa_cons (fe_call (ok__law_any T) (hr.mono (by decide)) (by rfl) T.g__law_any T.F__law_any.kp T.b__law_any (fa_cons (fe_var (pv 0)) fa_nil)) (fa_cons (fe_call (ok__law_some_told T) (hr.mono (by decide)) (by rfl) T.g__law_some_told T.F__law_some_told.kp T.b__law_some_told (fa_cons (fe_var (pv 0)) fa_nil)) fa_nil))) fa_nil))) (fg_name (pg_name (i := 10) sc__law_one_changed.nd rfl (by first | exact .inl rfl | exact .inr rfl)))))
  fss_nil)
  (fss_cons (fs_if (ft_cmp (of_eq hr.units) (fe_var (pv 4)) fe_int (by rfl))
  (fss_one (fs_asg (fe_op (of_add (own := false)) (fe_tup (fa_cons (fe_tup (fa_cons (fe_call (ok__law_any T) (hr.mono (by decide)) (by rfl) T.g__law_any T.F__law_any.kp T.b__law_any (fa_cons (fe_var (pv 0)) fa_nil)) (fa_cons (fe_ix (fe_ix (fe_var (pv 7)) fe_int) fe_int) fa_nil))) fa_nil)) (fe_slX (own := false) (fe_var (pv 7)) (fo_some fe_int) fo_none)) (fg_name (pg_name (i := 7) sc__law_one_changed.nd rfl (by first | exact .inl rfl | exact .inr rfl)))))
  fss_nil)
  (fss_cons (fs_asg (fe_op (of_add (own := false)) (fe_op (of_add (own := false)) (fe_slX (own := false) (fe_var (pv 5)) fo_none (fo_some (fe_var (pv 3)))) (fe_tup (fa_cons (fe_tup (fa_cons (fe_var (pv 7)) (fa_cons (fe_var (pv 8)) (fa_cons (fe_var (pv 9)) (fa_cons (fe_var (pv 10)) fa_nil))))) fa_nil))) (fe_slX (own := false) (fe_var (pv 5)) (fo_some (fe_op (of_add (own := false)) (fe_var (pv 3)) fe_int)) fo_none)) (fg_name (pg_name (i := 5) sc__law_one_changed.nd rfl (by first | exact .inl rfl | exact .inr rfl))))
  (fss_one (fs_ret (fe_op (of_add (own := false)) (fe_op (of_add (own := false)) (fe_slX (own := false) (fe_var (pv 1)) fo_none (fo_some (fe_var (pv 2)))) (fe_tup (fa_cons (fe_tup (fa_cons (fe_var (pv 6)) (fa_cons (fe_var (pv 5)) fa_nil))) fa_nil))) (fe_slX (own := false) (fe_var (pv 1)) (fo_some (fe_op (of_add (own := false)) (fe_var (pv 2)) fe_int)) fo_none)))))))))))))))
theorem ok_law : FnOk P w K mg base CX0 12 T.a_law T.d_law ["script"] (absF ⟨K, clsOf T, w⟩ 1 f_law) := by
  rw [fd_law]
  exact @fn0 ⟨K, clsOf T, w⟩ P w mg base "law" "law" s_law T.a_law T.d_law names_law ["script"] 11 b_law T.F_law sc_law fun cdv A outer s H E hr => ((fss_cons (fs_asg (fe_call (ok__law_deck T) (hr.mono (by decide)) (by rfl) T.g__law_deck T.F__law_deck.kp T.b__law_deck (fa_cons (fe_var (pv 0)) fa_nil)) (fg_name (pg_name (i := 1) sc_law.nd rfl (by first | exact .inl rfl | exact .inr rfl))))
  (fss_cons (fs_asg (fe_call (ok__law_some_paper T) (hr.mono (by decide)) (by rfl) T.g__law_some_paper T.F__law_some_paper.kp T.b__law_some_paper (fa_cons (fe_var (pv 1)) (fa_cons (fe_call (ok__law_draw T) (hr.mono (by decide)) (by rfl) T.g__law_draw T.F__law_draw.kp T.b__law_draw (fa_cons (fe_var (pv 1)) (fa_cons fe_int fa_nil))) (fa_cons fe_int fa_nil)))) (fg_name (pg_name (i := 2) sc_law.nd rfl (by first | exact .inl rfl | exact .inr rfl))))
  (fss_cons (fs_if (ft_cmp (of_eq hr.units) (fe_call (ok__law_draw T) (hr.mono (by decide)) (by rfl) T.g__law_draw T.F__law_draw.kp T.b__law_draw (fa_cons (fe_var (pv 1)) (fa_cons fe_int fa_nil))) fe_int (by rfl))
  (fss_one (fs_asg (fe_op (of_add (own := false)) (fe_var (pv 2)) (fe_call (ok__law_some_paper T) (hr.mono (by decide)) (by rfl) T.g__law_some_paper T.F__law_some_paper.kp T.b__law_some_paper (fa_cons (fe_var (pv 1)) (fa_cons fe_int (fa_cons fe_int fa_nil))))) (fg_name (pg_name (i := 2) sc_law.nd rfl (by first | exact .inl rfl | exact .inr rfl)))))
  fss_nil)
  (fss_cons (fs_if (ft_not (ft_tru (fe_call (ok__law_asked T) (hr.mono (by decide)) (by rfl) T.g__law_asked T.F__law_asked.kp T.b__law_asked (fa_cons (fe_var (pv 2)) fa_nil))))
  (fss_one (fs_ret fe_bl))
  fss_nil)
  (fss_cons (fs_if (ft_tru (fe_var (pv 2)))
  (fss_cons (fs_asg (fe_call (ok__law_one_changed T) (hr.mono (by decide)) (by rfl) T.g__law_one_changed T.F__law_one_changed.kp T.b__law_one_changed (fa_cons (fe_var (pv 1)) (fa_cons (fe_var (pv 2)) fa_nil))) (fg_name (pg_name (i := 3) sc_law.nd rfl (by first | exact .inl rfl | exact .inr rfl))))
  (fss_one (fs_if ((fw_or (ft_not (ft_tru (fe_call (ok__law_asked T) (hr.mono (by decide)) (by rfl) T.g__law_asked T.F__law_asked.kp T.b__law_asked (fa_cons (fe_var (pv 3)) fa_nil)))) (fw_or1 (ft_not (ft_tru (fe_call (ok__law_asked T) (hr.mono (by decide)) (by rfl) T.g__law_asked T.F__law_asked.kp T.b__law_asked (fa_cons (fe_var (pv 2)) fa_nil))))))).pt
  (fss_one (fs_ret fe_bl))
  fss_nil)))
  fss_nil)
  (fss_one (fs_ret (fe_and (fe_cmp (of_eq hr.units) (fe_call (ok_write_likeness T) (hr.mono (by decide)) (by rfl) T.g_write_likeness T.F_write_likeness.kp T.b_write_likeness (fa_cons (fe_tup fa_nil) fa_nil)) fe_str (by rfl)) (fe_one (fe_cmp (of_eq hr.units) (fe_call (ok_read_likeness T) (hr.mono (by decide)) (by rfl) T.g_read_likeness T.F_read_likeness.kp T.b_read_likeness (fa_cons fe_str fa_nil)) (fe_tup fa_nil) (by rfl))))))))))))
end
theorem all_mk {K : PySem.W.Frag} {w : World} {h : Heap} {mg : Str → Option Value} {fa : Addr} (X : K.In h) (G : h.Ns mainGlobals mg) (hfa : mg "law" = some (.ref fa))
    {C0 : Addr}
    {f0 : Addr} {od0 an0 : Option Addr} {sl0 : Array (Option Value)} {oc0 kV0 dc0 pm0 cd0 ct0 : Value}
    (a0 : PySem.W.nsIn K mainGlobals "_law_deck" = some (some (.ref f0))) (l0 : K.lookup f0 = some ⟨oc0, od0, .func (PySem.W.fnOf "_law_deck" "_law_deck" (defArgs s__law_deck) (defBody s__law_deck) (defScope s__law_deck) .none kV0 dc0 pm0 an0 cd0 ct0), sl0⟩) (c0 : PySem.W.codeIn K cd0 "_law_deck" = true) (k0 : PySem.W.keepIn K (.ref f0) = true)
    {f1 : Addr} {od1 an1 : Option Addr} {sl1 : Array (Option Value)} {oc1 kV1 dc1 pm1 cd1 ct1 : Value}
    (a1 : PySem.W.nsIn K mainGlobals "_law_draw" = some (some (.ref f1))) (l1 : K.lookup f1 = some ⟨oc1, od1, .func (PySem.W.fnOf "_law_draw" "_law_draw" (defArgs s__law_draw) (defBody s__law_draw) (defScope s__law_draw) .none kV1 dc1 pm1 an1 cd1 ct1), sl1⟩) (c1 : PySem.W.codeIn K cd1 "_law_draw" = true) (k1 : PySem.W.keepIn K (.ref f1) = true)
    {f2 : Addr} {od2 an2 : Option Addr} {sl2 : Array (Option Value)} {oc2 kV2 dc2 pm2 cd2 ct2 : Value}
    (a2 : PySem.W.nsIn K mainGlobals "_law_any" = some (some (.ref f2))) (l2 : K.lookup f2 = some ⟨oc2, od2, .func (PySem.W.fnOf "_law_any" "_law_any" (defArgs s__law_any) (defBody s__law_any) (defScope s__law_any) .none kV2 dc2 pm2 an2 cd2 ct2), sl2⟩) (c2 : PySem.W.codeIn K cd2 "_law_any" = true) (k2 : PySem.W.keepIn K (.ref f2) = true)
    {f3 : Addr} {od3 an3 : Option Addr} {sl3 : Array (Option Value)} {oc3 kV3 dc3 pm3 cd3 ct3 : Value}
    (a3 : PySem.W.nsIn K mainGlobals "_law_some_told" = some (some (.ref f3))) (l3 : K.lookup f3 = some ⟨oc3, od3, .func (PySem.W.fnOf "_law_some_told" "_law_some_told" (defArgs s__law_some_told) (defBody s__law_some_told) (defScope s__law_some_told) .none kV3 dc3 pm3 an3 cd3 ct3), sl3⟩) (c3 : PySem.W.codeIn K cd3 "_law_some_told" = true) (k3 : PySem.W.keepIn K (.ref f3) = true)
    {f4 : Addr} {od4 an4 : Option Addr} {sl4 : Array (Option Value)} {oc4 kV4 dc4 pm4 cd4 ct4 : Value}
    (a4 : PySem.W.nsIn K mainGlobals "_law_some_paper" = some (some (.ref f4))) (l4 : K.lookup f4 = some ⟨oc4, od4, .func (PySem.W.fnOf "_law_some_paper" "_law_some_paper" (defArgs s__law_some_paper) (defBody s__law_some_paper) (defScope s__law_some_paper) .none kV4 dc4 pm4 an4 cd4 ct4), sl4⟩) (c4 : PySem.W.codeIn K cd4 "_law_some_paper" = true) (k4 : PySem.W.keepIn K (.ref f4) = true)
    {f5 : Addr} {od5 an5 : Option Addr} {sl5 : Array (Option Value)} {oc5 kV5 dc5 pm5 cd5 ct5 : Value}
    (a5 : PySem.W.nsIn K mainGlobals "_law_paper_text" = some (some (.ref f5))) (l5 : K.lookup f5 = some ⟨oc5, od5, .func (PySem.W.fnOf "_law_paper_text" "_law_paper_text" (defArgs s__law_paper_text) (defBody s__law_paper_text) (defScope s__law_paper_text) .none kV5 dc5 pm5 an5 cd5 ct5), sl5⟩) (c5 : PySem.W.codeIn K cd5 "_law_paper_text" = true) (k5 : PySem.W.keepIn K (.ref f5) = true)
    {f6 : Addr} {od6 an6 : Option Addr} {sl6 : Array (Option Value)} {oc6 kV6 dc6 pm6 cd6 ct6 : Value}
    (a6 : PySem.W.nsIn K mainGlobals "joined" = some (some (.ref f6))) (l6 : K.lookup f6 = some ⟨oc6, od6, .func (PySem.W.fnOf "joined" "joined" (defArgs s_joined) (defBody s_joined) (defScope s_joined) .none kV6 dc6 pm6 an6 cd6 ct6), sl6⟩) (c6 : PySem.W.codeIn K cd6 "joined" = true) (k6 : PySem.W.keepIn K (.ref f6) = true)
    {f7 : Addr} {od7 an7 : Option Addr} {sl7 : Array (Option Value)} {oc7 kV7 dc7 pm7 cd7 ct7 : Value}
    (a7 : PySem.W.nsIn K mainGlobals "pair_written" = some (some (.ref f7))) (l7 : K.lookup f7 = some ⟨oc7, od7, .func (PySem.W.fnOf "pair_written" "pair_written" (defArgs s_pair_written) (defBody s_pair_written) (defScope s_pair_written) .none kV7 dc7 pm7 an7 cd7 ct7), sl7⟩) (c7 : PySem.W.codeIn K cd7 "pair_written" = true) (k7 : PySem.W.keepIn K (.ref f7) = true)
    {f8 : Addr} {od8 an8 : Option Addr} {sl8 : Array (Option Value)} {oc8 kV8 dc8 pm8 cd8 ct8 : Value}
    (a8 : PySem.W.nsIn K mainGlobals "write_likeness" = some (some (.ref f8))) (l8 : K.lookup f8 = some ⟨oc8, od8, .func (PySem.W.fnOf "write_likeness" "write_likeness" (defArgs s_write_likeness) (defBody s_write_likeness) (defScope s_write_likeness) .none kV8 dc8 pm8 an8 cd8 ct8), sl8⟩) (c8 : PySem.W.codeIn K cd8 "write_likeness" = true) (k8 : PySem.W.keepIn K (.ref f8) = true)
    {f9 : Addr} {od9 an9 : Option Addr} {sl9 : Array (Option Value)} {oc9 kV9 dc9 pm9 cd9 ct9 : Value}
    (a9 : PySem.W.findIn K (.ref C0) "__init__" = some (some (.ref f9))) (i9 : PySem.W.isFn K (.ref f9) = true) (l9 : K.lookup f9 = some ⟨oc9, od9, .func (PySem.W.fnOf "__init__" "RowReader.__init__" (defArgs s_RowReader___init__) (defBody s_RowReader___init__) (defScope s_RowReader___init__) .none kV9 dc9 pm9 an9 cd9 ct9), sl9⟩) (c9 : PySem.W.codeIn K cd9 "RowReader.__init__" = true) (k9 : PySem.W.keepIn K (.ref f9) = true)
    {f10 : Addr} {od10 an10 : Option Addr} {sl10 : Array (Option Value)} {oc10 kV10 dc10 pm10 cd10 ct10 : Value}
    (a10 : PySem.W.nsIn K mainGlobals "read_number" = some (some (.ref f10))) (l10 : K.lookup f10 = some ⟨oc10, od10, .func (PySem.W.fnOf "read_number" "read_number" (defArgs s_read_number) (defBody s_read_number) (defScope s_read_number) .none kV10 dc10 pm10 an10 cd10 ct10), sl10⟩) (c10 : PySem.W.codeIn K cd10 "read_number" = true) (k10 : PySem.W.keepIn K (.ref f10) = true)
    {f11 : Addr} {od11 an11 : Option Addr} {sl11 : Array (Option Value)} {oc11 kV11 dc11 pm11 cd11 ct11 : Value}
    (a11 : PySem.W.nsIn K mainGlobals "read_integer" = some (some (.ref f11))) (l11 : K.lookup f11 = some ⟨oc11, od11, .func (PySem.W.fnOf "read_integer" "read_integer" (defArgs s_read_integer) (defBody s_read_integer) (defScope s_read_integer) .none kV11 dc11 pm11 an11 cd11 ct11), sl11⟩) (c11 : PySem.W.codeIn K cd11 "read_integer" = true) (k11 : PySem.W.keepIn K (.ref f11) = true)
    {f12 : Addr} {od12 an12 : Option Addr} {sl12 : Array (Option Value)} {oc12 kV12 dc12 pm12 cd12 ct12 : Value}
    (a12 : PySem.W.nsIn K mainGlobals "read_integers" = some (some (.ref f12))) (l12 : K.lookup f12 = some ⟨oc12, od12, .func (PySem.W.fnOf "read_integers" "read_integers" (defArgs s_read_integers) (defBody s_read_integers) (defScope s_read_integers) .none kV12 dc12 pm12 an12 cd12 ct12), sl12⟩) (c12 : PySem.W.codeIn K cd12 "read_integers" = true) (k12 : PySem.W.keepIn K (.ref f12) = true)
    {f13 : Addr} {od13 an13 : Option Addr} {sl13 : Array (Option Value)} {oc13 kV13 dc13 pm13 cd13 ct13 : Value}
    (a13 : PySem.W.nsIn K mainGlobals "read_pair_row" = some (some (.ref f13))) (l13 : K.lookup f13 = some ⟨oc13, od13, .func (PySem.W.fnOf "read_pair_row" "read_pair_row" (defArgs s_read_pair_row) (defBody s_read_pair_row) (defScope s_read_pair_row) .none kV13 dc13 pm13 an13 cd13 ct13), sl13⟩) (c13 : PySem.W.codeIn K cd13 "read_pair_row" = true) (k13 : PySem.W.keepIn K (.ref f13) = true)
    {f14 : Addr} {od14 an14 : Option Addr} {sl14 : Array (Option Value)} {oc14 kV14 dc14 pm14 cd14 ct14 : Value}
    (a14 : PySem.W.nsIn K mainGlobals "read_told" = some (some (.ref f14))) (l14 : K.lookup f14 = some ⟨oc14, od14, .func (PySem.W.fnOf "read_told" "read_told" (defArgs s_read_told) (defBody s_read_told) (defScope s_read_told) .none kV14 dc14 pm14 an14 cd14 ct14), sl14⟩) (c14 : PySem.W.codeIn K cd14 "read_told" = true) (k14 : PySem.W.keepIn K (.ref f14) = true)
    {f15 : Addr} {od15 an15 : Option Addr} {sl15 : Array (Option Value)} {oc15 kV15 dc15 pm15 cd15 ct15 : Value}
    (a15 : PySem.W.nsIn K mainGlobals "read_first_row" = some (some (.ref f15))) (l15 : K.lookup f15 = some ⟨oc15, od15, .func (PySem.W.fnOf "read_first_row" "read_first_row" (defArgs s_read_first_row) (defBody s_read_first_row) (defScope s_read_first_row) .none kV15 dc15 pm15 an15 cd15 ct15), sl15⟩) (c15 : PySem.W.codeIn K cd15 "read_first_row" = true) (k15 : PySem.W.keepIn K (.ref f15) = true)
    {f16 : Addr} {od16 an16 : Option Addr} {sl16 : Array (Option Value)} {oc16 kV16 dc16 pm16 cd16 ct16 : Value}
    (a16 : PySem.W.nsIn K mainGlobals "read_second_row" = some (some (.ref f16))) (l16 : K.lookup f16 = some ⟨oc16, od16, .func (PySem.W.fnOf "read_second_row" "read_second_row" (defArgs s_read_second_row) (defBody s_read_second_row) (defScope s_read_second_row) .none kV16 dc16 pm16 an16 cd16 ct16), sl16⟩) (c16 : PySem.W.codeIn K cd16 "read_second_row" = true) (k16 : PySem.W.keepIn K (.ref f16) = true)
    {f17 : Addr} {od17 an17 : Option Addr} {sl17 : Array (Option Value)} {oc17 kV17 dc17 pm17 cd17 ct17 : Value}
    (a17 : PySem.W.nsIn K mainGlobals "read_unit_row" = some (some (.ref f17))) (l17 : K.lookup f17 = some ⟨oc17, od17, .func (PySem.W.fnOf "read_unit_row" "read_unit_row" (defArgs s_read_unit_row) (defBody s_read_unit_row) (defScope s_read_unit_row) .none kV17 dc17 pm17 an17 cd17 ct17), sl17⟩) (c17 : PySem.W.codeIn K cd17 "read_unit_row" = true) (k17 : PySem.W.keepIn K (.ref f17) = true)
    {f18 : Addr} {od18 an18 : Option Addr} {sl18 : Array (Option Value)} {oc18 kV18 dc18 pm18 cd18 ct18 : Value}
    (a18 : PySem.W.findIn K (.ref C0) "next_read" = some (some (.ref f18))) (i18 : PySem.W.isFn K (.ref f18) = true) (l18 : K.lookup f18 = some ⟨oc18, od18, .func (PySem.W.fnOf "next_read" "RowReader.next_read" (defArgs s_RowReader_next_read) (defBody s_RowReader_next_read) (defScope s_RowReader_next_read) .none kV18 dc18 pm18 an18 cd18 ct18), sl18⟩) (c18 : PySem.W.codeIn K cd18 "RowReader.next_read" = true) (k18 : PySem.W.keepIn K (.ref f18) = true)
    {f19 : Addr} {od19 an19 : Option Addr} {sl19 : Array (Option Value)} {oc19 kV19 dc19 pm19 cd19 ct19 : Value}
    (a19 : PySem.W.findIn K (.ref C0) "all_told" = some (some (.ref f19))) (i19 : PySem.W.isFn K (.ref f19) = true) (l19 : K.lookup f19 = some ⟨oc19, od19, .func (PySem.W.fnOf "all_told" "RowReader.all_told" (defArgs s_RowReader_all_told) (defBody s_RowReader_all_told) (defScope s_RowReader_all_told) .none kV19 dc19 pm19 an19 cd19 ct19), sl19⟩) (c19 : PySem.W.codeIn K cd19 "RowReader.all_told" = true) (k19 : PySem.W.keepIn K (.ref f19) = true)
    {f20 : Addr} {od20 an20 : Option Addr} {sl20 : Array (Option Value)} {oc20 kV20 dc20 pm20 cd20 ct20 : Value}
    (a20 : PySem.W.findIn K (.ref C0) "read_pair" = some (some (.ref f20))) (i20 : PySem.W.isFn K (.ref f20) = true) (l20 : K.lookup f20 = some ⟨oc20, od20, .func (PySem.W.fnOf "read_pair" "RowReader.read_pair" (defArgs s_RowReader_read_pair) (defBody s_RowReader_read_pair) (defScope s_RowReader_read_pair) .none kV20 dc20 pm20 an20 cd20 ct20), sl20⟩) (c20 : PySem.W.codeIn K cd20 "RowReader.read_pair" = true) (k20 : PySem.W.keepIn K (.ref f20) = true)
    {f21 : Addr} {od21 an21 : Option Addr} {sl21 : Array (Option Value)} {oc21 kV21 dc21 pm21 cd21 ct21 : Value}
    (a21 : PySem.W.findIn K (.ref C0) "read_unit" = some (some (.ref f21))) (i21 : PySem.W.isFn K (.ref f21) = true) (l21 : K.lookup f21 = some ⟨oc21, od21, .func (PySem.W.fnOf "read_unit" "RowReader.read_unit" (defArgs s_RowReader_read_unit) (defBody s_RowReader_read_unit) (defScope s_RowReader_read_unit) .none kV21 dc21 pm21 an21 cd21 ct21), sl21⟩) (c21 : PySem.W.codeIn K cd21 "RowReader.read_unit" = true) (k21 : PySem.W.keepIn K (.ref f21) = true)
    {f22 : Addr} {od22 an22 : Option Addr} {sl22 : Array (Option Value)} {oc22 kV22 dc22 pm22 cd22 ct22 : Value}
    (a22 : PySem.W.nsIn K mainGlobals "read_likeness" = some (some (.ref f22))) (l22 : K.lookup f22 = some ⟨oc22, od22, .func (PySem.W.fnOf "read_likeness" "read_likeness" (defArgs s_read_likeness) (defBody s_read_likeness) (defScope s_read_likeness) .none kV22 dc22 pm22 an22 cd22 ct22), sl22⟩) (c22 : PySem.W.codeIn K cd22 "read_likeness" = true) (k22 : PySem.W.keepIn K (.ref f22) = true)
    {f23 : Addr} {od23 an23 : Option Addr} {sl23 : Array (Option Value)} {oc23 kV23 dc23 pm23 cd23 ct23 : Value}
    (a23 : PySem.W.nsIn K mainGlobals "_law_plain_kinds" = some (some (.ref f23))) (l23 : K.lookup f23 = some ⟨oc23, od23, .func (PySem.W.fnOf "_law_plain_kinds" "_law_plain_kinds" (defArgs s__law_plain_kinds) (defBody s__law_plain_kinds) (defScope s__law_plain_kinds) .none kV23 dc23 pm23 an23 cd23 ct23), sl23⟩) (c23 : PySem.W.codeIn K cd23 "_law_plain_kinds" = true) (k23 : PySem.W.keepIn K (.ref f23) = true)
    {f24 : Addr} {od24 an24 : Option Addr} {sl24 : Array (Option Value)} {oc24 kV24 dc24 pm24 cd24 ct24 : Value}
    (a24 : PySem.W.nsIn K mainGlobals "_law_asked" = some (some (.ref f24))) (l24 : K.lookup f24 = some ⟨oc24, od24, .func (PySem.W.fnOf "_law_asked" "_law_asked" (defArgs s__law_asked) (defBody s__law_asked) (defScope s__law_asked) .none kV24 dc24 pm24 an24 cd24 ct24), sl24⟩) (c24 : PySem.W.codeIn K cd24 "_law_asked" = true) (k24 : PySem.W.keepIn K (.ref f24) = true)
    {f25 : Addr} {od25 an25 : Option Addr} {sl25 : Array (Option Value)} {oc25 kV25 dc25 pm25 cd25 ct25 : Value}
    (a25 : PySem.W.nsIn K mainGlobals "_law_one_changed" = some (some (.ref f25))) (l25 : K.lookup f25 = some ⟨oc25, od25, .func (PySem.W.fnOf "_law_one_changed" "_law_one_changed" (defArgs s__law_one_changed) (defBody s__law_one_changed) (defScope s__law_one_changed) .none kV25 dc25 pm25 an25 cd25 ct25), sl25⟩) (c25 : PySem.W.codeIn K cd25 "_law_one_changed" = true) (k25 : PySem.W.keepIn K (.ref f25) = true)
    {f26 : Addr} {od26 an26 : Option Addr} {sl26 : Array (Option Value)} {oc26 kV26 dc26 pm26 cd26 ct26 : Value}
    (a26 : PySem.W.nsIn K mainGlobals "law" = some (some (.ref f26))) (l26 : K.lookup f26 = some ⟨oc26, od26, .func (PySem.W.fnOf "law" "law" (defArgs s_law) (defBody s_law) (defScope s_law) .none kV26 dc26 pm26 an26 cd26 ct26), sl26⟩) (c26 : PySem.W.codeIn K cd26 "law" = true) (k26 : PySem.W.keepIn K (.ref f26) = true)
    (aC0 : PySem.W.nsIn K mainGlobals "RowReader" = some (some (.ref C0))) (pg0 : PySem.W.plainGet K C0 Str.empty = true) (hd0 : PySem.W.hasDictIn K C0 = true) (po0 : PySem.W.plainOver K C0 = true) (sa0 : PySem.W.findIn K (.ref C0) "__setattr__" = some (some (.builtin "object.__setattr__"))) (mk0 : PySem.W.makesIn K C0 = true) (kc0 : PySem.W.keepIn K (.ref C0) = true)
    (nf0_rows : PySem.W.findIn K (.ref C0) "rows" = some none)
    (nf0_at : PySem.W.findIn K (.ref C0) "at" = some none)
    (z0 : PySem.W.nsIn K mainGlobals "bool" = some none)
    (z1 : PySem.W.nsIn K mainGlobals "int" = some none)
    (z2 : PySem.W.nsIn K mainGlobals "isinstance" = some none)
    (z3 : PySem.W.nsIn K mainGlobals "len" = some none)
    (z4 : PySem.W.nsIn K mainGlobals "list" = some none)
    (z5 : PySem.W.nsIn K mainGlobals "range" = some none)
    (z6 : PySem.W.nsIn K mainGlobals "str" = some none)
    (z7 : PySem.W.nsIn K mainGlobals "tuple" = some none)
    {t_0 : Tok} (u0 : PySem.W.nsIn K mainGlobals "MOST_FIGURES" = some (some (.int (12) t_0)))
    {t_1 : Tok} (u1 : PySem.W.nsIn K mainGlobals "FIGURES" = some (some (.str "0123456789" t_1)))
    {p2 : Addr} {n2 : Nat} {x2 : Array (Option Value)}
    (u2 : PySem.W.nsIn K mainGlobals "PAIR_SIZES" = some (some (.ref p2)))
    {t_2_0 t_2_1 : Tok}
    (v2 : K.lookup p2 = some ⟨.type "tuple", none, .seq #[(.int (5) t_2_0), (.int (7) t_2_1)] n2, x2⟩)
    {p3 : Addr} {n3 : Nat}
    (u3 : PySem.W.nsIn K mainGlobals "TOLD_SIZES" = some (some (.ref p3)))
    {t_3_0 t_3_1 t_3_2 t_3_3 t_3_4 t_3_5 : Tok} {h_3_0 h_3_1 h_3_2 : Int}
    (v3 : K.lookup p3 = some ⟨.type "dict", none, .dict #[⟨h_3_0, (.str "num" t_3_0), (.int (2) t_3_1)⟩, ⟨h_3_1, (.str "len" t_3_2), (.int (3) t_3_3)⟩, ⟨h_3_2, (.str "spot" t_3_4), (.int (4) t_3_5)⟩] n3, #[]⟩)
    (y3 : (p3 == sysModules) = false)
    (r3 : [h_3_0, h_3_1, h_3_2] = [keyH w (.inr "num"), keyH w (.inr "len"), keyH w (.inr "spot")])
    : ∃ (T : Tx K w mg), T.a_law = fa := by
  have k2_ : KTupX K p2 ([(.int 5), (.int 7)] : List V) := ⟨_, _, _, v2, rfl, rfl, rfl, len_le' (show 2 ≤ 1000 by decide), (.cons ⟨_, rfl⟩ (.cons ⟨_, rfl⟩ .nil))⟩
  have k3_ : KTab K w p3 ([((.inr "num"), (.int 2)), ((.inr "len"), (.int 3)), ((.inr "spot"), (.int 4))] : List (Key × V)) := by
    simp only [List.cons.injEq, and_true] at r3
    exact ⟨⟨_, _, v3, (.cons ⟨keyIs_str _ _, r3.1, ⟨_, rfl⟩⟩ (.cons ⟨keyIs_str _ _, r3.2.1, ⟨_, rfl⟩⟩ (.cons ⟨keyIs_str _ _, r3.2.2, ⟨_, rfl⟩⟩ .nil)))⟩, y3, by decide⟩
  have F0 := fun_mk (st := s__law_deck) l0 c0 k0
  have b0 := F0.binds (ps := ["script"]) fun _ _ _ _ _ _ us hl => match us, hl with | [_], _ => rfl
  have F1 := fun_mk (st := s__law_draw) l1 c1 k1
  have b1 := F1.binds (ps := ["deck", "many"]) fun _ _ _ _ _ _ us hl => match us, hl with | [_, _], _ => rfl
  have F2 := fun_mk (st := s__law_any) l2 c2 k2
  have b2 := F2.binds (ps := ["deck"]) fun _ _ _ _ _ _ us hl => match us, hl with | [_], _ => rfl
  have F3 := fun_mk (st := s__law_some_told) l3 c3 k3
  have b3 := F3.binds (ps := ["deck"]) fun _ _ _ _ _ _ us hl => match us, hl with | [_], _ => rfl
  have F4 := fun_mk (st := s__law_some_paper) l4 c4 k4
  have b4 := F4.binds (ps := ["deck", "units", "most"]) fun _ _ _ _ _ _ us hl => match us, hl with | [_, _, _], _ => rfl
  have F5 := fun_mk (st := s__law_paper_text) l5 c5 k5
  have b5 := F5.binds (ps := ["paper"]) fun _ _ _ _ _ _ us hl => match us, hl with | [_], _ => rfl
  have F6 := fun_mk (st := s_joined) l6 c6 k6
  have b6 := F6.binds (ps := ["word", "parts"]) fun _ _ _ _ _ _ us hl => match us, hl with | [_, _], _ => rfl
  have F7 := fun_mk (st := s_pair_written) l7 c7 k7
  have b7 := F7.binds (ps := ["pair"]) fun _ _ _ _ _ _ us hl => match us, hl with | [_], _ => rfl
  have F8 := fun_mk (st := s_write_likeness) l8 c8 k8
  have b8 := F8.binds (ps := ["paper"]) fun _ _ _ _ _ _ us hl => match us, hl with | [_], _ => rfl
  have F9 := fun_mk (st := s_RowReader___init__) l9 c9 k9
  have b9 := F9.binds (ps := ["self", "rows"]) fun _ _ _ _ _ _ us hl => match us, hl with | [_, _], _ => rfl
  have F10 := fun_mk (st := s_read_number) l10 c10 k10
  have b10 := F10.binds (ps := ["word"]) fun _ _ _ _ _ _ us hl => match us, hl with | [_], _ => rfl
  have F11 := fun_mk (st := s_read_integer) l11 c11 k11
  have b11 := F11.binds (ps := ["word"]) fun _ _ _ _ _ _ us hl => match us, hl with | [_], _ => rfl
  have F12 := fun_mk (st := s_read_integers) l12 c12 k12
  have b12 := F12.binds (ps := ["words"]) fun _ _ _ _ _ _ us hl => match us, hl with | [_], _ => rfl
  have F13 := fun_mk (st := s_read_pair_row) l13 c13 k13
  have b13 := F13.binds (ps := ["words"]) fun _ _ _ _ _ _ us hl => match us, hl with | [_], _ => rfl
  have F14 := fun_mk (st := s_read_told) l14 c14 k14
  have b14 := F14.binds (ps := ["words"]) fun _ _ _ _ _ _ us hl => match us, hl with | [_], _ => rfl
  have F15 := fun_mk (st := s_read_first_row) l15 c15 k15
  have b15 := F15.binds (ps := ["words"]) fun _ _ _ _ _ _ us hl => match us, hl with | [_], _ => rfl
  have F16 := fun_mk (st := s_read_second_row) l16 c16 k16
  have b16 := F16.binds (ps := ["words"]) fun _ _ _ _ _ _ us hl => match us, hl with | [_], _ => rfl
  have F17 := fun_mk (st := s_read_unit_row) l17 c17 k17
  have b17 := F17.binds (ps := ["words"]) fun _ _ _ _ _ _ us hl => match us, hl with | [_], _ => rfl
  have F18 := fun_mk (st := s_RowReader_next_read) l18 c18 k18
  have b18 := F18.binds (ps := ["self", "read"]) fun _ _ _ _ _ _ us hl => match us, hl with | [_, _], _ => rfl
  have F19 := fun_mk (st := s_RowReader_all_told) l19 c19 k19
  have b19 := F19.binds (ps := ["self", "word", "read"]) fun _ _ _ _ _ _ us hl => match us, hl with | [_, _, _], _ => rfl
  have F20 := fun_mk (st := s_RowReader_read_pair) l20 c20 k20
  have b20 := F20.binds (ps := ["self"]) fun _ _ _ _ _ _ us hl => match us, hl with | [_], _ => rfl
  have F21 := fun_mk (st := s_RowReader_read_unit) l21 c21 k21
  have b21 := F21.binds (ps := ["self"]) fun _ _ _ _ _ _ us hl => match us, hl with | [_], _ => rfl
  have F22 := fun_mk (st := s_read_likeness) l22 c22 k22
  have b22 := F22.binds (ps := ["text"]) fun _ _ _ _ _ _ us hl => match us, hl with | [_], _ => rfl
  have F23 := fun_mk (st := s__law_plain_kinds) l23 c23 k23
  have b23 := F23.binds (ps := ["paper"]) fun _ _ _ _ _ _ us hl => match us, hl with | [_], _ => rfl
  have F24 := fun_mk (st := s__law_asked) l24 c24 k24
  have b24 := F24.binds (ps := ["paper"]) fun _ _ _ _ _ _ us hl => match us, hl with | [_], _ => rfl
  have F25 := fun_mk (st := s__law_one_changed) l25 c25 k25
  have b25 := F25.binds (ps := ["deck", "paper"]) fun _ _ _ _ _ _ us hl => match us, hl with | [_, _], _ => rfl
  have F26 := fun_mk (st := s_law) l26 c26 k26
  have b26 := F26.binds (ps := ["script"]) fun _ _ _ _ _ _ us hl => match us, hl with | [_], _ => rfl
  have e := hfa.symm.trans (PySem.W.mg_of X G a26)
  cases e
  exact ⟨{ a__law_deck := f0, d__law_deck := _, F__law_deck := F0, g__law_deck := PySem.W.mg_of X G a0, b__law_deck := b0, a__law_draw := f1, d__law_draw := _, F__law_draw := F1, g__law_draw := PySem.W.mg_of X G a1, b__law_draw := b1, a__law_any := f2, d__law_any := _, F__law_any := F2, g__law_any := PySem.W.mg_of X G a2, b__law_any := b2, a__law_some_told := f3, d__law_some_told := _, F__law_some_told := F3, g__law_some_told := PySem.W.mg_of X G a3, b__law_some_told := b3, a__law_some_paper := f4, d__law_some_paper := _, F__law_some_paper := F4, g__law_some_paper := PySem.W.mg_of X G a4, b__law_some_paper := b4, a__law_paper_text := f5, d__law_paper_text := _, F__law_paper_text := F5, g__law_paper_text := PySem.W.mg_of X G a5, b__law_paper_text := b5, a_joined := f6, d_joined := _, F_joined := F6, g_joined := PySem.W.mg_of X G a6, b_joined := b6, a_pair_written := f7, d_pair_written := _, F_pair_written := F7, g_pair_written := PySem.W.mg_of X G a7, b_pair_written := b7, a_write_likeness := f8, d_write_likeness := _, F_write_likeness := F8, g_write_likeness := PySem.W.mg_of X G a8, b_write_likeness := b8, a_RowReader___init__ := f9, d_RowReader___init__ := _, F_RowReader___init__ := F9, b_RowReader___init__ := b9, a_read_number := f10, d_read_number := _, F_read_number := F10, g_read_number := PySem.W.mg_of X G a10, b_read_number := b10, a_read_integer := f11, d_read_integer := _, F_read_integer := F11, g_read_integer := PySem.W.mg_of X G a11, b_read_integer := b11, a_read_integers := f12, d_read_integers := _, F_read_integers := F12, g_read_integers := PySem.W.mg_of X G a12, b_read_integers := b12, a_read_pair_row := f13, d_read_pair_row := _, F_read_pair_row := F13, g_read_pair_row := PySem.W.mg_of X G a13, b_read_pair_row := b13, a_read_told := f14, d_read_told := _, F_read_told := F14, g_read_told := PySem.W.mg_of X G a14, b_read_told := b14, a_read_first_row := f15, d_read_first_row := _, F_read_first_row := F15, g_read_first_row := PySem.W.mg_of X G a15, b_read_first_row := b15, a_read_second_row := f16, d_read_second_row := _, F_read_second_row := F16, g_read_second_row := PySem.W.mg_of X G a16, b_read_second_row := b16, a_read_unit_row := f17, d_read_unit_row := _, F_read_unit_row := F17, g_read_unit_row := PySem.W.mg_of X G a17, b_read_unit_row := b17, a_RowReader_next_read := f18, d_RowReader_next_read := _, F_RowReader_next_read := F18, b_RowReader_next_read := b18, a_RowReader_all_told := f19, d_RowReader_all_told := _, F_RowReader_all_told := F19, b_RowReader_all_told := b19, a_RowReader_read_pair := f20, d_RowReader_read_pair := _, F_RowReader_read_pair := F20, b_RowReader_read_pair := b20, a_RowReader_read_unit := f21, d_RowReader_read_unit := _, F_RowReader_read_unit := F21, b_RowReader_read_unit := b21, a_read_likeness := f22, d_read_likeness := _, F_read_likeness := F22, g_read_likeness := PySem.W.mg_of X G a22, b_read_likeness := b22, a__law_plain_kinds := f23, d__law_plain_kinds := _, F__law_plain_kinds := F23, g__law_plain_kinds := PySem.W.mg_of X G a23, b__law_plain_kinds := b23, a__law_asked := f24, d__law_asked := _, F__law_asked := F24, g__law_asked := PySem.W.mg_of X G a24, b__law_asked := b24, a__law_one_changed := f25, d__law_one_changed := _, F__law_one_changed := F25, g__law_one_changed := PySem.W.mg_of X G a25, b__law_one_changed := b25, a_law := fa, d_law := _, F_law := F26, g_law := PySem.W.mg_of X G a26, b_law := b26, A_RowReader := C0, cl_RowReader := ⟨pg0, hd0, po0, sa0⟩, mgC_RowReader := PySem.W.mg_of X G aC0, mk_RowReader := ⟨mk0, a9, i9, kc0⟩, nf_RowReader_rows := nf0_rows, nf_RowReader_at := nf0_at, m_RowReader_next_read := ⟨a18, i18, k18⟩, m_RowReader_all_told := ⟨a19, i19, k19⟩, m_RowReader_read_pair := ⟨a20, i20, k20⟩, m_RowReader_read_unit := ⟨a21, i21, k21⟩, z_bool := PySem.W.mg_none_of X G z0, z_int := PySem.W.mg_none_of X G z1, z_isinstance := PySem.W.mg_none_of X G z2, z_len := PySem.W.mg_none_of X G z3, z_list := PySem.W.mg_none_of X G z4, z_range := PySem.W.mg_none_of X G z5, z_str := PySem.W.mg_none_of X G z6, z_tuple := PySem.W.mg_none_of X G z7, t_MOST_FIGURES := t_0, c_MOST_FIGURES := PySem.W.mg_of X G u0, t_FIGURES := t_1, c_FIGURES := PySem.W.mg_of X G u1, a_PAIR_SIZES := p2, c_PAIR_SIZES := PySem.W.mg_of X G u2, k_PAIR_SIZES := k2_, a_TOLD_SIZES := p3, c_TOLD_SIZES := PySem.W.mg_of X G u3, k_TOLD_SIZES := k3_ }, rfl⟩
end Lw

set_option Elab.async false
set_option linter.all false
set_option maxRecDepth 100000
namespace Lw
open PySem PySem.Spec PyProof.Rows L2 Fn
/-! ### numbers as texts -/
abbrev numT (n : Int) : Str := Str.ofString (toString n)
section
variable {G : GH}
theorem tl_pos (n : Nat) : TL.tl (numT (n : Int)) = TL.numL n := TL.tl_num n
theorem tl_neg (n : Nat) : TL.tl (numT (-((n + 1 : Nat) : Int))) = 45 :: TL.numL (n + 1) := by
  rw [TL.tl_ofString]
  show ("-" ++ Nat.repr (n + 1)).toList.map Char.toNat = _
  rw [String.toList_append, List.map_append, Nat.toList_repr]
  rfl
/-- what is read as a number -/
def readN (x : List Nat) : Option Int :=
  if (1 ≤ x.length ∧ x.length ≤ 12) ∧ ¬ (x.head? = some 48 ∧ x ≠ [48]) ∧ ∀ c ∈ x, 48 ≤ c ∧ c ≤ 57 then some (NumText.digitsVal x : Nat) else none
def readI (x : List Nat) : Option Int :=
  if x.head? = some 45 then match readN x.tail with
    | some n => if n = 0 then none else some (-n)
    | none => none
  else readN x
def oI : Option Int → W
  | some n => .int n
  | none => .non
theorem readN_pos {n : Nat} (h : n < 10 ^ 12) : readN (TL.numL n) = some (n : Int) := by
  unfold readN
  have h1 := TL.numL_len (k := 12) (by decide) h
  have h2 := TL.numL_ne n
  have h3 := TL.numL_digits n
  have h4 : TL.numL n ≠ [] := h2
  rw [if_pos, TL.numL_val]
  refine ⟨⟨?_, h1⟩, ?_, fun c hc => h3 c hc⟩
  · cases e : TL.numL n with
    | nil => exact absurd e h2
    | cons a l => simp
  · rintro ⟨a, b⟩
    by_cases z : n = 0
    · subst z
      exact b (by rw [TL.numL_lt (by decide)])
    · -- no zero ahead
      exact absurd a (numL_head z)
where
  numL_head {n : Nat} (z : n ≠ 0) : (TL.numL n).head? ≠ some 48 := by
    induction n using Nat.strongRecOn with
    | _ n ih =>
      by_cases h : n < 10
      · rw [TL.numL_lt h]; simp; omega
      · rw [TL.numL_step (by omega)]
        have := ih (n / 10) (by omega) (by omega)
        cases e : TL.numL (n / 10) with
        | nil => exact absurd e (TL.numL_ne _)
        | cons a l => rw [e] at this; simpa using this
theorem numL_45 (n : Nat) : (TL.numL n).head? ≠ some 45 := fun h => by
  cases e : TL.numL n with
  | nil => exact TL.numL_ne n e
  | cons a l =>
    rw [e] at h
    have := TL.numL_digits n a (by rw [e]; simp)
    simp at h
    omega
theorem int_two (n : Int) : (∃ k : Nat, n = (k : Int)) ∨ ∃ k : Nat, n = -((k + 1 : Nat) : Int) := by
  by_cases h : 0 ≤ n
  · exact .inl ⟨n.toNat, by omega⟩
  · exact .inr ⟨(-n).toNat - 1, by omega⟩
theorem readI_num {n : Int} (h : n.natAbs < 10 ^ 12) : readI (TL.tl (numT n)) = some n := by
  unfold readI
  rcases int_two n with ⟨k, rfl⟩ | ⟨k, rfl⟩
  · rw [tl_pos, if_neg (numL_45 k), readN_pos (by omega)]
  · rw [tl_neg, List.head?_cons, if_pos rfl, List.tail_cons, readN_pos (by omega)]
    show (if ((k + 1 : Nat) : Int) = 0 then none else some (-((k + 1 : Nat) : Int))) = _
    rw [if_neg (by omega)]
/-- without blanks and ends of rows -/
theorem num_free {n : Int} {s : Nat} (h : s < 45 ∨ 57 < s) : s ∉ TL.tl (numT n) := by
  rcases int_two n with ⟨k, rfl⟩ | ⟨k, rfl⟩
  · rw [tl_pos]; exact TL.numL_free (by omega)
  · rw [tl_neg]
    intro hm
    rcases List.mem_cons.mp hm with z | z
    · omega
    · exact TL.numL_free (by omega) z
theorem num_len {n : Int} (h : n.natAbs < 10 ^ 12) : (numT n).length ≤ 13 := by
  rw [TL.len_tl]
  rcases int_two n with ⟨k, rfl⟩ | ⟨k, rfl⟩
  · rw [tl_pos]; exact Nat.le_succ_of_le (TL.numL_len (k := 12) (by decide) (by omega))
  · rw [tl_neg]
    have := TL.numL_len (n := k + 1) (k := 12) (by decide) (by omega)
    simp; omega
/-! ### read_number, read_integer -/
theorem fInT_one (neg : Bool) (c : Nat) (x : Str) : fInT neg (.str ⟨#[c]⟩) (.str x) G = .ok (.bl (if neg then !decide (c ∈ TL.tl x) else decide (c ∈ TL.tl x))) G := by
  unfold fInT
  simp only
  rw [StrLaws.found_one]
theorem figs (c : Nat) : decide (c ∈ TL.tl (Str.ofString "0123456789")) = decide (48 ≤ c ∧ c ≤ 57) := by
  rw [show TL.tl (Str.ofString "0123456789") = [48, 49, 50, 51, 52, 53, 54, 55, 56, 57] from by decide +kernel]
  rw [decide_eq_decide]
  simp only [List.mem_cons, List.not_mem_nil, or_false]
  omega
/-- the walk over the signs -/
theorem rn_walk : ∀ (cs : List Nat) (ρ : En), ρ.length = 2 → (∀ c ∈ cs, 48 ≤ c ∧ c ≤ 57) → ∃ ρ', forF (tgName 1) t_read_number_1 (cs.map fun c => W.str ⟨#[c]⟩) ρ G = .nx ρ' G ∧ ρ'.length = 2 ∧ ρ'[0]? = ρ[0]?
  | [], ρ, h, _ => ⟨ρ, rfl, h, rfl⟩
  | c :: cs, ρ, h, hc => by
    have hd := hc c (List.mem_cons_self)
    obtain ⟨ρ', e1, e2, e3⟩ := rn_walk cs (ρ.set 1 (some (.str ⟨#[c]⟩))) (by simpa using h) fun d m => hc d (List.mem_cons_of_mem _ m)
    refine ⟨ρ', ?_, e2, by rw [e3, List.getElem?_set_ne (by decide)]⟩
    rw [List.map_cons, forF_nx (tgName_ev 1) (G2 := G) (ρ2 := ρ.set 1 (some (.str ⟨#[c]⟩))) ?_]
    · exact e1
    · unfold t_read_number_1
      rw [if_only_f (G1 := G) ?_]
      · rfl
      · refine tst (op2 (vr (w := .str ⟨#[c]⟩) (by rw [List.getElem?_set_self (by omega)])) gC_ev ?_)
        rw [fInT_one, figs, if_pos rfl, decide_eq_true hd]; rfl
theorem rn_walk_bad : ∀ (cs : List Nat) (ρ : En), ρ.length = 2 → ¬ (∀ c ∈ cs, 48 ≤ c ∧ c ≤ 57) → forF (tgName 1) t_read_number_1 (cs.map fun c => W.str ⟨#[c]⟩) ρ G = .rt .non G
  | [], ρ, h, hc => absurd (fun c m => absurd m (by simp)) hc
  | c :: cs, ρ, h, hc => by
    by_cases hd : 48 ≤ c ∧ c ≤ 57
    · have ih := rn_walk_bad cs (ρ.set 1 (some (.str ⟨#[c]⟩))) (by simpa using h) fun z => hc fun d m => by
        rcases List.mem_cons.mp m with e | m
        · rw [e]; exact hd
        · exact z d m
      rw [List.map_cons, forF_nx (tgName_ev 1) (G2 := G) (ρ2 := ρ.set 1 (some (.str ⟨#[c]⟩))) ?_]
      · exact ih
      · unfold t_read_number_1
        rw [if_only_f (G1 := G) ?_]
        · rfl
        · refine tst (op2 (vr (w := .str ⟨#[c]⟩) (by rw [List.getElem?_set_self (by omega)])) gC_ev ?_)
          rw [fInT_one, figs, if_pos rfl, decide_eq_true hd]; rfl
    · rw [List.map_cons, forF_rt (tgName_ev 1) (G2 := G) (v := .non) ?_]
      unfold t_read_number_1
      rw [gIfS_ev, tst (b := true) (op2 (vr (w := .str ⟨#[c]⟩) (by rw [List.getElem?_set_self (by omega)])) gC_ev ?_), thn_ok, if_pos rfl]
      · rfl
      · rw [fInT_one, figs, if_pos rfl, decide_eq_false hd]; rfl
theorem str_eq_tl {x y : Str} : x = y ↔ TL.tl x = TL.tl y := ⟨fun h => by rw [h], TL.ext_tl⟩
theorem fEq_s (a b : Str) : fEq (.str a) (.str b) G = .ok (.bl (decide (a = b))) G := by
  rw [fEq_nb rfl rfl (by simp [W.dep])]
  congr 2
theorem fNe_s (a b : Str) : fNe (.str a) (.str b) G = .ok (.bl (!decide (a = b))) G := by
  rw [fNe_nb rfl rfl (by simp [W.dep])]
  congr 3
theorem cLen_s {x : Str} (h : x.length ≤ 100000) : cLen [.str x] G = .ok (.int x.length) G := by
  unfold cLen
  simp only
  rw [if_pos (by rw [sizeLine_eq]; omega)]
theorem fIx_s {x : Str} {c : Nat} {l : List Nat} (h : x.length ≤ 100000) (e : TL.tl x = c :: l) : fIx (.str x) (.int 0) G = .ok (.str ⟨#[c]⟩) G := by
  unfold fIx
  simp only
  rw [if_pos (by rw [sizeLine_eq]; omega), show x.cps.toList = c :: l from e, atI_0]
theorem orT {t u : FT} {ρ : En} {G1 : GH} (h : t ρ G = .ok true G1) : gOrT t u ρ G = .ok true G1 := by rw [gOrT_ev, h, bind_ok, if_pos rfl]
theorem andT' {t u : FT} {ρ : En} {b : Bool} {G1 G2 : GH} (h : t ρ G = .ok true G1) (h2 : u ρ G1 = .ok b G2) : gAndT t u ρ G = .ok b G2 := by rw [gAndT_ev, h, bind_ok, if_pos rfl, h2]
theorem andF {t u : FT} {ρ : En} {G1 : GH} (h : t ρ G = .ok false G1) : gAndT t u ρ G = .ok false G1 := by rw [gAndT_ev, h, bind_ok, if_neg (by decide)]
theorem len_chain {x : Str} {ρ : En} (hx : ρ[0]? = some (some (.str x))) (hl : x.length ≤ 100000) : gTest (gChain fLe fLe (gC (.int 1)) (gCall cLen (gCons (gVar 0) gNil)) (gC (.int 12))) ρ G = .ok (decide (1 ≤ x.length ∧ x.length ≤ 12)) G := by
  have e : gCall cLen (gCons (gVar 0) gNil) ρ G = .ok (.int x.length) G := by
    rw [gCall_ev, gCons_ev, vr hx, bind_ok, gNil_ev, bind_ok, bind_ok, cLen_s hl]
  refine tst ?_
  unfold gChain
  rw [gC_ev, bind_ok, e, bind_ok, fLe_i, bind_ok]
  by_cases h : 1 ≤ x.length
  · rw [decide_eq_true (show (1 : Int) ≤ (x.length : Int) by omega)]
    show fLe _ _ G = _
    rw [fLe_i]
    congr 3
    exact propext (by omega)
  · rw [decide_eq_false (show ¬ (1 : Int) ≤ (x.length : Int) by omega), decide_eq_false (fun z => h z.1)]
theorem ret_c {w : W} {ρ : En} : gRet (gC w) ρ G = .rt w G := rfl
theorem read_number_ok (x : Str) (hl : x.length ≤ 100000) : f_read_number [.str x] G = .ok (oI (readN (TL.tl x))) G := by
  rw [e_read_number]
  unfold b_read_number t_read_number_4
  have hlen : x.length = (TL.tl x).length := TL.len_tl x
  have x0 : ([some (W.str x), none] : En)[0]? = some (some (.str x)) := rfl
  unfold readN
  by_cases h1 : 1 ≤ x.length ∧ x.length ≤ 12
  · have c1 := len_chain (G := G) x0 hl
    rw [decide_eq_true h1] at c1
    cases ex : TL.tl x with
    | nil => rw [ex] at hlen; simp at hlen; omega
    | cons c l =>
      have ix := fIx_s (G := G) hl ex
      have go : ∀ b, (gSeq (gFor (iTxt (gVar 0)) (tgName 1) t_read_number_1) t_read_number_2) = b → (b [some (W.str x), none] G).fin.calm = .ok (oI (if ∀ c' ∈ c :: l, 48 ≤ c' ∧ c' ≤ 57 then some (NumText.digitsVal (c :: l) : Nat) else none)) G := by
        rintro _ rfl
        rw [gSeq_ev, gFor_ev]
        show (((asTxt (.str x) G).thn _ _).seq _).fin.calm = _
        show ((forF (tgName 1) t_read_number_1 (charsW x) [some (W.str x), none] G).seq _).fin.calm = _
        unfold charsW
        rw [show x.cps.toList = c :: l from ex]
        by_cases hd : ∀ c' ∈ c :: l, 48 ≤ c' ∧ c' ≤ 57
        · obtain ⟨ρ', e1, e2, e3⟩ := rn_walk (G := G) (c :: l) [some (W.str x), none] rfl hd
          rw [e1, seq_nx, if_pos hd]
          unfold t_read_number_2
          rw [gRet_ev, gCall_ev, gCons_ev, vr (w := .str x) (by rw [e3]; rfl), bind_ok, gNil_ev, bind_ok, bind_ok]
          show (((cIntT [.str x] G).thn _ _).fin).calm = _
          have ei : PySem.intText? x = some ((NumText.digitsVal (c :: l) : Nat) : Int) := by
            rw [← ex]
            exact intText_digits (by rw [show x.cps.toList = c :: l from ex]; exact hd) (by rw [show x.cps.toList = c :: l from ex]; simp) (by omega)
          unfold cIntT
          simp only
          rw [if_pos (by omega), ei]
          rfl
        · rw [rn_walk_bad (G := G) (c :: l) [some (W.str x), none] rfl hd, seq_rt, if_neg hd]
          rfl
      by_cases h2 : c = 48 ∧ l ≠ []
      · rw [if_neg (fun z => z.2.1 ⟨by rw [List.head?_cons, h2.1], by simp [h2.2]⟩)]
        rw [seq_if_t (G1 := G) (orF (b := true) (by rw [notT c1]; rfl) (andT' (b := true) (tst (op2 (op2 (vr x0) gC_ev ix) gC_ev (by rw [fEq_s, decide_eq_true (str_eq_tl.mpr (by rw [h2.1]; decide +kernel))]))) (tst (op2 (vr x0) gC_ev (by rw [fNe_s, decide_eq_false (fun z => h2.2 (by rw [str_eq_tl, ex, show TL.tl (Str.ofString "0") = [48] from by decide +kernel] at z; exact (List.cons.inj z).2))]; rfl))))), ret_c, seq_rt]
        rfl
      · have e2 : (if (1 ≤ (c :: l).length ∧ (c :: l).length ≤ 12) ∧ ¬((c :: l).head? = some 48 ∧ c :: l ≠ [48]) ∧ ∀ c' ∈ c :: l, 48 ≤ c' ∧ c' ≤ 57 then some ((NumText.digitsVal (c :: l) : Nat) : Int) else none) = (if ∀ c' ∈ c :: l, 48 ≤ c' ∧ c' ≤ 57 then some ((NumText.digitsVal (c :: l) : Nat) : Int) else none) := by
          have : (1 ≤ (c :: l).length ∧ (c :: l).length ≤ 12) := by rw [← ex, ← hlen]; exact h1
          have : ¬((c :: l).head? = some 48 ∧ c :: l ≠ [48]) := fun ⟨a, b⟩ => h2 ⟨by simpa using a, fun z => b (by rw [z, show c = 48 by simpa using a])⟩
          split
          · rename_i k; rw [if_pos k.2.2]
          · rename_i k; rw [if_neg fun z => k ⟨by assumption, by assumption, z⟩]
        rw [e2]
        refine Eq.trans ?_ (go _ rfl)
        have tf : (gOrT (gNotT (gTest (gChain fLe fLe (gC (.int 1)) (gCall cLen (gCons (gVar 0) gNil)) (gC (.int 12))))) (gAndT (gTest (gOp fEq (gOp fIx (gVar 0) (gC (.int 0))) (gC (.str "0")))) (gTest (gOp fNe (gVar 0) (gC (.str "0")))))) [some (W.str x), none] G = .ok false G := by
          refine orF (by rw [notT c1]; rfl) ?_
          by_cases h3 : c = 48
          · have h4 : l = [] := by
              by_cases z : l = []
              · exact z
              · exact absurd ⟨h3, z⟩ h2
            refine andT' (tst (op2 (op2 (vr x0) gC_ev ix) gC_ev (by rw [fEq_s, decide_eq_true (str_eq_tl.mpr (by rw [h3]; decide +kernel))]))) (tst (op2 (vr x0) gC_ev (by rw [fNe_s, decide_eq_true (str_eq_tl.mpr (by rw [ex, h3, h4]; decide +kernel))]; rfl)))
          · exact andF (tst (op2 (op2 (vr x0) gC_ev ix) gC_ev (by rw [fEq_s, decide_eq_false (fun z => h3 (by rw [str_eq_tl, show TL.tl (Str.ofString "0") = [48] from by decide +kernel] at z; exact (List.cons.inj z).1))])))
        rw [seq_if_f tf, gNext_ev, seq_nx]
        unfold t_read_number_3
        rfl
  · rw [if_neg (fun z => h1 (by rw [hlen]; exact z.1))]
    have c1 := len_chain (G := G) x0 hl
    rw [decide_eq_false h1] at c1
    rw [seq_if_t (G1 := G) (orT (by rw [notT c1]; rfl)), ret_c, seq_rt]
    rfl
end
end Lw

set_option Elab.async false
set_option linter.all false
set_option maxRecDepth 100000
namespace Lw
open PySem PySem.Spec PyProof.Rows L2 Fn
section
variable {G : GH}
theorem fSlX_s {own : Bool} {x : Str} {lo hi : Option Int} (h : x.length ≤ 100000) : fSlX own (.str x) lo hi G = .ok (.str (cutS x lo hi)) G := by
  unfold fSlX
  simp only
  rw [if_pos (by rw [sizeLine_eq]; omega)]
theorem tl_cutS {x : Str} {lo hi : Option Int} : TL.tl (cutS x lo hi) = ((TL.tl x).drop (HT.sIx x.length 0 lo)).take (HT.sIx x.length x.length hi - HT.sIx x.length 0 lo) := rfl
theorem tl_head {x : Str} : TL.tl (cutS x none (some 1)) = (TL.tl x).take 1 := by
  rw [tl_cutS, HT.sIx_none, show (1 : Int) = ((1 : Nat) : Int) from rfl, HT.sIx_nat, List.drop_zero, Nat.sub_zero, TL.len_tl, List.take_eq_take_iff]
  omega
theorem tl_rest {x : Str} : TL.tl (cutS x (some 1) none) = (TL.tl x).tail := by
  rw [tl_cutS, HT.sIx_none, show (1 : Int) = ((1 : Nat) : Int) from rfl, HT.sIx_nat, TL.len_tl]
  cases e : TL.tl x with
  | nil => rfl
  | cons c l => simp
theorem read_integer_ok (x : Str) (hl : x.length ≤ 100000) : f_read_integer [.str x] G = .ok (oI (readI (TL.tl x))) G := by
  rw [e_read_integer]
  unfold b_read_integer t_read_integer_3 readI
  have x0 : ([some (W.str x), none] : En)[0]? = some (some (.str x)) := rfl
  have sl : gSlX false (gVar 0) gNoPart (gPart (gC (.int 1))) [some (W.str x), none] G = .ok (.str (cutS x none (some 1))) G := by
    unfold gSlX
    rw [vr x0, bind_ok, gNoPart_ev, bind_ok, gPart_ev, gC_ev, bind_ok]
    exact fSlX_s (own := false) hl
  have dash : (cutS x none (some 1) = Str.ofString "-") ↔ (TL.tl x).head? = some 45 := by
    rw [str_eq_tl, tl_head, show TL.tl (Str.ofString "-") = [45] from by decide +kernel]
    cases TL.tl x with
    | nil => simp
    | cons c l => simp
  by_cases h : (TL.tl x).head? = some 45
  · rw [if_pos h, seq_if_f (G1 := G) (tst (op2 sl gC_ev (by rw [fNe_s, decide_eq_true (dash.mpr h)]; rfl))), gNext_ev, seq_nx]
    unfold t_read_integer_2
    have hl2 : (cutS x (some 1) none).length ≤ 100000 := by
      rw [TL.len_tl, tl_rest, List.length_tail, ← TL.len_tl]; omega
    have sl2 : gSlX false (gVar 0) (gPart (gC (.int 1))) gNoPart [some (W.str x), none] G = .ok (.str (cutS x (some 1) none)) G := by
      unfold gSlX
      rw [vr x0, bind_ok, gPart_ev, gC_ev, bind_ok]
      exact fSlX_s (own := false) hl
    have rn := read_number_ok (G := G) (cutS x (some 1) none) hl2
    rw [tl_rest] at rn
    rw [asg_nx (call1 sl2 rn)]
    unfold t_read_integer_1
    cases e : readN (TL.tl x).tail with
    | none => rfl
    | some n =>
      by_cases z : n = 0
      · subst z; rfl
      · simp only
        rw [if_neg z]
        show ((((R.ok false G).bind fun k G => if k then R.ok true G else gTest (gOp fEq (gVar 1) (gC (.int 0))) [some (W.str x), some (.int n)] G).bind fun k G => if k then gC .non [some (W.str x), some (.int n)] G else gNeg (gVar 1) [some (W.str x), some (.int n)] G).thn _ _).fin.calm = _
        rw [bind_ok, if_neg (by decide), tst (b := false) (op2 (vr (w := .int n) rfl) gC_ev (by
          show fEq (.int n) (.int 0) G = _
          rw [fEq_nb rfl rfl (by simp [W.dep])]
          congr 2
          exact beq_eq_false_iff_ne.mpr z)), bind_ok, if_neg (by decide)]
        rfl
  · rw [if_neg h, seq_if_t (G1 := G) (tst (op2 sl gC_ev (by rw [fNe_s, decide_eq_false (fun z => h (dash.mp z))]; rfl))), gRet_ev, call1 (vr x0) (read_number_ok x hl)]
    rfl
def readIs : List Str → Option (List Int)
  | [] => some []
  | x :: xs => match readI (TL.tl x), readIs xs with
    | some n, some ns => some (n :: ns)
    | _, _ => none
theorem readIs_num : ∀ {ns : List Int}, (∀ n ∈ ns, n.natAbs < 10 ^ 12) → readIs (ns.map numT) = some ns
  | [], _ => rfl
  | n :: ns, h => by
    rw [List.map_cons, readIs, readI_num (h n (List.mem_cons_self)), readIs_num fun m k => h m (List.mem_cons_of_mem _ k)]
theorem oI_nb (o : Option Int) : (oI o).pl = true ∧ (oI o).dep = 0 := by cases o <;> exact ⟨rfl, rfl⟩
theorem oIs_nb : ∀ os : List (Option Int), W.pls (os.map oI) = true ∧ W.deps (os.map oI) = 0
  | [] => ⟨rfl, rfl⟩
  | o :: os => by
    obtain ⟨a, b⟩ := oI_nb o
    obtain ⟨c, d⟩ := oIs_nb os
    exact ⟨by simp only [List.map_cons, W.pls, a, c, Bool.and_self], by simp only [List.map_cons, W.deps]; omega⟩
theorem in_none : ∀ xs : List Str, inWs .non ((xs.map fun x => readI (TL.tl x)).map oI) = (readIs xs).isNone
  | [] => rfl
  | x :: xs => by
    rw [List.map_cons, List.map_cons, inWs, in_none xs, readIs]
    cases readI (TL.tl x) with
    | none => rfl
    | some n => cases readIs xs <;> rfl
theorem readIs_all : ∀ {xs : List Str} {ns : List Int}, readIs xs = some ns → (xs.map fun x => readI (TL.tl x)).map oI = ns.map W.int
  | [], ns, h => by cases h; rfl
  | x :: xs, ns, h => by
    unfold readIs at h
    cases e : readI (TL.tl x) with
    | none => rw [e] at h; cases h
    | some n =>
      cases e2 : readIs xs with
      | none => rw [e, e2] at h; cases h
      | some ms =>
        rw [e, e2] at h
        cases h
        rw [List.map_cons, List.map_cons, List.map_cons, e, readIs_all e2]
        rfl
def oT : Option (List Int) → W
  | some ns => .tup (ns.map .int)
  | none => .non
theorem cTuple_l (ws : List W) : cTuple [.lst ws] G = .ok (.tup ws) G := rfl
theorem read_integers_ok (xs : List Str) (hl : ∀ x ∈ xs, x.length ≤ 100000) (hn : xs.length ≤ 100000) : f_read_integers [.lst (xs.map .str)] G = .ok (oT (readIs xs)) G := by
  rw [e_read_integers]
  unfold b_read_integers t_read_integers_2
  have lc := lc_on (G := G) (ρw := wipeW [some (W.lst (xs.map .str)), none, none] [2]) (t := tgName 2) (te := gCall (cFn 1 f_read_integer) (gCons (gVar 2) gNil)) W.str (fun x => oI (readI (TL.tl x))) xs fun x m => ⟨_, tgName_ev 2, call1 (vr rfl) (read_integer_ok x (hl x m))⟩
  rw [asg_nx (w := .tup ((xs.map fun x => readI (TL.tl x)).map oI)) (G1 := G) (by
    rw [gCall_ev, gCons_ev, lcS (vr rfl) (asSeq_l _) lc (by simpa using (by omega : xs.length ≤ 1000000)), mkL_false, bind_ok, gNil_ev, bind_ok, bind_ok, cTuple_l, List.map_map]
    rfl)]
  unfold t_read_integers_1
  have ti : gTest (gOp (fIn false) (gC .non) (gVar 1)) ([some (W.lst (xs.map .str)), none, none].set 1 (some (.tup ((xs.map fun x => readI (TL.tl x)).map oI)))) G = .ok (readIs xs).isNone G := by
    refine tst (op2 gC_ev (vr rfl) ?_)
    obtain ⟨a, b⟩ := oIs_nb (xs.map fun x => readI (TL.tl x))
    unfold fIn res itemsD
    simp only [W.pl, a, b, in_none, W.dep]
    rfl
  rw [gRet_ev, gIf_ev, ti, bind_ok]
  cases e : readIs xs with
  | none => rfl
  | some ns =>
    rw [if_neg (by simp), vr (w := .tup ((xs.map fun x => readI (TL.tl x)).map oI)) rfl, readIs_all e]
    rfl
end
end Lw

set_option Elab.async false
set_option linter.all false
set_option maxRecDepth 100000
namespace Lw
open PySem PySem.Spec PyProof.Rows L2 Fn
section
variable {G : GH}
/-- words that are not too long -/
def Wd (ws : List Str) : Prop := (∀ x ∈ ws, x.length ≤ 100000) ∧ ws.length ≤ 100000
theorem Wd.sub {ws us : List Str} (h : Wd ws) (s : ∀ x ∈ us, x ∈ ws) (l : us.length ≤ ws.length) : Wd us := ⟨fun x m => h.1 x (s x m), Nat.le_trans l h.2⟩
theorem fSl_l (ws : List W) (lo hi : Option Int) : fSlX false (.lst ws) lo hi G = .ok (.lst (cutW ws lo hi)) G := rfl
theorem fSl_t (ws : List W) (lo hi : Option Int) : fSlX false (.tup ws) lo hi G = .ok (.tup (cutW ws lo hi)) G := rfl
theorem slFrom {i : Nat} {k : Nat} {ρ : En} {ws : List W} (h : ρ[i]? = some (some (.lst ws))) : gSlX false (gVar i) (gPart (gC (.int (k : Int)))) gNoPart ρ G = .ok (.lst (ws.drop k)) G := by
  unfold gSlX
  rw [vr h, bind_ok, gPart_ev, gC_ev, bind_ok]
  show fSlX false (.lst ws) (some (k : Int)) none G = _
  rw [fSl_l, cut_from]
theorem slFromT {i : Nat} {k : Nat} {ρ : En} {ws : List W} (h : ρ[i]? = some (some (.tup ws))) : gSlX false (gVar i) (gPart (gC (.int (k : Int)))) gNoPart ρ G = .ok (.tup (ws.drop k)) G := by
  unfold gSlX
  rw [vr h, bind_ok, gPart_ev, gC_ev, bind_ok]
  show fSlX false (.tup ws) (some (k : Int)) none G = _
  rw [fSl_t, cut_from]
theorem slBetween {i : Nat} {j k : Nat} {ρ : En} {ws : List W} (h : ρ[i]? = some (some (.lst ws))) : gSlX false (gVar i) (gPart (gC (.int (j : Int)))) (gPart (gC (.int (k : Int)))) ρ G = .ok (.lst ((ws.take k).drop j)) G := by
  unfold gSlX
  rw [vr h, bind_ok, gPart_ev, gC_ev, bind_ok]
  show ((gPart (gC (.int (k : Int))) ρ G).bind fun h G3 => fSlX false (.lst ws) (some (j : Int)) h G3) = _
  rw [gPart_ev, gC_ev, bind_ok]
  show fSlX false (.lst ws) (some (j : Int)) (some (k : Int)) G = _
  rw [fSl_l]
  congr 2
  unfold cutW
  rw [HT.sIx_nat, HT.sIx_nat, List.drop_take]
  by_cases h : j ≤ ws.length
  · rw [Nat.min_eq_left h, List.take_eq_take_iff, List.length_drop]; omega
  · rw [List.drop_eq_nil_of_le (by omega), List.drop_eq_nil_of_le (by omega)]; simp
theorem slF1 {i : Nat} {ρ : En} {ws : List W} (h : ρ[i]? = some (some (.lst ws))) : gSlX false (gVar i) (gPart (gC (.int 1))) gNoPart ρ G = .ok (.lst (ws.drop 1)) G := slFrom (k := 1) h
theorem slF2 {i : Nat} {ρ : En} {ws : List W} (h : ρ[i]? = some (some (.lst ws))) : gSlX false (gVar i) (gPart (gC (.int 2))) gNoPart ρ G = .ok (.lst (ws.drop 2)) G := slFrom (k := 2) h
theorem slF3 {i : Nat} {ρ : En} {ws : List W} (h : ρ[i]? = some (some (.lst ws))) : gSlX false (gVar i) (gPart (gC (.int 3))) gNoPart ρ G = .ok (.lst (ws.drop 3)) G := slFrom (k := 3) h
theorem slT1 {i : Nat} {ρ : En} {ws : List W} (h : ρ[i]? = some (some (.tup ws))) : gSlX false (gVar i) (gPart (gC (.int 1))) gNoPart ρ G = .ok (.tup (ws.drop 1)) G := slFromT (k := 1) h
theorem slB12 {i : Nat} {ρ : En} {ws : List W} (h : ρ[i]? = some (some (.lst ws))) : gSlX false (gVar i) (gPart (gC (.int 1))) (gPart (gC (.int 2))) ρ G = .ok (.lst ((ws.take 2).drop 1)) G := slBetween (j := 1) (k := 2) h
theorem slB13 {i : Nat} {ρ : En} {ws : List W} (h : ρ[i]? = some (some (.lst ws))) : gSlX false (gVar i) (gPart (gC (.int 1))) (gPart (gC (.int 3))) ρ G = .ok (.lst ((ws.take 3).drop 1)) G := slBetween (j := 1) (k := 3) h
theorem isN_oT (o : Option (List Int)) : fIsN false (oT o) .non G = .ok (.bl o.isNone) G := by
  cases o <;> rfl
/-! ### the row of a unit -/
def uRow (ws : List Str) : Option W := if ws.head? = some (Str.ofString "unit") then match readIs ws.tail with
    | some (n :: ns) => if n < 1 then none else some (.tup [.int n, .tup (ns.map .int)])
    | _ => none
  else none
def oW : Option W → W
  | some w => w
  | none => .non
theorem ints_call {ws : List Str} {us : List W} {g : FE} {ρ : En} (h : Wd ws) (e : g ρ G = .ok (.lst us) G) (eu : us = ws.map W.str) : gCall (cFn 1 f_read_integers) (gCons g gNil) ρ G = .ok (oT (readIs ws)) G := by
  subst eu
  exact call1 e (read_integers_ok ws h.1 h.2)
theorem word0 {ρ : En} {w : Str} {ws : List Str} (h : ρ[0]? = some (some (.lst ((w :: ws).map W.str)))) : gOp fIx (gVar 0) (gC (.int 0)) ρ G = .ok (.str w) G := op2 (vr h) gC_ev (by rw [fIx_lst, List.map_cons, atI_0]; rfl)
theorem tup1 {a : FE} {ρ : En} {u : W} {G1 : GH} (ha : a ρ G = .ok u G1) : gTup (gCons a gNil) ρ G = .ok (.tup [u]) G1 := by
  rw [gTup_ev, gCons_ev, ha, bind_ok, gNil_ev, bind_ok, bind_ok]
  exact if_pos (len_le' (show 1 ≤ 1000 by decide))
theorem tup2 {a b : FE} {ρ : En} {u v : W} {G1 G2 : GH} (ha : a ρ G = .ok u G1) (hb : b ρ G1 = .ok v G2) : gTup (gCons a (gCons b gNil)) ρ G = .ok (.tup [u, v]) G2 := by
  rw [gTup_ev, gCons_ev, ha, bind_ok, gCons_ev, hb, bind_ok, gNil_ev, bind_ok, bind_ok, bind_ok]
  exact if_pos (len_le' (show 2 ≤ 1000 by decide))
theorem neT {g : FE} {ρ : En} {w k : Str} {b : Bool} (e : g ρ G = .ok (.str w) G) (h : decide (w = k) = !b) : gTest (gOp fNe g (gC (.str k))) ρ G = .ok b G := tst (op2 e gC_ev (by rw [fNe_s, h, Bool.not_not]))
theorem read_unit_row_ok {ws : List Str} (h : Wd ws) (hn : ws ≠ []) : f_read_unit_row [.lst (ws.map .str)] G = .ok (oW (uRow ws)) G := by
  cases ws with
  | nil => exact absurd rfl hn
  | cons w ws =>
    rw [e_read_unit_row]
    unfold b_read_unit_row t_read_unit_row_3 uRow
    have hw : Wd ws := h.sub (fun x m => List.mem_cons_of_mem _ m) (by simp)
    have c1 := ints_call (G := G) (ρ := [some (.lst ((w :: ws).map W.str)), none]) hw (slF1 (i := 0) (ws := (w :: ws).map W.str) rfl) rfl
    rw [asg_nx c1]
    have w0 : gOp fIx (gVar 0) (gC (.int 0)) ([some (.lst ((w :: ws).map W.str)), none].set 1 (some (oT (readIs ws)))) G = .ok (.str w) G := word0 rfl
    have n1 : ([some (.lst ((w :: ws).map W.str)), none].set 1 (some (oT (readIs ws))))[1]? = some (some (oT (readIs ws))) := rfl
    unfold t_read_unit_row_2
    rw [List.head?_cons, List.tail_cons]
    by_cases hu : w = Str.ofString "unit"
    · rw [if_pos (by rw [hu])]
      have t1 := neT (k := Str.ofString "unit") (b := false) w0 (by rw [decide_eq_true hu]; rfl)
      cases e : readIs ws with
      | none =>
        rw [e] at n1 t1
        rw [seq_if_t (G1 := G) (orF t1 (orT (tst (op2 (vr n1) gC_ev (isN_oT _))))), ret_c, seq_rt]
        rfl
      | some ns =>
        rw [e] at n1 t1
        cases ns with
        | nil =>
          rw [seq_if_t (G1 := G) (orF t1 (orF (tst (op2 (vr n1) gC_ev (isN_oT _))) (orT (tst (by
            refine op2 (w := .bl true) (u := .int 0) (v := .int 0) (G1 := G) (G2 := G) ?_ gC_ev ?_
            · rw [gCall_ev, gCons_ev, vr n1]; rfl
            · rw [fEq_nb rfl rfl (by simp [W.dep])]; rfl))))), ret_c, seq_rt]
          rfl
        | cons n ns =>
          have t3 : gTest (gOp fEq (gCall cLen (gCons (gVar 1) gNil)) (gC (.int 0))) ([some (.lst ((w :: ws).map W.str)), none].set 1 (some (oT (some (n :: ns))))) G = .ok false G := by
            refine tst (op2 (u := .int ((n :: ns).map W.int).length) (v := .int 0) (G1 := G) (G2 := G) ?_ gC_ev ?_)
            · rw [gCall_ev, gCons_ev, vr n1]; rfl
            · rw [fEq_nb rfl rfl (by simp [W.dep])]
              rfl
          have i0 : gOp fIx (gVar 1) (gC (.int 0)) ([some (.lst ((w :: ws).map W.str)), none].set 1 (some (oT (some (n :: ns))))) G = .ok (.int n) G := op2 (vr n1) gC_ev (by show fIx (.tup ((n :: ns).map W.int)) _ G = _; rw [fIx_tup, List.map_cons, atI_0]; rfl)
          have t4 := tst (op2 i0 (gC_ev (w := .int 1)) (fLt_i n 1))
          by_cases hn1 : n < 1
          · rw [decide_eq_true hn1] at t4
            rw [seq_if_t (G1 := G) (orF t1 (orF (tst (op2 (vr n1) gC_ev (isN_oT _))) (orF t3 t4))), ret_c, seq_rt]
            simp only
            rw [if_pos hn1]
            rfl
          · rw [decide_eq_false hn1] at t4
            rw [seq_if_f (G1 := G) (orF t1 (orF (tst (op2 (vr n1) gC_ev (isN_oT _))) (orF t3 t4))), gNext_ev, seq_nx]
            simp only
            rw [if_neg hn1]
            unfold t_read_unit_row_1
            rw [gRet_ev, tup2 i0 (slT1 n1)]
            rfl
    · rw [if_neg (fun z => hu (by simpa using z))]
      rw [seq_if_t (G1 := G) (orT (neT w0 (by rw [decide_eq_false hu]; rfl))), ret_c, seq_rt]
      rfl
/-! ### the row of a pair -/
def pRow : List Str → Option W
  | [p, a, b, t, d] => if p = Str.ofString "pair" ∧ t = Str.ofString "at" then match readIs [a, b, d] with
      | some [x, y, z] => some (.tup [.tup [.tup [.int x, .int y]], .int z])
      | _ => none
    else none
  | [p, a, b, c, d, t, e] => if p = Str.ofString "pair" ∧ t = Str.ofString "at" then match readIs [a, b, c, d, e] with
      | some [x, y, u, v, z] => some (.tup [.tup [.tup [.int x, .int y], .tup [.int u, .int v]], .int z])
      | _ => none
    else none
  | _ => none
theorem fIn57 (a : Int) : fIn true (.int a) (.tup [.int 5, .int 7]) G = .ok (.bl (!decide (a = 5 ∨ a = 7))) G := by
  unfold fIn res itemsD
  have e : inWs (.int a) [.int 5, .int 7] = decide (a = 5 ∨ a = 7) := by
    show ((5 : Int) == a || ((7 : Int) == a || false)) = _
    rw [Bool.or_false, Bool.eq_iff_iff, Bool.or_eq_true, beq_iff_eq, beq_iff_eq, decide_eq_true_eq]
    omega
  simp only [e]
  rfl
theorem readIs_len : ∀ {xs : List Str} {ns : List Int}, readIs xs = some ns → ns.length = xs.length
  | [], ns, h => by cases h; rfl
  | x :: xs, ns, h => by
    unfold readIs at h
    cases e : readI (TL.tl x) with
    | none => rw [e] at h; cases h
    | some n =>
      cases e2 : readIs xs with
      | none => rw [e, e2] at h; cases h
      | some ms =>
        rw [e, e2] at h
        cases h
        simp [readIs_len e2]
theorem len57 {ρ : En} {ws : List W} (h : ρ[0]? = some (some (.lst ws))) : gTest (gOp (fIn true) (gCall cLen (gCons (gVar 0) gNil)) (gC (.tup [(.int 5), (.int 7)]))) ρ G = .ok (!decide ((ws.length : Int) = 5 ∨ (ws.length : Int) = 7)) G := by
  refine tst (op2 (u := .int ws.length) (G1 := G) ?_ gC_ev (fIn57 _))
  rw [gCall_ev, gCons_ev, vr h, bind_ok, gNil_ev, bind_ok, bind_ok, cLen_lst]
theorem pRow_bad {p : Str} {ws : List Str} (h : p ≠ Str.ofString "pair") : pRow (p :: ws) = none := by
  unfold pRow
  split
  · rename_i e; cases e; rw [if_neg (fun z => h z.1)]
  · rename_i e; cases e; rw [if_neg (fun z => h z.1)]
  · rfl
theorem pRow_len {ws : List Str} (h : ¬ ((ws.length : Int) = 5 ∨ (ws.length : Int) = 7)) : pRow ws = none := by
  unfold pRow
  split
  · exact absurd (.inl rfl) h
  · exact absurd (.inr rfl) h
  · rfl
theorem cTuple1 {g : FE} {ρ : En} {ws : List W} {G1 : GH} (h : g ρ G = .ok (.lst ws) G1) : gCall cTuple (gCons g gNil) ρ G = .ok (.tup ws) G1 := by
  rw [gCall_ev, gCons_ev, h, bind_ok, gNil_ev, bind_ok, bind_ok, cTuple_l]
/-- the numbers in twos -/
theorem pr_tail {w : W} {ns : List Int} {k : Nat} (hk : ns.length = k) {ps : List W} {z : Int}
    (hr : asRng3 [.int 0, .int ((k : Int) - 1), .int 2] G = .ok (.vals (rngC 0 2 (k / 2))) G) (hp : lcF (tgName 2) gYes (gSlX false (gVar 1) (gPart (gVar 2)) (gPart (gOp (fAddL false) (gVar 2) (gC (.int 2))))) (wipeW [some w, some (oT (some ns)), none] [2]) (rngC 0 2 (k / 2)) G = .ok ps G) (hl : ps.length ≤ 100)
    (hz : L2.atI (ns.map W.int) (-1) = some (.int z)) : t_read_pair_row_1 [some w, some (oT (some ns)), none] G = .rt (.tup [.tup ps, .int z]) G := by
  unfold t_read_pair_row_1
  have e1 : (gCons (gC (.int 0)) (gCons (gOp fSub (gCall cLen (gCons (gVar 1) gNil)) (gC (.int 1))) (gCons (gC (.int 2)) gNil))) [some w, some (oT (some ns)), none] G = .ok [.int 0, .int ((k : Int) - 1), .int 2] G := by
    have el : gCall cLen (gCons (gVar 1) gNil) [some w, some (oT (some ns)), none] G = .ok (.int (k : Int)) G := by
      rw [gCall_ev, gCons_ev, vr (w := .tup (ns.map W.int)) rfl, bind_ok, gNil_ev, bind_ok, bind_ok, cLen_tup, List.length_map, hk]
    rw [gCons_ev, gC_ev, bind_ok, gCons_ev, op2 el gC_ev (fSub_i _ _), bind_ok, gCons_ev, gC_ev, bind_ok, gNil_ev, bind_ok, bind_ok, bind_ok]
  have e2 := lcI (own := false) e1 hr hp (by omega)
  rw [gRet_ev, tup2 (cTuple1 (e2.trans (mkL_false _))) (op2 (vr (w := .tup (ns.map W.int)) rfl) (by show gNeg _ _ _ = .ok (.int (-1)) G; rfl) (by rw [fIx_tup, hz]; rfl)), thn_ok]
theorem ns3 {xs : List Str} {ns : List Int} (h : readIs xs = some ns) (hl : xs.length = 3) : ∃ x y z, ns = [x, y, z] := by
  have := readIs_len h
  match ns, this with
  | [x, y, z], _ => exact ⟨x, y, z, rfl⟩
  | [], k => simp at k; omega
  | [_], k => simp at k; omega
  | [_, _], k => simp at k; omega
  | _ :: _ :: _ :: _ :: _, k => simp at k; omega
theorem ns5 {xs : List Str} {ns : List Int} (h : readIs xs = some ns) (hl : xs.length = 5) : ∃ x y u v z, ns = [x, y, u, v, z] := by
  have := readIs_len h
  match ns, this with
  | [x, y, u, v, z], _ => exact ⟨x, y, u, v, z, rfl⟩
  | [], k => simp at k; omega
  | [_], k => simp at k; omega
  | [_, _], k => simp at k; omega
  | [_, _, _], k => simp at k; omega
  | [_, _, _, _], k => simp at k; omega
  | _ :: _ :: _ :: _ :: _ :: _ :: _, k => simp at k; omega
theorem read_pair_row_ok {ws : List Str} (h : Wd ws) (hn : ws ≠ []) : f_read_pair_row [.lst (ws.map .str)] G = .ok (oW (pRow ws)) G := by
  cases ws with
  | nil => exact absurd rfl hn
  | cons w ws =>
    rw [e_read_pair_row]
    unfold b_read_pair_row t_read_pair_row_4
    have x0 : ([some (.lst ((w :: ws).map W.str)), none, none] : En)[0]? = some (some (.lst ((w :: ws).map W.str))) := rfl
    have w0 : gOp fIx (gVar 0) (gC (.int 0)) [some (.lst ((w :: ws).map W.str)), none, none] G = .ok (.str w) G := word0 x0
    by_cases hu : w = Str.ofString "pair"
    rotate_left
    · rw [pRow_bad hu, seq_if_t (G1 := G) (orT (neT w0 (by rw [decide_eq_false hu]; rfl))), ret_c, seq_rt]
      rfl
    have t1 := neT (k := Str.ofString "pair") (b := false) w0 (by rw [decide_eq_true hu]; rfl)
    have t2 := len57 (G := G) x0
    rw [List.length_map] at t2
    by_cases hl : ((w :: ws).length : Int) = 5 ∨ ((w :: ws).length : Int) = 7
    rotate_left
    · rw [decide_eq_false hl] at t2
      rw [pRow_len hl, seq_if_t (G1 := G) (orF t1 (orT t2)), ret_c, seq_rt]
      rfl
    rw [decide_eq_true hl] at t2
    rcases hl with hl | hl
    · match ws, hl with
      | [a, b, t, d], _ =>
        have wt : gOp fIx (gVar 0) (gNeg (gC (.int 2))) [some (.lst ([w, a, b, t, d].map W.str)), none, none] G = .ok (.str t) G := op2 (vr rfl) (by show gNeg _ _ _ = .ok (.int (-2)) G; rfl) rfl
        have e0 : pRow [w, a, b, t, d] = if t = Str.ofString "at" then match readIs [a, b, d] with
          | some [x, y, z] => some (.tup [.tup [.tup [.int x, .int y]], .int z])
          | _ => none
          else none := by
          show (if _ then _ else _) = _
          by_cases ht : t = Str.ofString "at"
          · rw [if_pos ⟨hu, ht⟩, if_pos ht]
          · rw [if_neg (fun z => ht z.2), if_neg ht]
        rw [e0]
        by_cases ht : t = Str.ofString "at"
        rotate_left
        · rw [if_neg ht, seq_if_t (G1 := G) (orF t1 (orF t2 (neT wt (by rw [decide_eq_false ht]; rfl)))), ret_c, seq_rt]
          rfl
        rw [if_pos ht, seq_if_f (G1 := G) (orF t1 (orF t2 (neT (b := false) wt (by rw [decide_eq_true ht]; rfl)))), gNext_ev, seq_nx]
        unfold t_read_pair_row_3
        have hw : Wd [a, b, d] := h.sub (fun x m => by simp at m ⊢; rcases m with e | e | e <;> simp [e]) (by simp)
        rw [asg_nx (ints_call (us := [a, b, d].map W.str) hw rfl rfl)]
        unfold t_read_pair_row_2
        cases e : readIs [a, b, d] with
        | none =>
          rw [seq_if_t (G1 := G) (tst (op2 (vr rfl) gC_ev (isN_oT _))), ret_c, seq_rt]
          rfl
        | some ns =>
          obtain ⟨x, y, z, rfl⟩ := ns3 e rfl
          rw [seq_if_f (G1 := G) (tst (op2 (vr rfl) gC_ev (isN_oT _))), gNext_ev, seq_nx]
          have pt := pr_tail (G := G) (w := .lst ([w, a, b, t, d].map W.str)) (ns := [x, y, z]) (k := 3) (ps := [.tup [.int x, .int y]]) (z := z) rfl rfl rfl (by simp) rfl
          exact congrArg (fun r => r.fin.calm) pt
    · match ws, hl with
      | [a, b, c, d, t, f], _ =>
        have wt : gOp fIx (gVar 0) (gNeg (gC (.int 2))) [some (.lst ([w, a, b, c, d, t, f].map W.str)), none, none] G = .ok (.str t) G := op2 (vr rfl) (by show gNeg _ _ _ = .ok (.int (-2)) G; rfl) rfl
        have e0 : pRow [w, a, b, c, d, t, f] = if t = Str.ofString "at" then match readIs [a, b, c, d, f] with
          | some [x, y, u, v, z] => some (.tup [.tup [.tup [.int x, .int y], .tup [.int u, .int v]], .int z])
          | _ => none
          else none := by
          show (if _ then _ else _) = _
          by_cases ht : t = Str.ofString "at"
          · rw [if_pos ⟨hu, ht⟩, if_pos ht]
          · rw [if_neg (fun z => ht z.2), if_neg ht]
        rw [e0]
        by_cases ht : t = Str.ofString "at"
        rotate_left
        · rw [if_neg ht, seq_if_t (G1 := G) (orF t1 (orF t2 (neT wt (by rw [decide_eq_false ht]; rfl)))), ret_c, seq_rt]
          rfl
        rw [if_pos ht, seq_if_f (G1 := G) (orF t1 (orF t2 (neT (b := false) wt (by rw [decide_eq_true ht]; rfl)))), gNext_ev, seq_nx]
        unfold t_read_pair_row_3
        have hw : Wd [a, b, c, d, f] := h.sub (fun x m => by simp at m ⊢; rcases m with e | e | e | e | e <;> simp [e]) (by simp)
        rw [asg_nx (ints_call (us := [a, b, c, d, f].map W.str) hw rfl rfl)]
        unfold t_read_pair_row_2
        cases e : readIs [a, b, c, d, f] with
        | none =>
          rw [seq_if_t (G1 := G) (tst (op2 (vr rfl) gC_ev (isN_oT _))), ret_c, seq_rt]
          rfl
        | some ns =>
          obtain ⟨x, y, u, v, z, rfl⟩ := ns5 e rfl
          rw [seq_if_f (G1 := G) (tst (op2 (vr rfl) gC_ev (isN_oT _))), gNext_ev, seq_nx]
          have pt := pr_tail (G := G) (w := .lst ([w, a, b, c, d, t, f].map W.str)) (ns := [x, y, u, v, z]) (k := 5) (ps := [.tup [.int x, .int y], .tup [.int u, .int v]]) (z := z) rfl rfl rfl (by simp) rfl
          exact congrArg (fun r => r.fin.calm) pt
end
end Lw

set_option Elab.async false
set_option linter.all false
set_option maxRecDepth 100000
namespace Lw
open PySem PySem.Spec PyProof.Rows L2 Fn
section
variable {G : GH}
/-! ### told values -/
def sizeT (w : Str) : Option Int := if Str.ofString "num" = w then some 2 else if Str.ofString "len" = w then some 3 else if Str.ofString "spot" = w then some 4 else none
def tRow : List Str → Option W
  | [] => none
  | w :: ws => if sizeT w = some (((w :: ws).length : Nat) : Int) then (readIs ws).map fun ns => .tup (.str w :: ns.map .int) else none
theorem getT (w : Str) : getW [(.inr (Str.ofString "num")), (.inr (Str.ofString "len")), (.inr (Str.ofString "spot"))] [(.int 2), (.int 3), (.int 4)] (.inr w) = (sizeT w).map W.int := by
  unfold sizeT
  simp only [getW, Sum.inr.injEq]
  split
  · rfl
  · split
    · rfl
    · split <;> rfl
theorem fNe_oI (o : Option Int) (n : Int) : fNe ((o.map W.int).getD .non) (.int n) G = .ok (.bl (!decide (o = some n))) G := by
  cases o with
  | none => rfl
  | some k =>
    show fNe (.int k) (.int n) G = _
    rw [fNe_nb rfl rfl (by simp [W.dep])]
    congr 3
    show (k == n) = _
    rw [Bool.eq_iff_iff, beq_iff_eq, decide_eq_true_eq, Option.some.injEq]
theorem len0 {ρ : En} {ws : List W} (h : ρ[0]? = some (some (.lst ws))) : gCall cLen (gCons (gVar 0) gNil) ρ G = .ok (.int ws.length) G := by
  rw [gCall_ev, gCons_ev, vr h, bind_ok, gNil_ev, bind_ok, bind_ok, cLen_lst]
theorem fEq_i (a b : Int) : fEq (.int a) (.int b) G = .ok (.bl (decide (a = b))) G := by
  rw [fEq_nb rfl rfl (by simp [W.dep])]
  congr 2
theorem tRow_cons (w : Str) (ws : List Str) : tRow (w :: ws) = if sizeT w = some (((w :: ws).length : Nat) : Int) then (readIs ws).map fun ns => .tup (.str w :: ns.map .int) else none := rfl
theorem read_told_ok {ws : List Str} (h : Wd ws) : f_read_told [.lst (ws.map .str)] G = .ok (oW (tRow ws)) G := by
  rw [e_read_told]
  unfold b_read_told t_read_told_3
  have x0 : ([some (.lst (ws.map W.str)), none] : En)[0]? = some (some (.lst (ws.map W.str))) := rfl
  have l0 := len0 (G := G) x0
  cases ws with
  | nil =>
    rw [seq_if_t (G1 := G) (orT (tst (op2 l0 gC_ev (fEq_i _ _)))), ret_c, seq_rt]
    rfl
  | cons w ws =>
    have t1 : gTest (gOp fEq (gCall cLen (gCons (gVar 0) gNil)) (gC (.int 0))) [some (.lst ((w :: ws).map W.str)), none] G = .ok false G := by
      refine tst (op2 l0 gC_ev ?_)
      rw [fEq_i, decide_eq_false]
      simp; omega
    have w0 : gOp fIx (gVar 0) (gC (.int 0)) [some (.lst ((w :: ws).map W.str)), none] G = .ok (.str w) G := word0 x0
    have eg : gGet (gC (.dic [(.inr (Str.ofString "num")), (.inr (Str.ofString "len")), (.inr (Str.ofString "spot"))] [(.int 2), (.int 3), (.int 4)])) (gOp fIx (gVar 0) (gC (.int 0))) [some (.lst ((w :: ws).map W.str)), none] G = .ok (((sizeT w).map W.int).getD .non) G := by
      unfold gGet
      rw [gC_ev, bind_ok]
      rw [if_pos (by rfl), w0, bind_ok]
      show R.ok ((getW _ _ (.inr w)).getD .non) G = _
      rw [getT]
    have t2 : gTest (gOp fNe (gGet (gC (.dic [(.inr (Str.ofString "num")), (.inr (Str.ofString "len")), (.inr (Str.ofString "spot"))] [(.int 2), (.int 3), (.int 4)])) (gOp fIx (gVar 0) (gC (.int 0)))) (gCall cLen (gCons (gVar 0) gNil))) [some (.lst ((w :: ws).map W.str)), none] G = .ok (!decide (sizeT w = some (((w :: ws).length : Nat) : Int))) G := by
      refine tst (op2 eg l0 ?_)
      rw [fNe_oI, List.length_map]
    rw [tRow_cons]
    by_cases hs : sizeT w = some (((w :: ws).length : Nat) : Int)
    · rw [decide_eq_true hs] at t2
      rw [if_pos hs, seq_if_f (G1 := G) (orF t1 t2), gNext_ev, seq_nx]
      unfold t_read_told_2
      have hw : Wd ws := h.sub (fun x m => List.mem_cons_of_mem _ m) (by simp)
      rw [asg_nx (ints_call (us := ((w :: ws).map W.str).drop 1) hw (slF1 (i := 0) rfl) rfl)]
      unfold t_read_told_1
      rw [gRet_ev, gIf_ev, tst (op2 (vr (w := oT (readIs ws)) rfl) gC_ev (isN_oT _)), bind_ok]
      cases e : readIs ws with
      | none => rfl
      | some ns =>
        rw [if_neg (by simp)]
        have hl := readIs_len e
        rw [op2 (tup1 (a := gOp fIx (gVar 0) (gC (.int 0))) (G1 := G) (word0 (w := w) (ws := ws) rfl)) (vr (w := .tup (ns.map W.int)) rfl) (add_tup (by have := h.2; simp at this ⊢; omega))]
        rfl
    · rw [decide_eq_false hs] at t2
      rw [if_neg hs, seq_if_t (G1 := G) (orF t1 t2), ret_c, seq_rt]
      rfl
/-! ### the rows of a first and a second -/
def fRow (ws : List Str) : Option W := match readIs ((ws.take 3).drop 1), tRow (ws.drop 3) with
  | some ns, some t => some (.tup [.tup (ns.map .int), t])
  | _, _ => none
def sRow (ws : List Str) : Option W := match readIs ((ws.take 2).drop 1), tRow (ws.drop 2) with
  | some ns, some t => some (.tup (ns.map .int ++ [t]))
  | _, _ => none
theorem tRow_tup {ws : List Str} {t : W} (h : tRow ws = some t) : ∃ us, t = .tup us := by
  unfold tRow at h
  split at h
  · cases h
  · split at h
    · obtain ⟨ns, _, rfl⟩ := Option.map_eq_some_iff.mp h
      exact ⟨_, rfl⟩
    · cases h
theorem isN_oW {ws : List Str} : fIsN false (oW (tRow ws)) .non G = .ok (.bl (tRow ws).isNone) G := by
  cases e : tRow ws with
  | none => rfl
  | some t => obtain ⟨us, rfl⟩ := tRow_tup e; rfl
theorem told_call {ws : List Str} {us : List W} {g : FE} {ρ : En} (h : Wd ws) (e : g ρ G = .ok (.lst us) G) (eu : us = ws.map W.str) : gCall (cFn 1 f_read_told) (gCons g gNil) ρ G = .ok (oW (tRow ws)) G := by
  subst eu
  exact call1 e (read_told_ok h)
theorem Wd.drop {ws : List Str} (h : Wd ws) (k : Nat) : Wd (ws.drop k) := h.sub (fun x m => List.mem_of_mem_drop m) (by simp)
theorem Wd.take {ws : List Str} (h : Wd ws) (k : Nat) : Wd (ws.take k) := h.sub (fun x m => List.mem_of_mem_take m) (by simp; omega)
theorem read_first_row_ok {ws : List Str} (h : Wd ws) : f_read_first_row [.lst (ws.map .str)] G = .ok (oW (fRow ws)) G := by
  rw [e_read_first_row]
  unfold b_read_first_row t_read_first_row_3
  rw [asg_nx (ints_call (ws := (ws.take 3).drop 1) (us := ((ws.map W.str).take 3).drop 1) ((h.take 3).drop 1) (slB13 (i := 0) rfl) (by rw [List.map_drop, List.map_take]))]
  unfold t_read_first_row_2
  rw [asg_nx (told_call (ws := ws.drop 3) (us := (ws.map W.str).drop 3) (h.drop 3) (slF3 (i := 0) rfl) (by rw [List.map_drop]))]
  unfold t_read_first_row_1 fRow
  have i1 := tst (op2 (vr (G := G) (ρ := (([some (W.lst (ws.map W.str)), none, none] : En).set 1 (some (oT (readIs ((ws.take 3).drop 1))))).set 2 (some (oW (tRow (ws.drop 3))))) (i := 1) (w := oT (readIs ((ws.take 3).drop 1))) rfl) (gC_ev (w := .non)) (isN_oT _))
  have i2 := tst (op2 (vr (G := G) (ρ := (([some (W.lst (ws.map W.str)), none, none] : En).set 1 (some (oT (readIs ((ws.take 3).drop 1))))).set 2 (some (oW (tRow (ws.drop 3))))) (i := 2) (w := oW (tRow (ws.drop 3))) rfl) (gC_ev (w := .non)) isN_oW)
  cases e1 : readIs ((ws.take 3).drop 1) with
  | none =>
    rw [e1] at i1
    rw [gRet_ev, gIf_ev, orT i1]
    rfl
  | some ns =>
    rw [e1] at i1 i2
    cases e2 : tRow (ws.drop 3) with
    | none =>
      rw [e2] at i1 i2
      rw [gRet_ev, gIf_ev, orF i1 i2]
      rfl
    | some t =>
      rw [e2] at i1 i2
      rw [gRet_ev, gIf_ev, orF i1 i2, bind_ok, if_neg (by simp), tup2 (vr rfl) (vr rfl)]
      rfl
theorem read_second_row_ok {ws : List Str} (h : Wd ws) : f_read_second_row [.lst (ws.map .str)] G = .ok (oW (sRow ws)) G := by
  rw [e_read_second_row]
  unfold b_read_second_row t_read_second_row_3
  rw [asg_nx (ints_call (ws := (ws.take 2).drop 1) (us := ((ws.map W.str).take 2).drop 1) ((h.take 2).drop 1) (slB12 (i := 0) rfl) (by rw [List.map_drop, List.map_take]))]
  unfold t_read_second_row_2
  rw [asg_nx (told_call (ws := ws.drop 2) (us := (ws.map W.str).drop 2) (h.drop 2) (slF2 (i := 0) rfl) (by rw [List.map_drop]))]
  unfold t_read_second_row_1 sRow
  have i1 := tst (op2 (vr (G := G) (ρ := (([some (W.lst (ws.map W.str)), none, none] : En).set 1 (some (oT (readIs ((ws.take 2).drop 1))))).set 2 (some (oW (tRow (ws.drop 2))))) (i := 1) (w := oT (readIs ((ws.take 2).drop 1))) rfl) (gC_ev (w := .non)) (isN_oT _))
  have i2 := tst (op2 (vr (G := G) (ρ := (([some (W.lst (ws.map W.str)), none, none] : En).set 1 (some (oT (readIs ((ws.take 2).drop 1))))).set 2 (some (oW (tRow (ws.drop 2))))) (i := 2) (w := oW (tRow (ws.drop 2))) rfl) (gC_ev (w := .non)) isN_oW)
  cases e1 : readIs ((ws.take 2).drop 1) with
  | none =>
    rw [e1] at i1
    rw [gRet_ev, gIf_ev, orT i1]
    rfl
  | some ns =>
    rw [e1] at i1 i2
    have hl := readIs_len e1
    have hl2 : ns.length ≤ 2 := by rw [hl, List.length_drop, List.length_take]; omega
    cases e2 : tRow (ws.drop 2) with
    | none =>
      rw [e2] at i1 i2
      rw [gRet_ev, gIf_ev, orF i1 i2]
      rfl
    | some t =>
      rw [e2] at i1 i2
      rw [gRet_ev, gIf_ev, orF i1 i2, bind_ok, if_neg (by simp), op2 (vr (w := .tup (ns.map W.int)) rfl) (tup1 (vr rfl)) (add_tup (by simp; omega))]
      rfl
end
end Lw

set_option Elab.async false
set_option linter.all false
set_option maxRecDepth 100000
namespace Lw
open PySem PySem.Spec PyProof.Rows L2 Fn
section
variable {G : GH}
/-! ### the reader -/
abbrev rdO (rows : List Str) (i : Nat) : AO := .ins 0 [Str.ofString "rows", Str.ofString "at"] [.lst (rows.map .str), .int (i : Int)]
def Rd (G : GH) (n : Nat) (rows : List Str) (i : Nat) : Prop := G.at_ n = some (rdO rows i)
theorem at_rows : (Str.ofString "at" == Str.ofString "rows") = false := by decide +kernel
theorem rows_at : (Str.ofString "rows" == Str.ofString "at") = false := by decide +kernel
theorem rows_rows : (Str.ofString "rows" == Str.ofString "rows") = true := by decide +kernel
theorem at_at : (Str.ofString "at" == Str.ofString "at") = true := by decide +kernel
theorem getF_rows {a b : W} : getF [Str.ofString "rows", Str.ofString "at"] [a, b] (Str.ofString "rows") = some a := by
  unfold getF; rw [rows_rows]; rfl
theorem getF_at {a b : W} : getF [Str.ofString "rows", Str.ofString "at"] [a, b] (Str.ofString "at") = some b := by
  unfold getF; rw [at_rows]; unfold getF; rw [at_at]; rfl
theorem Rd.look {n i : Nat} {rows : List Str} (h : Rd G n rows i) : olook 0 G (.ref n) = some ([Str.ofString "rows", Str.ofString "at"], [.lst (rows.map .str), .int (i : Int)]) := by
  have e : G.at_ n = some (rdO rows i) := h
  unfold olook
  simp only [e, if_true]
theorem Rd.own {n i : Nat} {rows : List Str} (h : Rd G n rows i) : oown 0 G (.ref n) = some (n, [Str.ofString "rows", Str.ofString "at"], [.lst (rows.map .str), .int (i : Int)]) := by
  have e : G.at_ n = some (rdO rows i) := h
  unfold oown
  simp only [e, if_true]
theorem Rd.rows {n i j : Nat} {rows : List Str} {ρ : En} (h : Rd G n rows i) (x : ρ[j]? = some (some (.ref n))) : gFld 0 (Str.ofString "rows") (gVar j) ρ G = .ok (.lst (rows.map .str)) G := by
  unfold gFld
  rw [vr x, bind_ok, h.look]
  simp only [getF_rows]
theorem Rd.at_ {n i j : Nat} {rows : List Str} {ρ : En} (h : Rd G n rows i) (x : ρ[j]? = some (some (.ref n))) : gFld 0 (Str.ofString "at") (gVar j) ρ G = .ok (.int (i : Int)) G := by
  unfold gFld
  rw [vr x, bind_ok, h.look]
  simp only [getF_at]
theorem Rd.len {n i j : Nat} {rows : List Str} {ρ : En} (h : Rd G n rows i) (x : ρ[j]? = some (some (.ref n))) : gCall cLen (gCons (gFld 0 (Str.ofString "rows") (gVar j)) gNil) ρ G = .ok (.int rows.length) G := by
  rw [gCall_ev, gCons_ev, h.rows x, bind_ok, gNil_ev, bind_ok, bind_ok, cLen_lst, List.length_map]
theorem put_rows {a : W} : putFW (Str.ofString "rows") a [] [] = ([Str.ofString "rows"], [a]) := rfl
theorem rows_ne : ¬ (Str.ofString "rows" = Str.ofString "at") := by decide +kernel
theorem put_at {a b : W} : putFW (Str.ofString "at") b [Str.ofString "rows"] [a] = ([Str.ofString "rows", Str.ofString "at"], [a, b]) := by
  unfold putFW
  rw [if_neg rows_ne]; rfl
theorem put_at2 {a b c : W} : putFW (Str.ofString "at") c [Str.ofString "rows", Str.ofString "at"] [a, b] = ([Str.ofString "rows", Str.ofString "at"], [a, c]) := by
  unfold putFW
  rw [if_neg rows_ne]
  unfold putFW
  rw [if_pos rfl]
theorem init_ok {n : Nat} {rows : List Str} (h : G.at_ n = some (.ins 0 [] [])) : f_RowReader___init__ [.ref n, .lst (rows.map .str)] G = .ok .non (G.set n (rdO rows 0)) := by
  rw [e_RowReader___init__]
  unfold b_RowReader___init__ t_RowReader___init___2 t_RowReader___init___1
  have o1 : oown 0 G (.ref n) = some (n, [], []) := by unfold oown; simp only [h, if_true]
  have e1 : gFldSet 0 (Str.ofString "rows") (gVar 1) (gVar 0) [some (.ref n), some (.lst (rows.map .str))] G = .nx [some (.ref n), some (.lst (rows.map .str))] (G.set n (.ins 0 [Str.ofString "rows"] [.lst (rows.map .str)])) := by
    unfold gFldSet
    rw [vr (w := .lst (rows.map .str)) rfl, thn_ok, vr (w := .ref n) rfl, thn_ok, o1]
    simp only [put_rows]
    rw [if_pos (by simp)]
  have o2 : oown 0 (G.set n (.ins 0 [Str.ofString "rows"] [.lst (rows.map .str)])) (.ref n) = some (n, [Str.ofString "rows"], [.lst (rows.map .str)]) := by unfold oown; simp only [set_same, if_true]
  rw [gSeq_ev, e1, seq_nx]
  unfold gFldSet
  rw [gC_ev, thn_ok, vr (w := .ref n) rfl, thn_ok, o2]
  simp only [put_at, set_set]
  rw [if_pos (by simp)]
  rfl
/-- the words of a row -/
def wordsR (x : Str) : List Str := Txt.split x (Str.ofString " ")
theorem row_at {n i : Nat} {rows : List Str} {ρ : En} {x : Str} (h : Rd G n rows i) (v : ρ[0]? = some (some (.ref n))) (hx : rows[i]? = some x) : gOp fIx (gFld 0 (Str.ofString "rows") (gVar 0)) (gFld 0 (Str.ofString "at") (gVar 0)) ρ G = .ok (.str x) G := by
  refine op2 (h.rows v) (h.at_ v) ?_
  rw [fIx_lst, atI_at (by omega) (by rw [Int.toNat_natCast, List.getElem?_map, hx]; rfl)]
  rfl
theorem split_at {g : FE} {ρ : En} {x : Str} (e : g ρ G = .ok (.str x) G) (hl : x.length ≤ 100000) : gMt "str" (mSplit false) g (gCons (gC (.str (Str.ofString " "))) gNil) ρ G = .ok (.lst ((wordsR x).map .str)) G := by
  unfold gMt
  rw [e, bind_ok, if_pos (by rfl), gCons_ev, gC_ev, bind_ok, gNil_ev, bind_ok, bind_ok]
  unfold mSplit
  simp only
  rw [if_pos ⟨by decide +kernel, by rw [sizeLine_eq]; omega⟩, mkL_false]
  rfl
theorem next_ok {n i k : Nat} {rows : List Str} {x : Str} {F : FC} {v : W} (h : Rd G n rows i) (hx : rows[i]? = some x) (hl : x.length ≤ 100000) (ht : tbl_1 k = some F) (hF : F [.lst ((wordsR x).map .str)] G = .ok v G) (hv : isNon v = some false) :
    f_RowReader_next_read [.ref n, .cl k] G = .ok v (G.set n (rdO rows (i + 1))) := by
  rw [e_RowReader_next_read]
  unfold b_RowReader_next_read t_RowReader_next_read_5
  have hi : i < rows.length := (List.getElem?_eq_some_iff.mp hx).1
  have t1 : gTest (gOp fEq (gFld 0 (Str.ofString "at") (gVar 0)) (gCall cLen (gCons (gFld 0 (Str.ofString "rows") (gVar 0)) gNil))) [some (.ref n), some (.cl k), none] G = .ok false G := by
    refine tst (op2 (h.at_ rfl) (h.len rfl) ?_)
    rw [fEq_i, decide_eq_false]
    omega
  rw [seq_if_f (G1 := G) t1, gNext_ev, seq_nx]
  unfold t_RowReader_next_read_4
  have c1 : gCallV 1 tbl_1 1 (gCons (gMt "str" (mSplit false) (gOp fIx (gFld 0 (Str.ofString "rows") (gVar 0)) (gFld 0 (Str.ofString "at") (gVar 0))) (gCons (gC (.str (Str.ofString " "))) gNil)) gNil) [some (.ref n), some (.cl k), none] G = .ok v G := by
    unfold gCallV
    show (match tbl_1 k with | some F => _ | none => _) = _
    rw [ht]
    simp only
    rw [gCons_ev, split_at (row_at h rfl hx) hl, bind_ok, gNil_ev, bind_ok, bind_ok, cFn_ev (n := 1) rfl, hF]
    rfl
  rw [asg_nx c1]
  unfold t_RowReader_next_read_3
  rw [seq_if_f (G1 := G) (tst (op2 (vr (w := v) rfl) gC_ev (by rw [fIsN_f false hv]; rfl))), gNext_ev, seq_nx]
  unfold t_RowReader_next_read_2
  have a1 : gFldAug 0 (Str.ofString "at") (gVar 0) (gC (.int 1)) [some (.ref n), some (.cl k), some v] G = .nx [some (.ref n), some (.cl k), some v] (G.set n (rdO rows (i + 1))) := by
    unfold gFldAug
    rw [vr (w := .ref n) rfl, thn_ok, h.own]
    simp only [getF_at]
    rw [gC_ev, thn_ok, h.own]
    simp only [put_at2]
    rw [if_pos (by simp)]
    rfl
  rw [gSeq_ev]
  show ((gFldAug 0 (Str.ofString "at") (gVar 0) (gC (.int 1)) [some (.ref n), some (.cl k), some v] G).seq _).fin.calm = _
  rw [a1, seq_nx]
  rfl
end
end Lw

set_option Elab.async false
set_option linter.all false
set_option maxRecDepth 100000
namespace Lw
open PySem PySem.Spec PyProof.Rows L2 Fn
section
variable {G : GH}
/-- all but n stands as it was -/
def Kp (n : Nat) (G G' : GH) : Prop := G.n ≤ G'.n ∧ ∀ m, m < G.n → m ≠ n → G'.at_ m = G.at_ m
theorem Kp.refl (n : Nat) (G : GH) : Kp n G G := ⟨Nat.le_refl _, fun _ _ _ => rfl⟩
theorem Kp.trans {n : Nat} {A B C : GH} (x : Kp n A B) (y : Kp n B C) : Kp n A C := ⟨Nat.le_trans x.1 y.1, fun m h k => (y.2 m (Nat.lt_of_lt_of_le h x.1) k).trans (x.2 m h k)⟩
theorem Kp.push (n : Nat) (G : GH) (o : AO) : Kp n G (G.push o) := ⟨Nat.le_succ _, fun m h _ => push_ne (by omega)⟩
theorem Kp.self {n : Nat} {G : GH} (o : AO) : Kp n G (G.set n o) := ⟨Nat.le_refl _, fun m _ k => set_ne k⟩
theorem Kp.over {n m : Nat} {G G' : GH} (x : Kp n G G') (h : G.n ≤ m) (o : AO) : Kp n G (G'.set m o) := ⟨x.1, fun j hj hn => by rw [set_ne (by omega)]; exact x.2 j hj hn⟩
theorem Rd.push {n i : Nat} {rows : List Str} (h : Rd G n rows i) (hn : n < G.n) (o : AO) : Rd (G.push o) n rows i := (push_ne (by omega)).trans h
theorem Rd.set {n i m : Nat} {rows : List Str} (h : Rd G n rows i) (hm : n ≠ m) (o : AO) : Rd (G.set m o) n rows i := (set_ne hm).trans h
theorem meth {n i k : Nat} {rows : List Str} {m : Str} {F : FC} {go : FE} {ga : FA} {ρ : En} {us : List W} {v : W} {G1 : GH} (R : Rd G n rows i) (hgo : go ρ G = .ok (.ref n) G) (nm : (([Str.ofString "rows", Str.ofString "at"] : List Str).any fun f => m == f) = false) (ha : ga ρ G = .ok us G) (hl : us.length + 1 = k) (hF : F (.ref n :: us) G = .ok v G1) :
    gMeth 0 m k F go ga ρ G = .ok v G1 := by
  unfold gMeth
  rw [hgo, bind_ok, R.look]
  simp only
  rw [if_pos nm, ha, bind_ok, cFn_ev (n := k) (by simpa using hl), hF]
  rfl
theorem newL {ρ : En} : gLst true gNil ρ G = .ok (.ref G.n) (G.push (.lst [])) := by
  rw [gLst_ev, gNil_ev, bind_ok, if_pos (len_le' (show ([] : List W).length ≤ 1000 by decide)), mkL_true]
/-- a row that F reads as v -/
def Rs (word : Str) (F : FC) (x : Str) (v : W) : Prop := x.length ≤ 100000 ∧ (∃ ws, wordsR x = word :: ws) ∧ (∀ G, F [.lst ((wordsR x).map .str)] G = .ok v G) ∧ isNon v = some false
def RsL (word : Str) (F : FC) : List Str → List W → Prop
  | [], [] => True
  | x :: xs, v :: vs => Rs word F x v ∧ RsL word F xs vs
  | _, _ => False
/-- what comes behind begins otherwise -/
def Oth (word : Str) : List Str → Prop
  | [] => True
  | x :: _ => x.length ≤ 100000 ∧ ∃ w ws, wordsR x = w :: ws ∧ w ≠ word
theorem drop_get {rows xs : List Str} {x : Str} {i : Nat} (h : rows.drop i = x :: xs) : rows[i]? = some x ∧ rows.drop (i + 1) = xs := by
  have hi : i < rows.length := by
    have := congrArg List.length h
    simp at this; omega
  rw [List.drop_eq_getElem_cons hi] at h
  exact ⟨by rw [List.getElem?_eq_getElem hi, (List.cons.inj h).1], (List.cons.inj h).2⟩
abbrev Tw : FT := gAndT (gTest (gOp fLt (gFld 0 (Str.ofString "at") (gVar 0)) (gCall cLen (gCons (gFld 0 (Str.ofString "rows") (gVar 0)) gNil)))) (gTest (gOp fEq (gOp fIx (gMt "str" (mSplit false) (gOp fIx (gFld 0 (Str.ofString "rows") (gVar 0)) (gFld 0 (Str.ofString "at") (gVar 0))) (gCons (gC (.str (Str.ofString " "))) gNil)) (gC (.int 0))) (gVar 1)))
theorem at_test {n i k m : Nat} {rows : List Str} {word x w : Str} {ws : List Str} (R : Rd G n rows i) (hx : rows[i]? = some x) (hl : x.length ≤ 100000) (hw : wordsR x = w :: ws) : Tw [some (.ref n), some (.str word), some (.cl k), some (.ref m)] G = .ok (decide (w = word)) G := by
  have hi : i < rows.length := (List.getElem?_eq_some_iff.mp hx).1
  refine andT' (tst (op2 (R.at_ rfl) (R.len rfl) (by rw [fLt_i, decide_eq_true (by omega)]))) (tst (op2 (op2 (split_at (row_at R rfl hx) hl) gC_ev (by rw [hw, fIx_lst, List.map_cons, atI_0]; rfl)) (vr rfl) (fEq_s _ _)))
theorem at_stop {n i k m : Nat} {rows : List Str} {word : Str} (R : Rd G n rows i) (hi : rows.length ≤ i) : Tw [some (.ref n), some (.str word), some (.cl k), some (.ref m)] G = .ok false G :=
  andF (tst (op2 (R.at_ rfl) (R.len rfl) (by rw [fLt_i, decide_eq_false (by omega)])))
theorem told_while {n m k : Nat} {rows : List Str} {word : Str} {F : FC} (ht : tbl_1 k = some F) (hmn : m ≠ n) : ∀ (xs : List Str) (vs acc : List W) (rest : List Str) (i : Nat) (G : GH), RsL word F xs vs → rows.drop i = xs ++ rest → Oth word rest → Rd G n rows i → G.at_ m = some (.lst acc) → acc.length + xs.length ≤ 100000 →
    ∃ G', gWhile Tw t_RowReader_all_told_1 [some (.ref n), some (.str word), some (.cl k), some (.ref m)] G = .nx [some (.ref n), some (.str word), some (.cl k), some (.ref m)] G' ∧ Rd G' n rows (i + xs.length) ∧ G'.at_ m = some (.lst (acc ++ vs)) ∧ G'.n = G.n ∧ ∀ j, j ≠ n → j ≠ m → G'.at_ j = G.at_ j
  | [], vs, acc, rest, i, G, h, hd, ho, R, hm, hz => by
    cases vs with
    | cons v vs => exact h.elim
    | nil =>
      refine ⟨G, ?_, R, by rw [List.append_nil]; exact hm, rfl, fun _ _ _ => rfl⟩
      rw [gWhile_eq]
      cases rest with
      | nil =>
        have hi : rows.length ≤ i := List.drop_eq_nil_iff.mp hd
        rw [at_stop R hi, thn_ok, if_neg (by decide)]
      | cons x rest =>
        obtain ⟨hl, w, ws, hw, hne⟩ := ho
        rw [at_test R (drop_get hd).1 hl hw, decide_eq_false hne, thn_ok, if_neg (by decide)]
  | x :: xs, vs, acc, rest, i, G, h, hd, ho, R, hm, hz => by
    cases vs with
    | nil => exact h.elim
    | cons v vs =>
      obtain ⟨⟨hl, ⟨ws, hw⟩, hF, hv⟩, h⟩ := h
      obtain ⟨hx, hd'⟩ := drop_get hd
      have b1 : t_RowReader_all_told_1 [some (.ref n), some (.str word), some (.cl k), some (.ref m)] G = .nx [some (.ref n), some (.str word), some (.cl k), some (.ref m)] ((G.set n (rdO rows (i + 1))).set m (.lst (acc ++ [v]))) := by
        unfold t_RowReader_all_told_1
        have e1 : gMeth 0 (Str.ofString "next_read") 2 f_RowReader_next_read (gVar 0) (gCons (gVar 2) gNil) [some (.ref n), some (.str word), some (.cl k), some (.ref m)] G = .ok v (G.set n (rdO rows (i + 1))) := by
          refine meth (us := [.cl k]) R (vr rfl) (by decide +kernel) ?_ rfl (next_ok R hx hl ht (hF G) hv)
          rw [gCons_ev, vr rfl, bind_ok, gNil_ev, bind_ok]
        have hm2 : (G.set n (rdO rows (i + 1))).at_ m = some (.lst acc) := by rw [set_ne hmn]; exact hm
        rw [gDrop_ev]
        unfold gMt
        rw [vr (w := .ref m) rfl, bind_ok, if_pos (isTy_at hm), gCons_ev, e1, bind_ok, gNil_ev, bind_ok, bind_ok, mAppend_at hm2 (by simp at hz; omega), thn_ok]
      obtain ⟨G', e, R', hm', hn', hk'⟩ := told_while ht hmn xs vs (acc ++ [v]) rest (i + 1) ((G.set n (rdO rows (i + 1))).set m (.lst (acc ++ [v]))) h hd' ho (Rd.set (show Rd (G.set n (rdO rows (i + 1))) n rows (i + 1) from set_same) (Ne.symm hmn) _) set_same (by simp at hz ⊢; omega)
      refine ⟨G', ?_, by rw [List.length_cons, Nat.add_comm xs.length 1, ← Nat.add_assoc]; exact R', by rw [hm', List.append_assoc]; rfl, by rw [hn']; rfl, fun j a b => by rw [hk' j a b, set_ne b, set_ne a]⟩
      rw [gWhile_eq, at_test R hx hl hw, decide_eq_true rfl, thn_ok, if_pos rfl, b1]
      exact e
theorem all_told_ok {n i k : Nat} {rows xs rest : List Str} {vs : List W} {word : Str} {F : FC} (ht : tbl_1 k = some F) (h : RsL word F xs vs) (hd : rows.drop i = xs ++ rest) (ho : Oth word rest) (R : Rd G n rows i) (hn : n < G.n) (hz : xs.length ≤ 100000) :
    ∃ G', f_RowReader_all_told [.ref n, .str word, .cl k] G = .ok (.tup vs) G' ∧ Rd G' n rows (i + xs.length) ∧ Kp n G G' := by
  obtain ⟨G', e, R', hm, hN, hk⟩ := told_while (n := n) (m := G.n) (rows := rows) ht (by omega) xs vs [] rest i (G.push (.lst [])) h hd ho (R.push hn _) push_same (by simpa using hz)
  refine ⟨G', ?_, R', by rw [hN]; exact Nat.le_succ _, fun j hj hj2 => by rw [hk j hj2 (by omega), push_ne (by omega)]⟩
  rw [e_RowReader_all_told]
  unfold b_RowReader_all_told t_RowReader_all_told_4
  rw [asg_nx (w := .ref G.n) (G1 := G.push (.lst [])) newL]
  unfold t_RowReader_all_told_3
  rw [gSeq_ev]
  show ((gWhile Tw t_RowReader_all_told_1 [some (.ref n), some (.str word), some (.cl k), some (.ref G.n)] _).seq _).fin.calm = _
  rw [e, seq_nx]
  unfold t_RowReader_all_told_2
  rw [gRet_ev, gCall_ev, gCons_ev, vr (w := .ref G.n) rfl, bind_ok, gNil_ev, bind_ok, bind_ok, cTuple_at hm]
  rfl
end
end Lw

set_option Elab.async false
set_option linter.all false
set_option maxRecDepth 100000
namespace Lw
open PySem PySem.Spec PyProof.Rows L2 Fn
/-! ### papers -/
inductive Tl where
  | num (a : Int) | len (a b : Int) | spot (a b c : Int)
def Tl.word : Tl → Str
  | .num _ => Str.ofString "num"
  | .len _ _ => Str.ofString "len"
  | .spot _ _ _ => Str.ofString "spot"
def Tl.ns : Tl → List Int
  | .num a => [a]
  | .len a b => [a, b]
  | .spot a b c => [a, b, c]
def Tl.w (t : Tl) : W := .tup (.str t.word :: t.ns.map .int)
structure Pr where
  stack : List (Int × Int)
  place : Int
  fs : List ((Int × Int) × Tl)
  ss : List (Int × Tl)
def fW (f : (Int × Int) × Tl) : W := .tup [.tup [.int f.1.1, .int f.1.2], f.2.w]
def sW (s : Int × Tl) : W := .tup [.int s.1, s.2.w]
def twoW (s : Int × Int) : W := .tup [.int s.1, .int s.2]
def Pr.w (p : Pr) : W := .tup [.tup (p.stack.map twoW), .int p.place, .tup (p.fs.map fW), .tup (p.ss.map sW)]
structure Un where
  goes : List Int
  pairs : List Pr
def Un.w (u : Un) : W := .tup [.tup (u.goes.map .int), .tup (u.pairs.map Pr.w)]
def papW (us : List Un) : W := .tup (us.map Un.w)
/-! ### what is right -/
def Nn (n : Int) : Prop := n.natAbs < 10 ^ 12
def Tl.ok (t : Tl) : Prop := ∀ n ∈ t.ns, Nn n
structure Pr.ok (p : Pr) : Prop where
  s : p.stack.length = 1 ∨ p.stack.length = 2
  sn : ∀ s ∈ p.stack, Nn s.1 ∧ Nn s.2
  pl : Nn p.place
  f : ∀ f ∈ p.fs, Nn f.1.1 ∧ Nn f.1.2 ∧ f.2.ok
  g : ∀ s ∈ p.ss, Nn s.1 ∧ s.2.ok
  fl : p.fs.length ≤ 10
  gl : p.ss.length ≤ 10
structure Un.ok (u : Un) : Prop where
  g : ∀ n ∈ u.goes, Nn n
  gl : u.goes.length ≤ 10
  p : ∀ p ∈ u.pairs, p.ok
  p1 : 1 ≤ u.pairs.length
  p2 : u.pairs.length ≤ 100
def PapOk (us : List Un) : Prop := (∀ u ∈ us, u.ok) ∧ us.length ≤ 10
/-! ### their texts -/
abbrev spc : Str := Str.ofString " "
abbrev eol : Str := Str.ofString "\n"
def rowT (ws : List Str) : Str := Txt.join spc ws
def Tl.words (t : Tl) : List Str := t.word :: t.ns.map numT
def fWords (f : (Int × Int) × Tl) : List Str := Str.ofString "first" :: numT f.1.1 :: numT f.1.2 :: f.2.words
def sWords (s : Int × Tl) : List Str := Str.ofString "second" :: numT s.1 :: s.2.words
def flatS : List (Int × Int) → List Int
  | [] => []
  | s :: l => s.1 :: s.2 :: flatS l
def Pr.words (p : Pr) : List Str := Str.ofString "pair" :: ((flatS p.stack).map numT ++ [Str.ofString "at", numT p.place])
def Un.words (u : Un) : List Str := Str.ofString "unit" :: numT (u.pairs.length : Int) :: u.goes.map numT
def Pr.rows (p : Pr) : List Str := rowT p.words :: (p.fs.map (fun f => rowT (fWords f)) ++ p.ss.map fun s => rowT (sWords s))
def Un.rows (u : Un) : List Str := rowT u.words :: u.pairs.flatMap Pr.rows
def papRows (us : List Un) : List Str := us.flatMap Un.rows
def papT (us : List Un) : Str := Txt.join eol (papRows us)
/-! ### words -/
/-- a short word without blanks and ends -/
def Sw (x : Str) : Prop := x.length ≤ 13 ∧ 32 ∉ TL.tl x ∧ 10 ∉ TL.tl x
theorem sw_num {n : Int} (h : Nn n) : Sw (numT n) := ⟨num_len h, num_free (by omega), num_free (by omega)⟩
theorem sw_lit {a : String} (h : ((a.toList.map Char.toNat).all fun c => c != 32 && c != 10) = true) (hl : a.toList.length ≤ 13) : Sw (Str.ofString a) := by
  rw [List.all_eq_true] at h
  refine ⟨by rw [TL.len_tl, TL.tl_ofString, List.length_map]; exact hl, fun m => ?_, fun m => ?_⟩
  · rw [TL.tl_ofString] at m
    have := h _ m
    simp at this
  · rw [TL.tl_ofString] at m
    have := h _ m
    simp at this
def SwL (ws : List Str) : Prop := ws ≠ [] ∧ (∀ x ∈ ws, Sw x) ∧ ws.length ≤ 20
theorem joinL_len (S : List Nat) (k : Nat) : ∀ ps : List (List Nat), (∀ p ∈ ps, p.length ≤ k) → (TL.joinL S ps).length ≤ ps.length * (k + S.length)
  | [], _ => Nat.zero_le _
  | [p], h => by
    have := h p (List.mem_singleton.mpr rfl)
    show p.length ≤ 1 * _
    omega
  | p :: q :: r, h => by
    have a := h p (List.mem_cons_self)
    have b := joinL_len S k (q :: r) fun x m => h x (List.mem_cons_of_mem _ m)
    show (p ++ (S ++ TL.joinL S (q :: r))).length ≤ _
    rw [List.length_append, List.length_append, List.length_cons, Nat.add_mul]
    omega
theorem joinL_free {s : Nat} (S : List Nat) (hS : s ∉ S) : ∀ ps : List (List Nat), (∀ p ∈ ps, s ∉ p) → s ∉ TL.joinL S ps
  | [], _ => by simp [TL.joinL]
  | [p], h => h p (List.mem_singleton.mpr rfl)
  | p :: q :: r, h => by
    have b := joinL_free S hS (q :: r) fun x m => h x (List.mem_cons_of_mem _ m)
    show s ∉ p ++ (S ++ TL.joinL S (q :: r))
    intro m
    rcases List.mem_append.mp m with m | m
    · exact h p (List.mem_cons_self) m
    · rcases List.mem_append.mp m with m | m
      · exact hS m
      · exact b m
theorem tl_spc : TL.tl spc = [32] := by decide +kernel
theorem tl_eol : TL.tl eol = [10] := by decide +kernel
theorem row_tl (ws : List Str) : TL.tl (rowT ws) = TL.joinL [32] (ws.map TL.tl) := by
  unfold rowT
  rw [TL.join_eq, TL.tl_join, tl_spc]
theorem row_len {ws : List Str} (h : SwL ws) : (rowT ws).length ≤ 300 := by
  rw [TL.len_tl, row_tl]
  have := joinL_len [32] 13 (ws.map TL.tl) fun p m => by
    obtain ⟨x, mx, rfl⟩ := List.mem_map.mp m
    rw [← TL.len_tl]
    exact (h.2.1 x mx).1
  rw [List.length_map] at this
  have := h.2.2
  simp at *
  omega
theorem row_words {ws : List Str} (h : SwL ws) : wordsR (rowT ws) = ws := TL.split_join tl_spc (by decide +kernel) h.1 fun p m => (h.2.1 p m).2.1
theorem row_free {ws : List Str} (h : SwL ws) : 10 ∉ TL.tl (rowT ws) := by
  rw [row_tl]
  refine joinL_free [32] (by decide) _ fun p m => ?_
  obtain ⟨x, mx, rfl⟩ := List.mem_map.mp m
  exact (h.2.1 x mx).2.2
theorem swl_wd {ws : List Str} (h : SwL ws) : Wd ws := ⟨fun x m => Nat.le_trans (h.2.1 x m).1 (by decide), Nat.le_trans h.2.2 (by decide)⟩
theorem sw_nums {ns : List Int} (h : ∀ n ∈ ns, Nn n) : ∀ x ∈ ns.map numT, Sw x := fun x m => by
  obtain ⟨n, mn, rfl⟩ := List.mem_map.mp m
  exact sw_num (h n mn)
theorem tl_sw {t : Tl} (h : t.ok) : ∀ x ∈ t.words, Sw x := fun x m => by
  rcases List.mem_cons.mp m with e | m
  · rw [e]
    cases t with
    | num _ => exact sw_lit (by decide +kernel) (by decide +kernel)
    | len _ _ => exact sw_lit (by decide +kernel) (by decide +kernel)
    | spot _ _ _ => exact sw_lit (by decide +kernel) (by decide +kernel)
  · exact sw_nums h x m
theorem tl_len (t : Tl) : t.words.length ≤ 4 := by cases t <;> simp [Tl.words, Tl.ns]
theorem f_sw {f : (Int × Int) × Tl} (h : Nn f.1.1 ∧ Nn f.1.2 ∧ f.2.ok) : SwL (fWords f) := by
  refine ⟨by simp [fWords], fun x m => ?_, by have := tl_len f.2; simp [fWords]; omega⟩
  rcases List.mem_cons.mp m with e | m
  · rw [e]; exact sw_lit (by decide +kernel) (by decide +kernel)
  · rcases List.mem_cons.mp m with e | m
    · rw [e]; exact sw_num h.1
    · rcases List.mem_cons.mp m with e | m
      · rw [e]; exact sw_num h.2.1
      · exact tl_sw h.2.2 x m
theorem s_sw {s : Int × Tl} (h : Nn s.1 ∧ s.2.ok) : SwL (sWords s) := by
  refine ⟨by simp [sWords], fun x m => ?_, by have := tl_len s.2; simp [sWords]; omega⟩
  rcases List.mem_cons.mp m with e | m
  · rw [e]; exact sw_lit (by decide +kernel) (by decide +kernel)
  · rcases List.mem_cons.mp m with e | m
    · rw [e]; exact sw_num h.1
    · exact tl_sw h.2 x m
theorem flatS_len : ∀ l : List (Int × Int), (flatS l).length = 2 * l.length
  | [] => rfl
  | s :: l => by simp [flatS, flatS_len l]; omega
theorem flatS_all {P : Int → Prop} : ∀ {l : List (Int × Int)}, (∀ s ∈ l, P s.1 ∧ P s.2) → ∀ n ∈ flatS l, P n
  | [], _, n, m => by simp [flatS] at m
  | s :: l, h, n, m => by
    have hs := h s (List.mem_cons_self)
    rcases List.mem_cons.mp m with e | m
    · rw [e]; exact hs.1
    · rcases List.mem_cons.mp m with e | m
      · rw [e]; exact hs.2
      · exact flatS_all (fun x k => h x (List.mem_cons_of_mem _ k)) n m
theorem p_sw {p : Pr} (h : p.ok) : SwL p.words := by
  refine ⟨by simp [Pr.words], fun x m => ?_, by have := flatS_len p.stack; have := h.s; simp [Pr.words]; omega⟩
  rcases List.mem_cons.mp m with e | m
  · rw [e]; exact sw_lit (by decide +kernel) (by decide +kernel)
  · rcases List.mem_append.mp m with m | m
    · exact sw_nums (flatS_all h.sn) x m
    · rcases List.mem_cons.mp m with e | m
      · rw [e]; exact sw_lit (by decide +kernel) (by decide +kernel)
      · rw [List.mem_singleton.mp m]; exact sw_num h.pl
theorem nn_small {n : Nat} (h : n ≤ 1000) : Nn (n : Int) := by unfold Nn; omega
theorem u_sw {u : Un} (h : u.ok) : SwL u.words := by
  refine ⟨by simp [Un.words], fun x m => ?_, by have := h.gl; simp [Un.words]; omega⟩
  rcases List.mem_cons.mp m with e | m
  · rw [e]; exact sw_lit (by decide +kernel) (by decide +kernel)
  · rcases List.mem_cons.mp m with e | m
    · rw [e]; exact sw_num (nn_small (by have := h.p2; omega))
    · exact sw_nums h.g x m
/-! ### each row is read -/
theorem tRow_ok {t : Tl} (h : t.ok) : tRow t.words = some t.w := by
  unfold Tl.words
  rw [tRow_cons, if_pos, readIs_num h]
  · rfl
  · cases t <;> (simp only [Tl.word, Tl.ns]; unfold sizeT; simp)
theorem fRow_ok {f : (Int × Int) × Tl} (h : Nn f.1.1 ∧ Nn f.1.2 ∧ f.2.ok) : fRow (fWords f) = some (fW f) := by
  have e : readIs [numT f.1.1, numT f.1.2] = some [f.1.1, f.1.2] := readIs_num (ns := [f.1.1, f.1.2]) fun n m => by
    simp at m
    rcases m with e | e
    · rw [e]; exact h.1
    · rw [e]; exact h.2.1
  unfold fRow
  show (match readIs [numT f.1.1, numT f.1.2], tRow f.2.words with | some ns, some t => some (W.tup [.tup (ns.map .int), t]) | _, _ => none) = _
  rw [e, tRow_ok h.2.2]
  rfl
theorem sRow_ok {s : Int × Tl} (h : Nn s.1 ∧ s.2.ok) : sRow (sWords s) = some (sW s) := by
  have e : readIs [numT s.1] = some [s.1] := readIs_num (ns := [s.1]) fun n m => by
    rw [List.mem_singleton.mp m]; exact h.1
  unfold sRow
  show (match readIs [numT s.1], tRow s.2.words with | some ns, some t => some (W.tup (ns.map W.int ++ [t])) | _, _ => none) = _
  rw [e, tRow_ok h.2]
  rfl
theorem uRow_ok {u : Un} (h : u.ok) : uRow u.words = some (.tup [.int (u.pairs.length : Int), .tup (u.goes.map .int)]) := by
  unfold uRow Un.words
  rw [if_pos (by rfl), List.tail_cons]
  have e : readIs (numT (u.pairs.length : Int) :: u.goes.map numT) = some ((u.pairs.length : Int) :: u.goes) := readIs_num (ns := (u.pairs.length : Int) :: u.goes) fun n m => by
    rcases List.mem_cons.mp m with e | m
    · rw [e]; exact nn_small (by have := h.p2; omega)
    · exact h.g n m
  rw [e]
  simp only
  rw [if_neg (by have := h.p1; omega)]
theorem pRow_ok {p : Pr} (h : p.ok) : pRow p.words = some (.tup [.tup (p.stack.map twoW), .int p.place]) := by
  obtain ⟨st, pl, fs, ss⟩ := p
  have hs := h.s
  have hn := h.sn
  have hp := h.pl
  simp only at hs hn hp
  match st, hs with
  | [(a, b)], _ =>
    have e : readIs [numT a, numT b, numT pl] = some [a, b, pl] := readIs_num (ns := [a, b, pl]) fun n m => by
      have := hn (a, b) (List.mem_cons_self)
      simp at m
      rcases m with e | e | e
      · rw [e]; exact this.1
      · rw [e]; exact this.2
      · rw [e]; exact hp
    have e0 : (match readIs [numT a, numT b, numT pl] with | some [x, y, z] => some (W.tup [.tup [.tup [.int x, .int y]], .int z]) | _ => none) = some (W.tup [.tup ([(a, b)].map twoW), .int pl]) := by rw [e]; rfl
    show (if Str.ofString "pair" = Str.ofString "pair" ∧ Str.ofString "at" = Str.ofString "at" then (match readIs [numT a, numT b, numT pl] with | some [x, y, z] => some (W.tup [.tup [.tup [.int x, .int y]], .int z]) | _ => none) else none) = _
    rw [if_pos ⟨rfl, rfl⟩, e0]
  | [(a, b), (c, d)], _ =>
    have e : readIs [numT a, numT b, numT c, numT d, numT pl] = some [a, b, c, d, pl] := readIs_num (ns := [a, b, c, d, pl]) fun n m => by
      have h1 := hn (a, b) (List.mem_cons_self)
      have h2 := hn (c, d) (by simp)
      simp at m
      rcases m with e | e | e | e | e
      · rw [e]; exact h1.1
      · rw [e]; exact h1.2
      · rw [e]; exact h2.1
      · rw [e]; exact h2.2
      · rw [e]; exact hp
    have e0 : (match readIs [numT a, numT b, numT c, numT d, numT pl] with | some [x, y, u, v, z] => some (W.tup [.tup [.tup [.int x, .int y], .tup [.int u, .int v]], .int z]) | _ => none) = some (W.tup [.tup ([(a, b), (c, d)].map twoW), .int pl]) := by rw [e]; rfl
    show (if Str.ofString "pair" = Str.ofString "pair" ∧ Str.ofString "at" = Str.ofString "at" then (match readIs [numT a, numT b, numT c, numT d, numT pl] with | some [x, y, u, v, z] => some (W.tup [.tup [.tup [.int x, .int y], .tup [.int u, .int v]], .int z]) | _ => none) else none) = _
    rw [if_pos ⟨rfl, rfl⟩, e0]
end Lw

set_option Elab.async false
set_option linter.all false
set_option maxRecDepth 100000
namespace Lw
open PySem PySem.Spec PyProof.Rows L2 Fn
section
variable {G : GH}
/-! ### read_pair, read_unit -/
/-- what begins a pair or a unit, or nothing -/
def Beg : List Str → Prop
  | [] => True
  | x :: _ => x.length ≤ 100000 ∧ ∃ w ws, wordsR x = w :: ws ∧ (w = Str.ofString "pair" ∨ w = Str.ofString "unit")
theorem Beg.oth {word : Str} (h1 : Str.ofString "pair" ≠ word) (h2 : Str.ofString "unit" ≠ word) {l : List Str} (h : Beg l) : Oth word l := by
  cases l with
  | nil => trivial
  | cons x l =>
    obtain ⟨a, w, ws, b, c⟩ := h
    refine ⟨a, w, ws, b, ?_⟩
    rcases c with rfl | rfl
    · exact h1
    · exact h2
theorem f_rs {f : (Int × Int) × Tl} (h : Nn f.1.1 ∧ Nn f.1.2 ∧ f.2.ok) : Rs (Str.ofString "first") f_read_first_row (rowT (fWords f)) (fW f) := by
  have hs := f_sw h
  refine ⟨Nat.le_trans (row_len hs) (by decide), ⟨_, row_words hs⟩, fun G => ?_, rfl⟩
  rw [row_words hs, read_first_row_ok (swl_wd hs), fRow_ok h]
  rfl
theorem s_rs {s : Int × Tl} (h : Nn s.1 ∧ s.2.ok) : Rs (Str.ofString "second") f_read_second_row (rowT (sWords s)) (sW s) := by
  have hs := s_sw h
  refine ⟨Nat.le_trans (row_len hs) (by decide), ⟨_, row_words hs⟩, fun G => ?_, rfl⟩
  rw [row_words hs, read_second_row_ok (swl_wd hs), sRow_ok h]
  rfl
theorem rsL_map {α : Type} {word : Str} {F : FC} {r : α → Str} {v : α → W} : ∀ {l : List α}, (∀ a ∈ l, Rs word F (r a) (v a)) → RsL word F (l.map r) (l.map v)
  | [], _ => trivial
  | a :: l, h => ⟨h a (List.mem_cons_self), rsL_map fun b m => h b (List.mem_cons_of_mem _ m)⟩
theorem Kp.lt {n : Nat} {G G' : GH} (h : Kp n G G') (hn : n < G.n) : n < G'.n := Nat.lt_of_lt_of_le hn h.1
theorem drop_app {rows a b : List Str} {i : Nat} (h : rows.drop i = a ++ b) : rows.drop (i + a.length) = b := by
  rw [← List.drop_drop, h, List.drop_left]
theorem read_pair_ok {n i : Nat} {rows rest : List Str} {p : Pr} (hp : p.ok) (hd : rows.drop i = p.rows ++ rest) (hb : Beg rest) (R : Rd G n rows i) (hn : n < G.n) :
    ∃ G', f_RowReader_read_pair [.ref n] G = .ok p.w G' ∧ Rd G' n rows (i + p.rows.length) ∧ Kp n G G' := by
  have hw := p_sw hp
  have hd : rows.drop i = rowT p.words :: (p.fs.map (fun f => rowT (fWords f)) ++ (p.ss.map (fun s => rowT (sWords s)) ++ rest)) := by rw [hd]; simp [Pr.rows]
  obtain ⟨hx, hd1⟩ := drop_get hd
  -- the row of the pair
  have e1 := next_ok (k := 1) (F := f_read_pair_row) R hx (Nat.le_trans (row_len hw) (by decide)) rfl (by rw [row_words hw, read_pair_row_ok (swl_wd hw) hw.1, pRow_ok hp, oW]) rfl
  have R1 : Rd (G.set n (rdO rows (i + 1))) n rows (i + 1) := set_same
  -- the firsts
  have of : Oth (Str.ofString "first") (p.ss.map (fun s => rowT (sWords s)) ++ rest) := by
    cases es : p.ss with
    | nil => exact hb.oth (by decide +kernel) (by decide +kernel)
    | cons s ss =>
      have hs := s_sw (hp.g s (by rw [es]; simp))
      exact ⟨Nat.le_trans (row_len hs) (by decide), _, _, row_words hs, by decide +kernel⟩
  obtain ⟨G2, e2, R2, K2⟩ := all_told_ok (k := 2) (F := f_read_first_row) rfl (rsL_map fun f m => f_rs (hp.f f m)) hd1 of R1 hn (by have := hp.fl; simp; omega)
  have hd2 := drop_app hd1
  obtain ⟨G3, e3, R3, K3⟩ := all_told_ok (k := 3) (F := f_read_second_row) rfl (rsL_map fun s m => s_rs (hp.g s m)) hd2 (hb.oth (by decide +kernel) (by decide +kernel)) R2 (K2.lt hn) (by have := hp.gl; simp; omega)
  refine ⟨G3, ?_, ?_, ((Kp.self _).trans K2).trans K3⟩
  · rw [e_RowReader_read_pair]
    unfold b_RowReader_read_pair t_RowReader_read_pair_3
    have m1 : gMeth 0 (Str.ofString "next_read") 2 f_RowReader_next_read (gVar 0) (gCons (gC (.cl 1)) gNil) [some (.ref n), none, none, none] G = .ok (.tup [.tup (p.stack.map twoW), .int p.place]) (G.set n (rdO rows (i + 1))) :=
      meth (us := [.cl 1]) R (vr rfl) (by decide +kernel) rfl rfl e1
    rw [gSeq_ev, gAsg_ev, m1, thn_ok]
    show (RS.seq (RS.nx [some (.ref n), none, some (.tup (p.stack.map twoW)), some (.int p.place)] _) t_RowReader_read_pair_2).fin.calm = _
    rw [seq_nx]
    unfold t_RowReader_read_pair_2
    have m2 : gMeth 0 (Str.ofString "all_told") 3 f_RowReader_all_told (gVar 0) (gCons (gC (.str (Str.ofString "first"))) (gCons (gC (.cl 2)) gNil)) [some (.ref n), none, some (.tup (p.stack.map twoW)), some (.int p.place)] (G.set n (rdO rows (i + 1))) = .ok (.tup (p.fs.map fW)) G2 :=
      meth (us := [.str (Str.ofString "first"), .cl 2]) R1 (vr rfl) (by decide +kernel) rfl rfl e2
    rw [asg_nx m2]
    unfold t_RowReader_read_pair_1
    have m3 : gMeth 0 (Str.ofString "all_told") 3 f_RowReader_all_told (gVar 0) (gCons (gC (.str (Str.ofString "second"))) (gCons (gC (.cl 3)) gNil)) [some (.ref n), some (.tup (p.fs.map fW)), some (.tup (p.stack.map twoW)), some (.int p.place)] G2 = .ok (.tup (p.ss.map sW)) G3 :=
      meth (us := [.str (Str.ofString "second"), .cl 3]) R2 (vr rfl) (by decide +kernel) rfl rfl e3
    rw [gRet_ev, gTup_ev, gCons_ev, vr (w := .tup (p.stack.map twoW)) rfl, bind_ok, gCons_ev, vr (w := .int p.place) rfl, bind_ok, gCons_ev, vr (w := .tup (p.fs.map fW)) rfl, bind_ok, gCons_ev]
    show (((((((gMeth 0 (Str.ofString "all_told") 3 f_RowReader_all_told (gVar 0) (gCons (gC (.str (Str.ofString "second"))) (gCons (gC (.cl 3)) gNil)) [some (.ref n), some (.tup (p.fs.map fW)), some (.tup (p.stack.map twoW)), some (.int p.place)] G2).bind _).bind _).bind _).bind _).bind _).thn _ _).fin.calm = _
    rw [m3, bind_ok, gNil_ev, bind_ok, bind_ok, bind_ok, bind_ok, bind_ok]
    rw [if_pos (len_le' (by simp))]
    rfl
  · have : i + p.rows.length = i + 1 + (p.fs.map (fun f => rowT (fWords f))).length + (p.ss.map (fun s => rowT (sWords s))).length := by simp [Pr.rows]; omega
    rw [this]; exact R3
theorem cTuple_var {i m : Nat} {ρ : En} {us : List W} (hm : G.at_ m = some (.lst us)) (h : ρ[i]? = some (some (.ref m)) := by rfl) : gCall cTuple (gCons (gVar i) gNil) ρ G = .ok (.tup us) G := by
  rw [gCall_ev, gCons_ev, vr h, bind_ok, gNil_ev, bind_ok, bind_ok, cTuple_at hm]
theorem pairs_beg {rest : List Str} (hb : Beg rest) : ∀ {ps : List Pr}, (∀ p ∈ ps, p.ok) → Beg (ps.flatMap Pr.rows ++ rest)
  | [], _ => hb
  | p :: ps, h => by
    have hw := p_sw (h p (List.mem_cons_self))
    rw [List.flatMap_cons]
    exact ⟨Nat.le_trans (row_len hw) (by decide), _, _, row_words hw, .inl rfl⟩
theorem pairs_for {n m : Nat} {rows : List Str} (hmn : m ≠ n) : ∀ (ps : List Pr) (ws acc : List W) (rest : List Str) (i : Nat) (G : GH) (x c g : Option W), ws.length = ps.length → (∀ p ∈ ps, p.ok) → rows.drop i = ps.flatMap Pr.rows ++ rest → Beg rest → Rd G n rows i → G.at_ m = some (.lst acc) → m < G.n → n < G.n → acc.length + ps.length ≤ 1000 →
    ∃ G' y, forF (tgName 2) t_RowReader_read_unit_1 ws [some (.ref n), some (.ref m), x, c, g] G = .nx [some (.ref n), some (.ref m), y, c, g] G' ∧ Rd G' n rows (i + (ps.flatMap Pr.rows).length) ∧ G'.at_ m = some (.lst (acc ++ ps.map Pr.w)) ∧ G.n ≤ G'.n ∧ ∀ j, j < G.n → j ≠ n → j ≠ m → G'.at_ j = G.at_ j
  | [], ws, acc, rest, i, G, x, c, g, hl, _, hd, hb, R, hm, m1, n1, hz => by
    obtain rfl := List.length_eq_zero_iff.mp hl
    exact ⟨G, x, rfl, R, by rw [hm]; simp, Nat.le_refl _, fun _ _ _ _ => rfl⟩
  | p :: ps, ws, acc, rest, i, G, x, c, g, hl, hp, hd, hb, R, hm, m1, n1, hz => by
    cases ws with
    | nil => simp at hl
    | cons w ws =>
      have hb' := pairs_beg hb fun q k => hp q (List.mem_cons_of_mem _ k)
      rw [List.flatMap_cons, List.append_assoc] at hd
      obtain ⟨G1, e1, R1, K1⟩ := read_pair_ok (hp p (List.mem_cons_self)) hd hb' R n1
      have hm1 : G1.at_ m = some (.lst acc) := (K1.2 m m1 hmn).trans hm
      have b1 : t_RowReader_read_unit_1 [some (.ref n), some (.ref m), some w, c, g] G = .nx [some (.ref n), some (.ref m), some w, c, g] (G1.set m (.lst (acc ++ [p.w]))) := by
        unfold t_RowReader_read_unit_1
        have em : gMeth 0 (Str.ofString "read_pair") 1 f_RowReader_read_pair (gVar 0) gNil [some (.ref n), some (.ref m), some w, c, g] G = .ok p.w G1 := meth (us := []) R (vr rfl) (by decide +kernel) rfl rfl e1
        rw [gDrop_ev]
        unfold gMt
        rw [vr (w := .ref m) rfl, bind_ok, if_pos (isTy_at hm), gCons_ev, em, bind_ok, gNil_ev, bind_ok, bind_ok, mAppend_at hm1 (by simp at hz; omega), thn_ok]
      obtain ⟨G', y, e, R', hm', hN, hk⟩ := pairs_for hmn ps ws (acc ++ [p.w]) rest (i + p.rows.length) (G1.set m (.lst (acc ++ [p.w]))) (some w) c g (by simpa using hl) (fun q k => hp q (List.mem_cons_of_mem _ k)) (drop_app hd) hb (R1.set (Ne.symm hmn) _) set_same (Nat.lt_of_lt_of_le m1 K1.1) (K1.lt n1) (by simp at hz ⊢; omega)
      refine ⟨G', y, ?_, ?_, ?_, Nat.le_trans K1.1 hN, fun j a b d => ?_⟩
      · rw [forF_nx (tgName_ev 2) b1]
        exact e
      · have : i + ((p :: ps).flatMap Pr.rows).length = i + p.rows.length + (ps.flatMap Pr.rows).length := by rw [List.flatMap_cons, List.length_append]; omega
        rw [this]; exact R'
      · rw [hm', List.append_assoc]; rfl
      · rw [hk j (Nat.lt_of_lt_of_le a K1.1) b d, set_ne d]
        exact K1.2 j a b
theorem read_unit_ok {n i : Nat} {rows rest : List Str} {u : Un} (hu : u.ok) (hd : rows.drop i = u.rows ++ rest) (hb : Beg rest) (R : Rd G n rows i) (hn : n < G.n) :
    ∃ G', f_RowReader_read_unit [.ref n] G = .ok u.w G' ∧ Rd G' n rows (i + u.rows.length) ∧ Kp n G G' := by
  have hw := u_sw hu
  have hd : rows.drop i = rowT u.words :: (u.pairs.flatMap Pr.rows ++ rest) := by rw [hd]; simp [Un.rows]
  obtain ⟨hx, hd1⟩ := drop_get hd
  have e1 := next_ok (k := 4) (F := f_read_unit_row) R hx (Nat.le_trans (row_len hw) (by decide)) rfl (by rw [row_words hw, read_unit_row_ok (swl_wd hw) hw.1, uRow_ok hu, oW]) rfl
  have R1 : Rd (G.set n (rdO rows (i + 1))) n rows (i + 1) := set_same
  have p2 := hu.p2
  have hN : (G.set n (rdO rows (i + 1))).n = G.n := rfl
  obtain ⟨G2, y, e2, R2, hm2, N2, K2⟩ := pairs_for (n := n) (m := G.n) (by omega) u.pairs (rngW 0 u.pairs.length) [] rest (i + 1) ((G.set n (rdO rows (i + 1))).push (.lst [])) none (some (.int (u.pairs.length : Int))) (some (.tup (u.goes.map .int))) (by rw [rngW0]; simp) hu.p hd1 hb (R1.push (by rw [hN]; exact hn) _) push_same (by rw [push_n, hN]; omega) (by rw [push_n, hN]; omega) (by simp; omega)
  refine ⟨G2, ?_, ?_, Nat.le_trans (by rw [push_n, hN]; omega) N2, fun j a b => ?_⟩
  · rw [e_RowReader_read_unit]
    unfold b_RowReader_read_unit t_RowReader_read_unit_5
    have m1 : gMeth 0 (Str.ofString "next_read") 2 f_RowReader_next_read (gVar 0) (gCons (gC (.cl 4)) gNil) [some (.ref n), none, none, none, none] G = .ok (.tup [.int (u.pairs.length : Int), .tup (u.goes.map .int)]) (G.set n (rdO rows (i + 1))) :=
      meth (us := [.cl 4]) R (vr rfl) (by decide +kernel) rfl rfl e1
    rw [gSeq_ev, gAsg_ev, m1, thn_ok]
    show (RS.seq (RS.nx [some (.ref n), none, none, some (.int (u.pairs.length : Int)), some (.tup (u.goes.map .int))] _) t_RowReader_read_unit_4).fin.calm = _
    rw [seq_nx]
    unfold t_RowReader_read_unit_4
    rw [asg_nx newL]
    unfold t_RowReader_read_unit_3
    rw [gSeq_ev]
    have er : (gCons (gVar 3) gNil) [some (.ref n), some (.ref G.n), none, some (.int (u.pairs.length : Int)), some (.tup (u.goes.map .int))] ((G.set n (rdO rows (i + 1))).push (.lst [])) = .ok [.int (u.pairs.length : Int)] ((G.set n (rdO rows (i + 1))).push (.lst [])) := by
      rw [gCons_ev, vr rfl, bind_ok, gNil_ev, bind_ok]
    show ((gFor (iRng asRng1 (gCons (gVar 3) gNil)) (tgName 2) t_RowReader_read_unit_1 [some (.ref n), some (.ref G.n), none, some (.int (u.pairs.length : Int)), some (.tup (u.goes.map .int))] ((G.set n (rdO rows (i + 1))).push (.lst []))).seq _).fin.calm = _
    rw [for_rng er (rng_ok (by omega)), e2, seq_nx]
    unfold t_RowReader_read_unit_2
    rw [gRet_ev, tup2 (vr (w := .tup (u.goes.map .int)) rfl) (cTuple_var hm2), thn_ok]
    rfl
  · have : i + u.rows.length = i + 1 + (u.pairs.flatMap Pr.rows).length := by simp [Un.rows]; omega
    rw [this]; exact R2
  · rw [K2 j (by rw [push_n, hN]; omega) b (by omega), push_ne (by rw [hN]; omega), set_ne b]
end
end Lw

set_option Elab.async false
set_option linter.all false
set_option maxRecDepth 100000
namespace Lw
open PySem PySem.Spec PyProof.Rows L2 Fn
section
variable {G : GH}
/-! ### read_likeness -/
theorem pr_rows {p : Pr} (h : p.ok) : ∀ x ∈ p.rows, x.length ≤ 300 ∧ 10 ∉ TL.tl x := fun x m => by
  rcases List.mem_cons.mp m with e | m
  · rw [e]; exact ⟨row_len (p_sw h), row_free (p_sw h)⟩
  · rcases List.mem_append.mp m with m | m
    · obtain ⟨f, mf, rfl⟩ := List.mem_map.mp m
      exact ⟨row_len (f_sw (h.f f mf)), row_free (f_sw (h.f f mf))⟩
    · obtain ⟨s, ms, rfl⟩ := List.mem_map.mp m
      exact ⟨row_len (s_sw (h.g s ms)), row_free (s_sw (h.g s ms))⟩
theorem un_rows {u : Un} (h : u.ok) : ∀ x ∈ u.rows, x.length ≤ 300 ∧ 10 ∉ TL.tl x := fun x m => by
  rcases List.mem_cons.mp m with e | m
  · rw [e]; exact ⟨row_len (u_sw h), row_free (u_sw h)⟩
  · obtain ⟨p, mp, mx⟩ := List.mem_flatMap.mp m
    exact pr_rows (h.p p mp) x mx
theorem pap_rows {us : List Un} (h : PapOk us) : ∀ x ∈ papRows us, x.length ≤ 300 ∧ 10 ∉ TL.tl x := fun x m => by
  obtain ⟨u, mu, mx⟩ := List.mem_flatMap.mp m
  exact un_rows (h.1 u mu) x mx
theorem flat_len {α β : Type} {f : α → List β} {k : Nat} : ∀ {l : List α}, (∀ a ∈ l, (f a).length ≤ k) → (l.flatMap f).length ≤ l.length * k
  | [], _ => Nat.zero_le _
  | a :: l, h => by
    have h1 := h a (List.mem_cons_self)
    have h2 := flat_len fun b m => h b (List.mem_cons_of_mem _ m)
    rw [List.flatMap_cons, List.length_append, List.length_cons, Nat.add_mul]
    omega
theorem pr_len {p : Pr} (h : p.ok) : p.rows.length ≤ 21 := by
  have := h.fl; have := h.gl
  simp [Pr.rows]; omega
theorem un_len {u : Un} (h : u.ok) : u.rows.length ≤ 2101 := by
  have := flat_len (f := Pr.rows) (k := 21) fun p m => pr_len (h.p p m)
  have := h.p2
  simp only [Un.rows, List.length_cons]; omega
theorem pap_len {us : List Un} (h : PapOk us) : (papRows us).length ≤ 21010 := by
  have := flat_len (f := Un.rows) (k := 2101) fun u m => un_len (h.1 u m)
  have := h.2
  unfold papRows; omega
theorem papT_tl (us : List Un) : TL.tl (papT us) = TL.joinL [10] ((papRows us).map TL.tl) := by
  unfold papT
  rw [TL.join_eq, TL.tl_join, tl_eol]
theorem papT_len {us : List Un} (h : PapOk us) : (papT us).length ≤ 7000000 := by
  rw [TL.len_tl, papT_tl]
  have := joinL_len [10] 300 ((papRows us).map TL.tl) fun p m => by
    obtain ⟨x, mx, rfl⟩ := List.mem_map.mp m
    rw [← TL.len_tl]
    exact (pap_rows h x mx).1
  have := pap_len h
  rw [List.length_map] at *
  simp at *
  omega
theorem papT_split {us : List Un} (h : PapOk us) (hn : us ≠ []) : Txt.split (papT us) eol = papRows us := by
  refine TL.split_join tl_eol (by decide +kernel) ?_ fun p m => (pap_rows h p m).2
  cases us with
  | nil => exact absurd rfl hn
  | cons u us => simp [papRows, Un.rows]
theorem papT_ne {us : List Un} (h : PapOk us) (hn : us ≠ []) : papT us ≠ Str.ofString "" := fun e => by
  have hs := papT_split h hn
  rw [e, show Txt.split (Str.ofString "") eol = [Str.ofString ""] from by decide +kernel] at hs
  cases us with
  | nil => exact absurd rfl hn
  | cons u us =>
    have hw := u_sw (h.1 u (List.mem_cons_self))
    have : papRows (u :: us) = rowT u.words :: (u.pairs.flatMap Pr.rows ++ papRows us) := by simp [papRows, Un.rows]
    rw [this] at hs
    have h2 := row_words hw
    rw [← (List.cons.inj hs).1, show wordsR (Str.ofString "") = [Str.ofString ""] from by decide +kernel] at h2
    exact absurd (List.cons.inj h2).1 (by decide +kernel)
theorem units_beg : ∀ {us : List Un}, (∀ u ∈ us, u.ok) → Beg (papRows us)
  | [], _ => trivial
  | u :: us, h => by
    have hw := u_sw (h u (List.mem_cons_self))
    exact ⟨Nat.le_trans (row_len hw) (by decide), _, _, row_words hw, .inr rfl⟩
abbrev Tr : FT := gTest (gOp fLt (gFld 0 (Str.ofString "at") (gVar 1)) (gCall cLen (gCons (gFld 0 (Str.ofString "rows") (gVar 1)) gNil)))
theorem units_while {n m : Nat} {rows : List Str} {t : Option W} (hmn : m ≠ n) : ∀ (us : List Un) (acc : List W) (i : Nat) (G : GH), (∀ u ∈ us, u.ok) → rows.drop i = papRows us → Rd G n rows i → G.at_ m = some (.lst acc) → m < G.n → n < G.n → acc.length + us.length ≤ 1000 →
    ∃ G', gWhile Tr t_read_likeness_1 [t, some (.ref n), some (.ref m)] G = .nx [t, some (.ref n), some (.ref m)] G' ∧ G'.at_ m = some (.lst (acc ++ us.map Un.w)) ∧ G.n ≤ G'.n ∧ ∀ j, j < G.n → j ≠ n → j ≠ m → G'.at_ j = G.at_ j
  | [], acc, i, G, _, hd, R, hm, m1, n1, hz => by
    refine ⟨G, ?_, by rw [hm]; simp, Nat.le_refl _, fun _ _ _ _ => rfl⟩
    have hi : rows.length ≤ i := List.drop_eq_nil_iff.mp hd
    rw [gWhile_eq]
    have e : Tr [t, some (.ref n), some (.ref m)] G = .ok false G := tst (op2 (R.at_ rfl) (R.len rfl) (by rw [fLt_i, decide_eq_false (by omega)]))
    rw [e, thn_ok, if_neg (by decide)]
  | u :: us, acc, i, G, h, hd, R, hm, m1, n1, hz => by
    have hd : rows.drop i = u.rows ++ papRows us := by rw [hd]; rfl
    have hb := units_beg fun v k => h v (List.mem_cons_of_mem _ k)
    obtain ⟨G1, e1, R1, K1⟩ := read_unit_ok (h u (List.mem_cons_self)) hd hb R n1
    have hm1 : G1.at_ m = some (.lst acc) := (K1.2 m m1 hmn).trans hm
    have hi : i < rows.length := by
      have := congrArg List.length hd
      simp [Un.rows] at this; omega
    have b1 : t_read_likeness_1 [t, some (.ref n), some (.ref m)] G = .nx [t, some (.ref n), some (.ref m)] (G1.set m (.lst (acc ++ [u.w]))) := by
      unfold t_read_likeness_1
      have em : gMeth 0 (Str.ofString "read_unit") 1 f_RowReader_read_unit (gVar 1) gNil [t, some (.ref n), some (.ref m)] G = .ok u.w G1 := meth (us := []) R (vr rfl) (by decide +kernel) rfl rfl e1
      rw [gDrop_ev]
      unfold gMt
      rw [vr (w := .ref m) rfl, bind_ok, if_pos (isTy_at hm), gCons_ev, em, bind_ok, gNil_ev, bind_ok, bind_ok, mAppend_at hm1 (by simp at hz; omega), thn_ok]
    obtain ⟨G', e, hm', hN, hk⟩ := units_while hmn us (acc ++ [u.w]) (i + u.rows.length) (G1.set m (.lst (acc ++ [u.w]))) (fun v k => h v (List.mem_cons_of_mem _ k)) (drop_app hd) (R1.set (Ne.symm hmn) _) set_same (Nat.lt_of_lt_of_le m1 K1.1) (K1.lt n1) (by simp at hz ⊢; omega)
    refine ⟨G', ?_, by rw [hm', List.append_assoc]; rfl, Nat.le_trans K1.1 hN, fun j a b d => by rw [hk j (Nat.lt_of_lt_of_le a K1.1) b d, set_ne d]; exact K1.2 j a b⟩
    have e0 : Tr [t, some (.ref n), some (.ref m)] G = .ok true G := tst (op2 (R.at_ rfl) (R.len rfl) (by rw [fLt_i, decide_eq_true (by omega)]))
    rw [gWhile_eq, e0, thn_ok, if_pos rfl, b1]
    exact e
theorem split_eol {g : FE} {ρ : En} {x : Str} (e : g ρ G = .ok (.str x) G) (hl : x.length ≤ 7000000) : gMt "str" (mSplit false) g (gCons (gC (.str (Str.ofString "\n"))) gNil) ρ G = .ok (.lst ((Txt.split x eol).map .str)) G := by
  unfold gMt
  rw [e, bind_ok, if_pos (by rfl), gCons_ev, gC_ev, bind_ok, gNil_ev, bind_ok, bind_ok]
  unfold mSplit
  simp only
  rw [if_pos ⟨by decide +kernel, by rw [sizeLine_eq]; omega⟩, mkL_false]
theorem read_likeness_ok {us : List Un} (h : PapOk us) : ∃ G', f_read_likeness [.str (papT us)] G = .ok (papW us) G' ∧ Grow G G' := by
  rw [e_read_likeness]
  unfold b_read_likeness t_read_likeness_6
  have x0 : gVar 0 [some (.str (papT us)), none, none] G = .ok (.str (papT us)) G := vr rfl
  by_cases hn : us = []
  · subst hn
    refine ⟨G, ?_, Grow.refl G⟩
    rw [seq_if_t (G1 := G) (tst (op2 x0 gC_ev (by rw [fEq_s, decide_eq_true (by decide +kernel)]))), gRet_ev, gTup_ev, gNil_ev, bind_ok, if_pos (len_le' (by simp)), thn_ok, seq_rt]
    rfl
  · rw [seq_if_f (G1 := G) (tst (op2 x0 gC_ev (by rw [fEq_s, decide_eq_false (papT_ne h hn)]))), gNext_ev, seq_nx]
    unfold t_read_likeness_5
    have em : gMake 0 2 f_RowReader___init__ (gCons (gMt "str" (mSplit false) (gVar 0) (gCons (gC (.str (Str.ofString "\n"))) gNil)) gNil) [some (.str (papT us)), none, none] G = .ok (.ref G.n) ((G.push (.ins 0 [] [])).set G.n (rdO (papRows us) 0)) := by
      unfold gMake
      rw [gCons_ev, split_eol x0 (papT_len h), bind_ok, gNil_ev, bind_ok, bind_ok, papT_split h hn, cFn_ev (n := 2) rfl, init_ok (rows := papRows us) push_same, calm_ok, bind_ok]
    rw [asg_nx em]
    unfold t_read_likeness_4
    rw [asg_nx newL]
    unfold t_read_likeness_3
    have hN : ((G.push (.ins 0 [] [])).set G.n (rdO (papRows us) 0)).n = G.n + 1 := rfl
    obtain ⟨G', e, hm, hG, hk⟩ := units_while (n := G.n) (m := G.n + 1) (rows := papRows us) (t := some (.str (papT us))) (by omega) us [] 0 (((G.push (.ins 0 [] [])).set G.n (rdO (papRows us) 0)).push (.lst [])) h.1 rfl ((show Rd ((G.push (.ins 0 [] [])).set G.n (rdO (papRows us) 0)) G.n (papRows us) 0 from set_same).push (by rw [hN]; omega) _) push_same (by rw [push_n, hN]; omega) (by rw [push_n, hN]; omega) (by have := h.2; simp; omega)
    refine ⟨G', ?_, ⟨by rw [push_n, hN] at hG; omega, fun j hj => ?_⟩⟩
    · rw [gSeq_ev]
      show ((gWhile Tr t_read_likeness_1 [some (.str (papT us)), some (.ref G.n), some (.ref (G.n + 1))] (((G.push (.ins 0 [] [])).set G.n (rdO (papRows us) 0)).push (.lst []))).seq _).fin.calm = _
      rw [e, seq_nx]
      unfold t_read_likeness_2
      rw [gRet_ev, cTuple_var hm, thn_ok]
      rfl
    · rw [hk j (by rw [push_n, hN]; omega) (by omega) (by omega), push_ne (by rw [hN]; omega), set_ne (by omega), push_ne (by omega)]
end
end Lw

set_option Elab.async false
set_option linter.all false
set_option maxRecDepth 100000
namespace Lw
open PySem PySem.Spec PyProof.Rows L2 Fn
section
variable {G : GH}
/-! ### the texts are written -/
theorem sum_le {α : Type} {f : α → Nat} {k : Nat} : ∀ {l : List α}, (∀ a ∈ l, f a ≤ k) → (l.map f).sum ≤ l.length * k
  | [], _ => Nat.zero_le _
  | a :: l, h => by
    have h1 := h a (List.mem_cons_self)
    have h2 := sum_le fun b m => h b (List.mem_cons_of_mem _ m)
    rw [List.map_cons, List.sum_cons, List.length_cons, Nat.add_mul]
    omega
theorem mJoin_s {a : Str} {w : W} {ys : List Str} (e : sqs G w = some (ys.map .str)) (h : (ys.map (·.length)).sum + ys.length * a.length ≤ 16777216) : mJoin (.str a) [w] G = .ok (.str (Txt.join a ys)) G := by
  unfold mJoin
  simp only [e, strsOf_map]
  rw [if_pos h]
theorem sqs_lst (ws : List W) : sqs G (.lst ws) = some ws := rfl
theorem sqs_at {n : Nat} {ws : List W} (h : G.at_ n = some (.lst ws)) : sqs G (.ref n) = some ws := by
  show lsq G (.ref n) = _
  unfold lsq
  simp only [h]
theorem join_row {g : FE} {ρ : En} {ys : List Str} (e : g ρ G = .ok (.lst (ys.map .str)) G) (h : SwL ys) : gMt "str" mJoin (gC (.str (Str.ofString " "))) (gCons g gNil) ρ G = .ok (.str (rowT ys)) G := by
  unfold gMt
  rw [gC_ev, bind_ok, if_pos (by rfl), gCons_ev, e, bind_ok, gNil_ev, bind_ok, bind_ok]
  refine mJoin_s (sqs_lst _) ?_
  have h1 := sum_le (l := ys) (f := (·.length)) (k := 13) fun x m => (h.2.1 x m).1
  have h2 := h.2.2
  have h3 : (Str.ofString " ").length = 1 := by decide +kernel
  rw [h3]
  omega
theorem add_strs {u v : List Str} (h : u.length + v.length ≤ 1000) : fAddL false (.lst (u.map .str)) (.lst (v.map .str)) G = .ok (.lst ((u ++ v).map .str)) G := by
  show (if (u.map W.str).length + (v.map W.str).length ≤ sizeLine then R.ok (W.lst (u.map W.str ++ v.map W.str)) G else .no) = _
  rw [if_pos (by rw [List.length_map, List.length_map, sizeLine_eq]; omega), List.map_append]
theorem cStr_s (x : Str) : cStrX [.str x] G = .ok (.str x) G := rfl
theorem small_log {n : Int} (h : Nn n) : n.natAbs.log2 < 1920 := by
  have : n.natAbs.log2 < 40 := by
    by_cases z : n.natAbs = 0
    · rw [z]; decide
    · exact (Nat.log2_lt z).mpr (Nat.lt_of_lt_of_le h (by decide))
  omega
theorem cStr_n {n : Int} (h : Nn n) : cStrX [.int n] G = .ok (.str (numT n)) G := by
  show (if n.natAbs.log2 < 1920 then R.ok (W.str (toString n)) G else .no) = _
  rw [if_pos (small_log h)]
/-- a part of a row and its text -/
def Pt (a : W × Str) : Prop := ∀ G, cStrX [a.1] G = .ok (.str a.2) G
theorem pt_n {n : Int} (h : Nn n) : Pt (.int n, numT n) := fun _ => cStr_n h
theorem pt_s (x : Str) : Pt (.str x, x) := fun _ => rfl
theorem strs_lc {i j : Nat} {ρ : En} {l : List (W × Str)} {P : W} (x : ρ[i]? = some (some P)) (hs : asSeq P G = .ok (.vals (l.map (·.1))) G) (h : ∀ a ∈ l, Pt a) (hj : j < ρ.length) (hl : l.length ≤ 1000) : gLc false (iSeq (gVar i)) (tgName j) gYes (gCall cStrX (gCons (gVar j) gNil)) [j] ρ G = .ok (.lst ((l.map (·.2)).map .str)) G := by
  have lc := lc_on (G := G) (ρw := wipeW ρ [j]) (t := tgName j) (te := gCall cStrX (gCons (gVar j) gNil)) (fun a : W × Str => a.1) (fun a => W.str a.2) l fun a m => ⟨_, tgName_ev j, by
    rw [gCall_ev, gCons_ev, vr (w := a.1) (by rw [List.getElem?_set_self (by simpa [wipeW] using hj)]), bind_ok, gNil_ev, bind_ok, bind_ok]
    exact h a m G⟩
  rw [lcS (vr x) hs lc (by simpa using (by omega : l.length ≤ 1000000)), mkL_false, List.map_map]
  rfl
theorem joined_ok {w : Str} {l : List (W × Str)} {P : W} (hs : ∀ G, asSeq P G = .ok (.vals (l.map (·.1))) G) (h : ∀ a ∈ l, Pt a) (sw : SwL (w :: l.map (·.2))) : f_joined [.str w, P] G = .ok (.str (rowT (w :: l.map (·.2)))) G := by
  rw [e_joined]
  unfold b_joined t_joined_1
  have hl : l.length ≤ 20 := by have := sw.2.2; simp at this; omega
  have e1 : gLst false (gCons (gVar 0) gNil) [some (.str w), some P, none] G = .ok (.lst ([w].map .str)) G := by
    rw [gLst_ev, gCons_ev, vr (w := .str w) rfl, bind_ok, gNil_ev, bind_ok, bind_ok, if_pos (len_le' (by simp)), mkL_false]
    rfl
  rw [gRet_ev, join_row (ys := w :: l.map (·.2)) (op2 e1 (strs_lc (P := P) rfl (hs G) h (by simp) (by omega)) (add_strs (by simp; omega))) sw, thn_ok]
  rfl
theorem app_step {n i : Nat} {ρ : En} {us : List W} {w : W} {e : FE} (hm : G.at_ n = some (.lst us)) (x : ρ[i]? = some (some (.ref n))) (h : e ρ G = .ok w G) (hl : us.length < 1000000) : gDrop (gMt "list" mAppend (gVar i) (gCons e gNil)) ρ G = .nx ρ (G.set n (.lst (us ++ [w]))) := by
  rw [gDrop_ev]
  unfold gMt
  rw [vr x, bind_ok, if_pos (isTy_at hm), gCons_ev, h, bind_ok, gNil_ev, bind_ok, bind_ok, mAppend_at hm hl, thn_ok]
theorem call2 {f : FC} {g1 g2 : FE} {ρ : En} {w1 w2 v : W} {G1 G2 G3 : GH} (h1 : g1 ρ G = .ok w1 G1) (h2 : g2 ρ G1 = .ok w2 G2) (h3 : f [w1, w2] G2 = .ok v G3) : gCall (cFn 2 f) (gCons g1 (gCons g2 gNil)) ρ G = .ok v G3 := by
  rw [gCall_ev, gCons_ev, h1, bind_ok, gCons_ev, h2, bind_ok, gNil_ev, bind_ok, bind_ok, bind_ok, cFn_ev (n := 2) (ws := [w1, w2]) rfl, h3, calm_ok]
theorem frzE {m : Nat} {g : FE} {ρ : En} {us : List W} {G1 : GH} (h : g ρ G = .ok (.ref m) G1) (hm : G1.at_ m = some (.lst us)) : gFrz g ρ G = .ok (.lst us) (G1.del m) := by
  rw [gFrz_ev, h, bind_ok, frz_at hm]
/-! ### pair_written -/
def tlP (t : Tl) : List (W × Str) := (.str t.word, t.word) :: t.ns.map fun n => (.int n, numT n)
theorem tlP_w (t : Tl) : t.w = .tup ((tlP t).map (·.1)) := by cases t <;> rfl
theorem tlP_s (t : Tl) : (tlP t).map (·.2) = t.words := by cases t <;> rfl
theorem tlP_pt {t : Tl} (h : t.ok) : ∀ a ∈ tlP t, Pt a := fun a m => by
  rcases List.mem_cons.mp m with e | m
  · rw [e]; exact pt_s _
  · obtain ⟨n, mn, rfl⟩ := List.mem_map.mp m
    exact pt_n (h n mn)
def fP (f : (Int × Int) × Tl) : List (W × Str) := (.int f.1.1, numT f.1.1) :: (.int f.1.2, numT f.1.2) :: tlP f.2
def sP (s : Int × Tl) : List (W × Str) := (.int s.1, numT s.1) :: tlP s.2
theorem fP_pt {f : (Int × Int) × Tl} (h : Nn f.1.1 ∧ Nn f.1.2 ∧ f.2.ok) : ∀ a ∈ fP f, Pt a := fun a m => by
  rcases List.mem_cons.mp m with e | m
  · rw [e]; exact pt_n h.1
  · rcases List.mem_cons.mp m with e | m
    · rw [e]; exact pt_n h.2.1
    · exact tlP_pt h.2.2 a m
theorem sP_pt {s : Int × Tl} (h : Nn s.1 ∧ s.2.ok) : ∀ a ∈ sP s, Pt a := fun a m => by
  rcases List.mem_cons.mp m with e | m
  · rw [e]; exact pt_n h.1
  · exact tlP_pt h.2 a m
def intsP (ns : List Int) : List (W × Str) := ns.map fun n => (.int n, numT n)
theorem intsP_w (ns : List Int) : (intsP ns).map (·.1) = ns.map .int := by unfold intsP; rw [List.map_map]; rfl
theorem intsP_s (ns : List Int) : (intsP ns).map (·.2) = ns.map numT := by unfold intsP; rw [List.map_map]; rfl
theorem intsP_pt {ns : List Int} (h : ∀ n ∈ ns, Nn n) : ∀ a ∈ intsP ns, Pt a := fun a m => by
  obtain ⟨n, mn, rfl⟩ := List.mem_map.mp m
  exact pt_n (h n mn)
/-- the walk over levels and their numbers -/
theorem flat_lc {ρ : En} (hρ : 10 < ρ.length) : ∀ l : List (Int × Int), lc2F (tgName 10) gYes (iSeq (gVar 10)) (tgName 9) gYes (gVar 9) [9] ρ (l.map twoW) G = .ok ((flatS l).map .int) G
  | [] => rfl
  | s :: l => by
    rw [List.map_cons, lc2F, tgName_ev]
    simp only
    show ((R.ok true G).bind _) = _
    rw [bind_ok, if_pos rfl, iSeq_ev, vr (w := twoW s) (by rw [List.getElem?_set_self (by omega)]), bind_ok]
    show ((asSeq (.tup [.int s.1, .int s.2]) G).bind _) = _
    rw [asSeq_t, bind_ok]
    simp only
    have e : lcF (tgName 9) gYes (gVar 9) (wipeW (ρ.set 10 (some (twoW s))) [9]) [.int s.1, .int s.2] G = .ok [.int s.1, .int s.2] G := by
      have := lc_on (G := G) (ρw := wipeW (ρ.set 10 (some (twoW s))) [9]) (t := tgName 9) (te := gVar 9) (fun a : W => a) (fun a => a) [.int s.1, .int s.2] fun a m => ⟨_, tgName_ev 9, vr (by rw [List.getElem?_set_self (by simp [wipeW]; omega)])⟩
      simpa using this
    rw [e, bind_ok, flat_lc hρ l, bind_ok]
    rfl
theorem op_tups {a b : FE} {ρ : En} {u v : List W} (h1 : a ρ G = .ok (.tup u) G) (h2 : b ρ G = .ok (.tup v) G) (hl : u.length + v.length ≤ 1000) : gOp (fAddL false) a b ρ G = .ok (.tup (u ++ v)) G := op2 h1 h2 (add_tup (by omega))
theorem firsts_for {n : Nat} (a b c d e f : Option W) (s t x : Option W) : ∀ (fs : List ((Int × Int) × Tl)) (us : List W) (G : GH) (y z : Option W), (∀ f ∈ fs, Nn f.1.1 ∧ Nn f.1.2 ∧ f.2.ok) → G.at_ n = some (.lst us) → us.length + fs.length ≤ 1000 →
    ∃ y' z', forF (tgTup 2 (tgCons (tgName 7) (tgCons (tgName 8) tgNil))) t_pair_written_1 (fs.map fW) [a, b, some (.ref n), c, d, e, f, y, z, s, t] G = .nx [a, b, some (.ref n), c, d, e, f, y', z', s, t] (G.set n (.lst (us ++ fs.map fun f => .str (rowT (fWords f)))))
  | [], us, G, y, z, _, hm, hl => ⟨y, z, by rw [List.map_nil, List.map_nil, List.append_nil, set_self hm]; rfl⟩
  | g :: fs, us, G, y, z, h, hm, hl => by
    have hg := h g (List.mem_cons_self)
    obtain ⟨y', z', ih⟩ := firsts_for a b c d e f s t x fs (us ++ [.str (rowT (fWords g))]) (G.set n (.lst (us ++ [.str (rowT (fWords g))]))) (some (.tup [.int g.1.1, .int g.1.2])) (some g.2.w) (fun q m => h q (List.mem_cons_of_mem _ m)) set_same (by simp at hl ⊢; omega)
    refine ⟨y', z', ?_⟩
    have b1 : t_pair_written_1 [a, b, some (.ref n), c, d, e, f, some (.tup [.int g.1.1, .int g.1.2]), some g.2.w, s, t] G = .nx [a, b, some (.ref n), c, d, e, f, some (.tup [.int g.1.1, .int g.1.2]), some g.2.w, s, t] (G.set n (.lst (us ++ [.str (rowT (fWords g))]))) := by
      unfold t_pair_written_1
      refine app_step hm rfl ?_ (by simp at hl; omega)
      have ej := joined_ok (G := G) (w := Str.ofString "first") (l := fP g) (P := .tup ((fP g).map (·.1))) (fun _ => rfl) (fP_pt hg) (by
        have := f_sw hg
        unfold fWords at this
        unfold fP
        rw [List.map_cons, List.map_cons, tlP_s]
        exact this)
      have et : gOp (fAddL false) (gVar 7) (gVar 8) [a, b, some (.ref n), c, d, e, f, some (.tup [.int g.1.1, .int g.1.2]), some g.2.w, s, t] G = .ok (.tup ((fP g).map (·.1))) G := by
        rw [op_tups (u := [.int g.1.1, .int g.1.2]) (v := (tlP g.2).map (·.1)) (vr rfl) (vr (by rw [← tlP_w]; rfl)) (by have := tl_len g.2; rw [← tlP_s] at this; simp at this ⊢; omega)]
        rfl
      rw [call2 (gC_ev) et ej]
      unfold fP fWords
      rw [List.map_cons, List.map_cons, tlP_s]
    rw [List.map_cons, forF_nx (ρ1 := [a, b, some (.ref n), c, d, e, f, some (.tup [.int g.1.1, .int g.1.2]), some g.2.w, s, t]) (G1 := G) rfl b1, ih, set_set, List.append_assoc]
    rfl
end
end Lw

set_option Elab.async false
set_option linter.all false
set_option maxRecDepth 100000
namespace Lw
open PySem PySem.Spec PyProof.Rows L2 Fn
section
variable {G : GH}
theorem seconds_for {n : Nat} (a b c d e f : Option W) (y t x : Option W) : ∀ (ss : List (Int × Tl)) (us : List W) (G : GH) (z s : Option W), (∀ s ∈ ss, Nn s.1 ∧ s.2.ok) → G.at_ n = some (.lst us) → us.length + ss.length ≤ 1000 →
    ∃ z' s', forF (tgTup 2 (tgCons (tgName 9) (tgCons (tgName 8) tgNil))) t_pair_written_2 (ss.map sW) [a, b, some (.ref n), c, d, e, f, y, z, s, t] G = .nx [a, b, some (.ref n), c, d, e, f, y, z', s', t] (G.set n (.lst (us ++ ss.map fun s => .str (rowT (sWords s)))))
  | [], us, G, z, s, _, hm, hl => ⟨z, s, by rw [List.map_nil, List.map_nil, List.append_nil, set_self hm]; rfl⟩
  | g :: ss, us, G, z, s, h, hm, hl => by
    have hg := h g (List.mem_cons_self)
    obtain ⟨z', s', ih⟩ := seconds_for a b c d e f y t x ss (us ++ [.str (rowT (sWords g))]) (G.set n (.lst (us ++ [.str (rowT (sWords g))]))) (some g.2.w) (some (.int g.1)) (fun q m => h q (List.mem_cons_of_mem _ m)) set_same (by simp at hl ⊢; omega)
    refine ⟨z', s', ?_⟩
    have b1 : t_pair_written_2 [a, b, some (.ref n), c, d, e, f, y, some g.2.w, some (.int g.1), t] G = .nx [a, b, some (.ref n), c, d, e, f, y, some g.2.w, some (.int g.1), t] (G.set n (.lst (us ++ [.str (rowT (sWords g))]))) := by
      unfold t_pair_written_2
      refine app_step hm rfl ?_ (by simp at hl; omega)
      have ej := joined_ok (G := G) (w := Str.ofString "second") (l := sP g) (P := .tup ((sP g).map (·.1))) (fun _ => rfl) (sP_pt hg) (by
        have := s_sw hg
        unfold sWords at this
        unfold sP
        rw [List.map_cons, tlP_s]
        exact this)
      have et : gOp (fAddL false) (gTup (gCons (gVar 9) gNil)) (gVar 8) [a, b, some (.ref n), c, d, e, f, y, some g.2.w, some (.int g.1), t] G = .ok (.tup ((sP g).map (·.1))) G := by
        rw [op_tups (u := [.int g.1]) (v := (tlP g.2).map (·.1)) (tup1 (vr rfl)) (vr (by rw [← tlP_w]; rfl)) (by have := tl_len g.2; rw [← tlP_s] at this; simp at this ⊢; omega)]
        rfl
      rw [call2 (gC_ev) et ej]
      unfold sP sWords
      rw [List.map_cons, tlP_s]
    rw [List.map_cons, forF_nx (ρ1 := [a, b, some (.ref n), c, d, e, f, y, some g.2.w, some (.int g.1), t]) (G1 := G) rfl b1, ih, set_set, List.append_assoc]
    rfl
/-- the parts of a pair's row -/
def pP (p : Pr) : List (W × Str) := intsP (flatS p.stack) ++ [(.str (Str.ofString "at"), Str.ofString "at"), (.int p.place, numT p.place)]
theorem pP_pt {p : Pr} (h : p.ok) : ∀ a ∈ pP p, Pt a := fun a m => by
  rcases List.mem_append.mp m with m | m
  · exact intsP_pt (flatS_all h.sn) a m
  · rcases List.mem_cons.mp m with e | m
    · rw [e]; exact pt_s _
    · rw [List.mem_singleton.mp m]; exact pt_n h.pl
theorem pP_s (p : Pr) : Str.ofString "pair" :: (pP p).map (·.2) = p.words := by
  unfold pP Pr.words
  rw [List.map_append, intsP_s]
  rfl
theorem pP_w (p : Pr) : (pP p).map (·.1) = (flatS p.stack).map W.int ++ [.str (Str.ofString "at"), .int p.place] := by
  unfold pP
  rw [List.map_append, intsP_w]
  rfl
theorem add_lst {u v : List W} (h : u.length + v.length ≤ 1000) : fAddL false (.lst u) (.lst v) G = .ok (.lst (u ++ v)) G := by
  show (if u.length + v.length ≤ sizeLine then R.ok (W.lst (u ++ v)) G else .no) = _
  rw [if_pos (by rw [sizeLine_eq]; omega)]
theorem pair_written_ok {p : Pr} (h : p.ok) : f_pair_written [p.w] G = .ok (.ref G.n) (G.push (.lst (p.rows.map .str))) := by
  rw [e_pair_written]
  unfold b_pair_written t_pair_written_8
  have fl := h.fl
  have gl := h.gl
  have sl : p.stack.length ≤ 2 := by rcases h.s with e | e <;> omega
  have f2 := flatS_len p.stack
  rw [gSeq_ev, gAsg_ev, vr (w := p.w) rfl, thn_ok]
  show (RS.seq (RS.nx [some p.w, none, none, some (.tup (p.stack.map twoW)), some (.int p.place), some (.tup (p.fs.map fW)), some (.tup (p.ss.map sW)), none, none, none, none] G) t_pair_written_7).fin.calm = _
  rw [seq_nx]
  unfold t_pair_written_7
  have e1 : gLc2 false (iSeq (gVar 3)) (tgName 10) gYes (iSeq (gVar 10)) (tgName 9) gYes (gVar 9) [10, 9] [9] [some p.w, none, none, some (.tup (p.stack.map twoW)), some (.int p.place), some (.tup (p.fs.map fW)), some (.tup (p.ss.map sW)), none, none, none, none] G = .ok (.lst ((flatS p.stack).map .int)) G := by
    unfold gLc2
    rw [iSeq_ev, vr (w := .tup (p.stack.map twoW)) rfl, bind_ok, asSeq_t, bind_ok]
    simp only
    rw [flat_lc (by simp [wipeW]), calm_ok, bind_ok, if_pos (len_le' (by simp; omega)), mkL_false]
  rw [asg_nx e1]
  unfold t_pair_written_6
  have e2 : gOp (fAddL false) (gVar 1) (gLst false (gCons (gC (.str (Str.ofString "at"))) (gCons (gVar 4) gNil))) [some p.w, some (.lst ((flatS p.stack).map .int)), none, some (.tup (p.stack.map twoW)), some (.int p.place), some (.tup (p.fs.map fW)), some (.tup (p.ss.map sW)), none, none, none, none] G = .ok (.lst ((pP p).map (·.1))) G := by
    rw [pP_w]
    refine op2 (vr rfl) (v := .lst [.str (Str.ofString "at"), .int p.place]) (G2 := G) ?_ (add_lst (by simp; omega))
    rw [gLst_ev, gCons_ev, gC_ev, bind_ok, gCons_ev, vr (w := .int p.place) rfl, bind_ok, gNil_ev, bind_ok, bind_ok, bind_ok, if_pos (len_le' (by simp)), mkL_false]
  have ej := joined_ok (G := G) (w := Str.ofString "pair") (l := pP p) (P := .lst ((pP p).map (·.1))) (fun _ => rfl) (pP_pt h) (by rw [pP_s]; exact p_sw h)
  rw [pP_s] at ej
  have e3 : gLst true (gCons (gCall (cFn 2 f_joined) (gCons (gC (.str (Str.ofString "pair"))) (gCons (gOp (fAddL false) (gVar 1) (gLst false (gCons (gC (.str (Str.ofString "at"))) (gCons (gVar 4) gNil)))) gNil))) gNil) [some p.w, some (.lst ((flatS p.stack).map .int)), none, some (.tup (p.stack.map twoW)), some (.int p.place), some (.tup (p.fs.map fW)), some (.tup (p.ss.map sW)), none, none, none, none] G = .ok (.ref G.n) (G.push (.lst [.str (rowT p.words)])) := by
    rw [gLst_ev, gCons_ev, call2 gC_ev e2 ej, bind_ok, gNil_ev, bind_ok, bind_ok, if_pos (len_le' (by simp)), mkL_true]
  show (gSeq _ _ [some p.w, some (.lst ((flatS p.stack).map .int)), none, some (.tup (p.stack.map twoW)), some (.int p.place), some (.tup (p.fs.map fW)), some (.tup (p.ss.map sW)), none, none, none, none] G).fin.calm = _
  rw [asg_nx e3]
  unfold t_pair_written_5
  obtain ⟨y1, z1, f1⟩ := firsts_for (n := G.n) (some p.w) (some (.lst ((flatS p.stack).map .int))) (some (.tup (p.stack.map twoW))) (some (.int p.place)) (some (.tup (p.fs.map fW))) (some (.tup (p.ss.map sW))) none none none p.fs [.str (rowT p.words)] (G.push (.lst [.str (rowT p.words)])) none none h.f push_same (by simp; omega)
  rw [gSeq_ev, gFor_ev, iSeq_ev]
  show (((((gVar 5 [some p.w, some (.lst ((flatS p.stack).map .int)), some (.ref G.n), some (.tup (p.stack.map twoW)), some (.int p.place), some (.tup (p.fs.map fW)), some (.tup (p.ss.map sW)), none, none, none, none] (G.push (.lst [.str (rowT p.words)]))).bind asSeq).thn _ _).seq _).fin).calm = _
  rw [vr (w := .tup (p.fs.map fW)) rfl, bind_ok, asSeq_t, thn_ok, forW_vals]
  show ((((forF _ _ _ [some p.w, some (.lst ((flatS p.stack).map .int)), some (.ref G.n), some (.tup (p.stack.map twoW)), some (.int p.place), some (.tup (p.fs.map fW)), some (.tup (p.ss.map sW)), none, none, none, none] (G.push (.lst [.str (rowT p.words)]))).seq _).fin).calm) = _
  rw [f1, seq_nx, push_set]
  unfold t_pair_written_4
  obtain ⟨z2, s2, f2⟩ := seconds_for (n := G.n) (some p.w) (some (.lst ((flatS p.stack).map .int))) (some (.tup (p.stack.map twoW))) (some (.int p.place)) (some (.tup (p.fs.map fW))) (some (.tup (p.ss.map sW))) y1 none none p.ss ([.str (rowT p.words)] ++ p.fs.map fun f => .str (rowT (fWords f))) (G.push (.lst ([.str (rowT p.words)] ++ p.fs.map fun f => .str (rowT (fWords f))))) z1 none h.g push_same (by simp; omega)
  rw [gSeq_ev, gFor_ev, iSeq_ev, vr (w := .tup (p.ss.map sW)) rfl, bind_ok, asSeq_t, thn_ok, forW_vals, f2, seq_nx, push_set]
  unfold t_pair_written_3
  rw [gRet_ev, vr (w := .ref G.n) rfl, thn_ok]
  have : ([W.str (rowT p.words)] ++ p.fs.map (fun f => W.str (rowT (fWords f)))) ++ p.ss.map (fun s => W.str (rowT (sWords s))) = p.rows.map .str := by
    simp only [Pr.rows, List.map_cons, List.map_append, List.map_map]
    rfl
  rw [this]
  rfl
/-! ### write_likeness -/
theorem extend_l {n : Nat} {us vs : List W} (h : G.at_ n = some (.lst us)) (hl : us.length + vs.length ≤ 1000000) : mExtend (.ref n) [.lst vs] G = .ok .non (G.set n (.lst (us ++ vs))) := by
  unfold mExtend
  simp only [lw_at h]
  show (if us.length + vs.length ≤ sizeLine then R.ok W.non (G.set n (.lst (us ++ vs))) else .no) = _
  rw [if_pos (by rw [sizeLine_eq]; omega)]
theorem pairs_write {G0 : GH} {n : Nat} (a g q : Option W) : ∀ (ps : List Pr) (us : List W) (G : GH) (x : Option W), (∀ p ∈ ps, p.ok) → One G0 G n us → us.length + ps.length * 21 ≤ 100000 →
    ∃ G' x', forF (tgName 4) t_write_likeness_1 (ps.map Pr.w) [a, some (.ref n), g, q, x] G = .nx [a, some (.ref n), g, q, x'] G' ∧ One G0 G' n (us ++ (ps.flatMap Pr.rows).map .str)
  | [], us, G, x, _, o, _ => ⟨G, x, rfl, by simpa using o⟩
  | p :: ps, us, G, x, h, o, hl => by
    have hp := h p (List.mem_cons_self)
    have pl := pr_len hp
    have e1 : gFrz (gCall (cFn 1 f_pair_written) (gCons (gVar 4) gNil)) [a, some (.ref n), g, q, some p.w] G = .ok (.lst (p.rows.map .str)) ((G.push (.lst (p.rows.map .str))).del G.n) := frzE (call1 (vr rfl) (pair_written_ok hp)) push_same
    have hn : G0.n ≤ G.n := o.grow.1
    have o1 : One G0 ((G.push (.lst (p.rows.map .str))).del G.n) n us := by
      refine ⟨(o.grow.trans (Grow.push G _)).del hn, ?_, o.a, by show n < G.n + 1; have := o.b; omega⟩
      show (if n = G.n then none else (G.push (.lst (p.rows.map .str))).at_ n) = _
      rw [if_neg (by have := o.b; omega), push_ne (by have := o.b; omega)]
      exact o.r
    have b1 : t_write_likeness_1 [a, some (.ref n), g, q, some p.w] G = .nx [a, some (.ref n), g, q, some p.w] (((G.push (.lst (p.rows.map .str))).del G.n).set n (.lst (us ++ p.rows.map .str))) := by
      unfold t_write_likeness_1
      rw [gDrop_ev]
      unfold gMt
      rw [vr (w := .ref n) rfl, bind_ok, if_pos (isTy_at o.r), gCons_ev, e1, bind_ok, gNil_ev, bind_ok, bind_ok, extend_l o1.r (by simp at hl ⊢; omega), thn_ok]
    obtain ⟨G', x', e, o'⟩ := pairs_write a g q ps (us ++ p.rows.map .str) _ (some p.w) (fun r m => h r (List.mem_cons_of_mem _ m)) (o1.set (us ++ p.rows.map .str)) (by simp at hl ⊢; omega)
    refine ⟨G', x', ?_, ?_⟩
    · rw [List.map_cons, forF_nx (tgName_ev 4) b1]
      exact e
    · rw [List.flatMap_cons, List.map_append, ← List.append_assoc]; exact o'
/-- the parts of a unit's row -/
def uP (u : Un) : List (W × Str) := intsP ((u.pairs.length : Int) :: u.goes)
theorem uP_s (u : Un) : Str.ofString "unit" :: (uP u).map (·.2) = u.words := by
  unfold uP
  rw [intsP_s]
  rfl
theorem uP_pt {u : Un} (h : u.ok) : ∀ a ∈ uP u, Pt a := intsP_pt fun n m => by
  rcases List.mem_cons.mp m with e | m
  · rw [e]; exact nn_small (by have := h.p2; omega)
  · exact h.g n m
theorem units_write {G0 : GH} {n : Nat} (a : Option W) : ∀ (vs : List Un) (us : List W) (G : GH) (g q x : Option W), (∀ u ∈ vs, u.ok) → One G0 G n us → us.length + vs.length * 2101 ≤ 90000 →
    ∃ G' g' q' x', forF (tgTup 2 (tgCons (tgName 2) (tgCons (tgName 3) tgNil))) t_write_likeness_3 (vs.map Un.w) [a, some (.ref n), g, q, x] G = .nx [a, some (.ref n), g', q', x'] G' ∧ One G0 G' n (us ++ (papRows vs).map .str)
  | [], us, G, g, q, x, _, o, _ => ⟨G, g, q, x, rfl, by simpa [papRows] using o⟩
  | u :: vs, us, G, g, q, x, h, o, hl => by
    have hu := h u (List.mem_cons_self)
    have ul := un_len hu
    have p2 := hu.p2
    have gl := hu.gl
    have ej := joined_ok (G := G) (w := Str.ofString "unit") (l := uP u) (P := .tup ((uP u).map (·.1))) (fun _ => rfl) (uP_pt hu) (by rw [uP_s]; exact u_sw hu)
    rw [uP_s] at ej
    have et : gOp (fAddL false) (gTup (gCons (gCall cLen (gCons (gVar 3) gNil)) gNil)) (gVar 2) [a, some (.ref n), some (.tup (u.goes.map .int)), some (.tup (u.pairs.map Pr.w)), x] G = .ok (.tup ((uP u).map (·.1))) G := by
      unfold uP
      rw [intsP_w]
      refine op_tups (u := [.int (u.pairs.length : Int)]) (v := u.goes.map .int) (tup1 ?_) (vr rfl) (by simp; omega)
      rw [gCall_ev, gCons_ev, vr (w := .tup (u.pairs.map Pr.w)) rfl, bind_ok, gNil_ev, bind_ok, bind_ok, cLen_tup, List.length_map]
    have o1 := o.set (us ++ [.str (rowT u.words)])
    obtain ⟨G1, x1, e1, o2⟩ := pairs_write a (some (.tup (u.goes.map .int))) (some (.tup (u.pairs.map Pr.w))) u.pairs (us ++ [.str (rowT u.words)]) _ x hu.p o1 (by simp at hl ⊢; omega)
    have b1 : t_write_likeness_3 [a, some (.ref n), some (.tup (u.goes.map .int)), some (.tup (u.pairs.map Pr.w)), x] G = .nx [a, some (.ref n), some (.tup (u.goes.map .int)), some (.tup (u.pairs.map Pr.w)), x1] G1 := by
      unfold t_write_likeness_3
      rw [gSeq_ev, app_step o.r rfl (call2 gC_ev et ej) (by simp at hl; omega), seq_nx]
      unfold t_write_likeness_2
      rw [gFor_ev, iSeq_ev, vr (w := .tup (u.pairs.map Pr.w)) rfl, bind_ok, asSeq_t, thn_ok, forW_vals]
      exact e1
    obtain ⟨G', g', q', x', e, o'⟩ := units_write a vs _ G1 (some (.tup (u.goes.map .int))) (some (.tup (u.pairs.map Pr.w))) x1 (fun r m => h r (List.mem_cons_of_mem _ m)) o2 (by
      have : (u.pairs.flatMap Pr.rows).length ≤ 2100 := by simp only [Un.rows, List.length_cons] at ul; omega
      simp at hl this ⊢; omega)
    refine ⟨G', g', q', x', ?_, ?_⟩
    · rw [List.map_cons, forF_nx (ρ1 := [a, some (.ref n), some (.tup (u.goes.map .int)), some (.tup (u.pairs.map Pr.w)), x]) (G1 := G) rfl b1]
      exact e
    · have : us ++ (papRows (u :: vs)).map W.str = us ++ [.str (rowT u.words)] ++ (u.pairs.flatMap Pr.rows).map .str ++ (papRows vs).map .str := by simp [papRows, Un.rows]
      rw [this]; exact o'
theorem join_rows {us : List Un} {n i : Nat} {ρ : En} (h : PapOk us) (hm : G.at_ n = some (.lst ((papRows us).map .str))) (x : ρ[i]? = some (some (.ref n))) : gMt "str" mJoin (gC (.str (Str.ofString "\n"))) (gCons (gVar i) gNil) ρ G = .ok (.str (papT us)) G := by
  unfold gMt
  rw [gC_ev, bind_ok, if_pos (by rfl), gCons_ev, vr x, bind_ok, gNil_ev, bind_ok, bind_ok]
  refine mJoin_s (sqs_at hm) ?_
  have h1 := sum_le (l := papRows us) (f := (·.length)) (k := 300) fun x m => (pap_rows h x m).1
  have h2 := pap_len h
  have h3 : (Str.ofString "\n").length = 1 := by decide +kernel
  rw [h3]
  omega
theorem write_likeness_ok {us : List Un} (h : PapOk us) : ∃ G', f_write_likeness [papW us] G = .ok (.str (papT us)) G' ∧ Grow G G' := by
  have hl := h.2
  obtain ⟨G', g', q', x', e, o⟩ := units_write (some (papW us)) us [] (G.push (.lst [])) none none none h.1 (One.new G []) (by simp; omega)
  refine ⟨G', ?_, o.grow⟩
  rw [e_write_likeness]
  unfold b_write_likeness t_write_likeness_6
  rw [asg_nx newL]
  unfold t_write_likeness_5
  rw [gSeq_ev, gFor_ev, iSeq_ev]
  show (((((gVar 0 [some (papW us), some (.ref G.n), none, none, none] (G.push (.lst []))).bind asSeq).thn _ _).seq _).fin).calm = _
  rw [vr (w := .tup (us.map Un.w)) rfl, bind_ok, asSeq_t, thn_ok, forW_vals]
  show (((forF _ _ _ [some (papW us), some (.ref G.n), none, none, none] (G.push (.lst []))).seq _).fin).calm = _
  rw [e, seq_nx]
  unfold t_write_likeness_4
  rw [gRet_ev, join_rows h (by simpa using o.r) rfl, thn_ok]
  rfl
end
end Lw

set_option Elab.async false
set_option linter.all false
set_option maxRecDepth 100000
namespace Lw
open PySem PySem.Spec PyProof.Rows L2 Fn
section
variable {G : GH}
/-! ### the law's text -/
theorem str_at {i : Nat} {ρ : En} {j : Int} {n : Int} {ws : List W} (x : ρ[i]? = some (some (.tup ws))) (h : L2.atI ws j = some (.int n)) (hn : Nn n) : gCall cStrX (gCons (gOp fIx (gVar i) (gC (.int j))) gNil) ρ G = .ok (.str (numT n)) G := by
  rw [gCall_ev, gCons_ev, op2 (vr x) gC_ev (w := .int n) (G3 := G) (by rw [fIx_tup, h]; rfl), bind_ok, gNil_ev, bind_ok, bind_ok, cStr_n hn]
theorem str_var {i : Nat} {ρ : En} {n : Int} (x : ρ[i]? = some (some (.int n))) (hn : Nn n) : gCall cStrX (gCons (gVar i) gNil) ρ G = .ok (.str (numT n)) G := by
  rw [gCall_ev, gCons_ev, vr x, bind_ok, gNil_ev, bind_ok, bind_ok, cStr_n hn]
theorem for_seq {g : FE} {t : FG1} {b : FS} {ρ : En} {w : W} {vs : List W} {G1 : GH} (h1 : g ρ G = .ok w G1) (h2 : asSeq w G1 = .ok (.vals vs) G1) : gFor (iSeq g) t b ρ G = forF t b vs ρ G1 := by
  rw [gFor_ev, iSeq_ev, h1, bind_ok, h2, thn_ok, forW_vals]
theorem seqN {a b : FS} {ρ ρ1 : En} {G1 : GH} (h : a ρ G = .nx ρ1 G1) : gSeq a b ρ G = b ρ1 G1 := by rw [gSeq_ev, h, seq_nx]
theorem lst2 {a b : FE} {ρ : En} {u v : W} (ha : a ρ G = .ok u G) (hb : b ρ G = .ok v G) : gLst false (gCons a (gCons b gNil)) ρ G = .ok (.lst [u, v]) G := by
  rw [gLst_ev, gCons_ev, ha, bind_ok, gCons_ev, hb, bind_ok, gNil_ev, bind_ok, bind_ok, bind_ok, if_pos (len_le' (by simp)), mkL_false]
theorem lst3 {a b c : FE} {ρ : En} {u v w : W} (ha : a ρ G = .ok u G) (hb : b ρ G = .ok v G) (hc : c ρ G = .ok w G) : gLst false (gCons a (gCons b (gCons c gNil))) ρ G = .ok (.lst [u, v, w]) G := by
  rw [gLst_ev, gCons_ev, ha, bind_ok, gCons_ev, hb, bind_ok, gCons_ev, hc, bind_ok, gNil_ev, bind_ok, bind_ok, bind_ok, bind_ok, if_pos (len_le' (by simp)), mkL_false]
theorem steps_for (a0 a1 a2 a3 a4 a7 a8 a9 a10 a11 : Option W) : ∀ (l : List (Int × Int)) (us : List Str) (x : Option W), (∀ s ∈ l, Nn s.1 ∧ Nn s.2) → us.length + l.length * 2 ≤ 100 →
    ∃ x', forF (tgName 6) t__law_paper_text_1 (l.map twoW) [a0, a1, a2, a3, a4, some (.lst (us.map .str)), x, a7, a8, a9, a10, a11] G = .nx [a0, a1, a2, a3, a4, some (.lst ((us ++ (flatS l).map numT).map .str)), x', a7, a8, a9, a10, a11] G
  | [], us, x, _, _ => ⟨x, by simp [flatS]⟩
  | s :: l, us, x, h, hl => by
    have hs := h s (List.mem_cons_self)
    obtain ⟨x', ih⟩ := steps_for a0 a1 a2 a3 a4 a7 a8 a9 a10 a11 l (us ++ [numT s.1, numT s.2]) (some (twoW s)) (fun q m => h q (List.mem_cons_of_mem _ m)) (by simp at hl ⊢; omega)
    refine ⟨x', ?_⟩
    have b1 : t__law_paper_text_1 [a0, a1, a2, a3, a4, some (.lst (us.map .str)), some (twoW s), a7, a8, a9, a10, a11] G = .nx [a0, a1, a2, a3, a4, some (.lst ((us ++ [numT s.1, numT s.2]).map .str)), some (twoW s), a7, a8, a9, a10, a11] G := by
      unfold t__law_paper_text_1
      rw [asg_only (op2 (vr (w := .lst (us.map .str)) rfl) (lst2 (str_at (ws := [.int s.1, .int s.2]) rfl rfl hs.1) (str_at (ws := [.int s.1, .int s.2]) rfl rfl hs.2)) (add_strs (v := [numT s.1, numT s.2]) (by simp at hl ⊢; omega)))]
      rfl
    rw [List.map_cons, forF_nx (ρ1 := [a0, a1, a2, a3, a4, some (.lst (us.map .str)), some (twoW s), a7, a8, a9, a10, a11]) (G1 := G) rfl b1, ih]
    simp [flatS]
theorem lf_for {n : Nat} (a0 a2 a3 a4 a5 a6 a9 a10 a11 : Option W) : ∀ (fs : List ((Int × Int) × Tl)) (us : List W) (G : GH) (y z : Option W), (∀ f ∈ fs, Nn f.1.1 ∧ Nn f.1.2 ∧ f.2.ok) → G.at_ n = some (.lst us) → us.length + fs.length ≤ 100000 →
    ∃ y' z', forF (tgTup 2 (tgCons (tgName 7) (tgCons (tgName 8) tgNil))) t__law_paper_text_2 (fs.map fW) [a0, some (.ref n), a2, a3, a4, a5, a6, y, z, a9, a10, a11] G = .nx [a0, some (.ref n), a2, a3, a4, a5, a6, y', z', a9, a10, a11] (G.set n (.lst (us ++ fs.map fun f => .str (rowT (fWords f)))))
  | [], us, G, y, z, _, hm, hl => ⟨y, z, by rw [List.map_nil, List.map_nil, List.append_nil, set_self hm]; rfl⟩
  | g :: fs, us, G, y, z, h, hm, hl => by
    have hg := h g (List.mem_cons_self)
    obtain ⟨y', z', ih⟩ := lf_for a0 a2 a3 a4 a5 a6 a9 a10 a11 fs (us ++ [.str (rowT (fWords g))]) (G.set n (.lst (us ++ [.str (rowT (fWords g))]))) (some (.tup [.int g.1.1, .int g.1.2])) (some g.2.w) (fun q m => h q (List.mem_cons_of_mem _ m)) set_same (by simp at hl ⊢; omega)
    refine ⟨y', z', ?_⟩
    have tl := tl_len g.2
    have b1 : t__law_paper_text_2 [a0, some (.ref n), a2, a3, a4, a5, a6, some (.tup [.int g.1.1, .int g.1.2]), some g.2.w, a9, a10, a11] G = .nx [a0, some (.ref n), a2, a3, a4, a5, a6, some (.tup [.int g.1.1, .int g.1.2]), some g.2.w, a9, a10, a11] (G.set n (.lst (us ++ [.str (rowT (fWords g))]))) := by
      unfold t__law_paper_text_2
      refine app_step hm rfl ?_ (by simp at hl; omega)
      refine join_row (ys := fWords g) ?_ (f_sw hg)
      have e2 := strs_lc (G := G) (i := 8) (j := 11) (ρ := [a0, some (.ref n), a2, a3, a4, a5, a6, some (.tup [.int g.1.1, .int g.1.2]), some g.2.w, a9, a10, a11]) (l := tlP g.2) (P := .tup ((tlP g.2).map (·.1))) (by rw [← tlP_w]; rfl) rfl (tlP_pt hg.2.2) (by simp) (by rw [← tlP_s] at tl; simp at tl; omega)
      rw [tlP_s] at e2
      exact op2 (lst3 gC_ev (str_at (ws := [.int g.1.1, .int g.1.2]) rfl rfl hg.1) (str_at (ws := [.int g.1.1, .int g.1.2]) rfl rfl hg.2.1)) e2 (add_strs (u := [Str.ofString "first", numT g.1.1, numT g.1.2]) (by simp; omega))
    rw [List.map_cons, forF_nx (ρ1 := [a0, some (.ref n), a2, a3, a4, a5, a6, some (.tup [.int g.1.1, .int g.1.2]), some g.2.w, a9, a10, a11]) (G1 := G) rfl b1, ih, set_set, List.append_assoc]
    rfl
theorem ls_for {n : Nat} (a0 a2 a3 a4 a5 a6 a7 a10 a11 : Option W) : ∀ (ss : List (Int × Tl)) (us : List W) (G : GH) (z y : Option W), (∀ s ∈ ss, Nn s.1 ∧ s.2.ok) → G.at_ n = some (.lst us) → us.length + ss.length ≤ 100000 →
    ∃ z' y', forF (tgTup 2 (tgCons (tgName 9) (tgCons (tgName 8) tgNil))) t__law_paper_text_3 (ss.map sW) [a0, some (.ref n), a2, a3, a4, a5, a6, a7, z, y, a10, a11] G = .nx [a0, some (.ref n), a2, a3, a4, a5, a6, a7, z', y', a10, a11] (G.set n (.lst (us ++ ss.map fun s => .str (rowT (sWords s)))))
  | [], us, G, z, y, _, hm, hl => ⟨z, y, by rw [List.map_nil, List.map_nil, List.append_nil, set_self hm]; rfl⟩
  | g :: ss, us, G, z, y, h, hm, hl => by
    have hg := h g (List.mem_cons_self)
    obtain ⟨z', y', ih⟩ := ls_for a0 a2 a3 a4 a5 a6 a7 a10 a11 ss (us ++ [.str (rowT (sWords g))]) (G.set n (.lst (us ++ [.str (rowT (sWords g))]))) (some g.2.w) (some (.int g.1)) (fun q m => h q (List.mem_cons_of_mem _ m)) set_same (by simp at hl ⊢; omega)
    refine ⟨z', y', ?_⟩
    have tl := tl_len g.2
    have b1 : t__law_paper_text_3 [a0, some (.ref n), a2, a3, a4, a5, a6, a7, some g.2.w, some (.int g.1), a10, a11] G = .nx [a0, some (.ref n), a2, a3, a4, a5, a6, a7, some g.2.w, some (.int g.1), a10, a11] (G.set n (.lst (us ++ [.str (rowT (sWords g))]))) := by
      unfold t__law_paper_text_3
      refine app_step hm rfl ?_ (by simp at hl; omega)
      refine join_row (ys := sWords g) ?_ (s_sw hg)
      have e2 := strs_lc (G := G) (i := 8) (j := 11) (ρ := [a0, some (.ref n), a2, a3, a4, a5, a6, a7, some g.2.w, some (.int g.1), a10, a11]) (l := tlP g.2) (P := .tup ((tlP g.2).map (·.1))) (by rw [← tlP_w]; rfl) rfl (tlP_pt hg.2) (by simp) (by rw [← tlP_s] at tl; simp at tl; omega)
      rw [tlP_s] at e2
      exact op2 (lst2 gC_ev (str_var rfl hg.1)) e2 (add_strs (u := [Str.ofString "second", numT g.1]) (by simp; omega))
    rw [List.map_cons, forF_nx (ρ1 := [a0, some (.ref n), a2, a3, a4, a5, a6, a7, some g.2.w, some (.int g.1), a10, a11]) (G1 := G) rfl b1, ih, set_set, List.append_assoc]
    rfl
theorem lp_body {n : Nat} (a0 a2 a3 a10 a11 : Option W) {p : Pr} (h : p.ok) {us : List W} (hm : G.at_ n = some (.lst us)) (hl : us.length + 21 ≤ 90000) (a5 a6 a7 a8 a9 : Option W) :
    ∃ b5 b6 b7 b8 b9, t__law_paper_text_8 [a0, some (.ref n), a2, a3, some p.w, a5, a6, a7, a8, a9, a10, a11] G = .nx [a0, some (.ref n), a2, a3, some p.w, b5, b6, b7, b8, b9, a10, a11] (G.set n (.lst (us ++ p.rows.map .str))) := by
  have fl := h.fl
  have gl := h.gl
  have sl : p.stack.length ≤ 2 := by rcases h.s with e | e <;> omega
  unfold t__law_paper_text_8
  have e1 : gLst false (gCons (gC (.str (Str.ofString "pair"))) gNil) [a0, some (.ref n), a2, a3, some p.w, a5, a6, a7, a8, a9, a10, a11] G = .ok (.lst ([Str.ofString "pair"].map .str)) G := by
    rw [gLst_ev, gCons_ev, gC_ev, bind_ok, gNil_ev, bind_ok, bind_ok, if_pos (len_le' (by simp)), mkL_false]
    rfl
  obtain ⟨x1, f1⟩ := steps_for (G := G) a0 (some (.ref n)) a2 a3 (some p.w) a7 a8 a9 a10 a11 p.stack [Str.ofString "pair"] a6 h.sn (by simp; omega)
  have i0 : gOp fIx (gVar 4) (gC (.int 0)) [a0, some (.ref n), a2, a3, some p.w, some (.lst ([Str.ofString "pair"].map .str)), a6, a7, a8, a9, a10, a11] G = .ok (.tup (p.stack.map twoW)) G := op2 (vr rfl) gC_ev rfl
  have s1 := (for_seq (t := tgName 6) (b := t__law_paper_text_1) i0 rfl).trans f1
  have fl2 := flatS_len p.stack
  -- the row of the pair
  have r1 : gDrop (gMt "list" mAppend (gVar 1) (gCons (gMt "str" mJoin (gC (.str (Str.ofString " "))) (gCons (gOp (fAddL false) (gVar 5) (gLst false (gCons (gC (.str (Str.ofString "at"))) (gCons (gCall cStrX (gCons (gOp fIx (gVar 4) (gC (.int 1))) gNil)) gNil)))) gNil)) gNil)) [a0, some (.ref n), a2, a3, some p.w, some (.lst (([Str.ofString "pair"] ++ (flatS p.stack).map numT).map .str)), x1, a7, a8, a9, a10, a11] G = .nx [a0, some (.ref n), a2, a3, some p.w, some (.lst (([Str.ofString "pair"] ++ (flatS p.stack).map numT).map .str)), x1, a7, a8, a9, a10, a11] (G.set n (.lst (us ++ [.str (rowT p.words)]))) := by
    refine app_step hm rfl (join_row (ys := p.words) ?_ (p_sw h)) (by omega)
    have e := op2 (G := G) (ρ := [a0, some (.ref n), a2, a3, some p.w, some (.lst (([Str.ofString "pair"] ++ (flatS p.stack).map numT).map .str)), x1, a7, a8, a9, a10, a11]) (vr (i := 5) (w := .lst (([Str.ofString "pair"] ++ (flatS p.stack).map numT).map .str)) rfl) (lst2 (gC_ev (w := .str (Str.ofString "at"))) (str_at (i := 4) (ws := [.tup (p.stack.map twoW), .int p.place, .tup (p.fs.map fW), .tup (p.ss.map sW)]) (j := 1) (n := p.place) rfl rfl h.pl)) (add_strs (v := [Str.ofString "at", numT p.place]) (by simp; omega))
    rw [List.append_assoc] at e
    exact e
  obtain ⟨y2, z2, f2⟩ := lf_for (n := n) a0 a2 a3 (some p.w) (some (.lst (([Str.ofString "pair"] ++ (flatS p.stack).map numT).map .str))) x1 a9 a10 a11 p.fs (us ++ [.str (rowT p.words)]) (G.set n (.lst (us ++ [.str (rowT p.words)]))) a7 a8 h.f set_same (by simp; omega)
  have i2 : gOp fIx (gVar 4) (gC (.int 2)) [a0, some (.ref n), a2, a3, some p.w, some (.lst (([Str.ofString "pair"] ++ (flatS p.stack).map numT).map .str)), x1, a7, a8, a9, a10, a11] (G.set n (.lst (us ++ [.str (rowT p.words)]))) = .ok (.tup (p.fs.map fW)) (G.set n (.lst (us ++ [.str (rowT p.words)]))) := op2 (vr rfl) gC_ev rfl
  have s2 := (for_seq (t := tgTup 2 (tgCons (tgName 7) (tgCons (tgName 8) tgNil))) (b := t__law_paper_text_2) i2 rfl).trans f2
  rw [set_set] at s2
  obtain ⟨z3, y3, f3⟩ := ls_for (n := n) a0 a2 a3 (some p.w) (some (.lst (([Str.ofString "pair"] ++ (flatS p.stack).map numT).map .str))) x1 y2 a10 a11 p.ss (us ++ [.str (rowT p.words)] ++ p.fs.map fun f => .str (rowT (fWords f))) (G.set n (.lst (us ++ [.str (rowT p.words)] ++ p.fs.map fun f => .str (rowT (fWords f))))) z2 a9 h.g set_same (by simp; omega)
  have i3 : gOp fIx (gVar 4) (gC (.int 3)) [a0, some (.ref n), a2, a3, some p.w, some (.lst (([Str.ofString "pair"] ++ (flatS p.stack).map numT).map .str)), x1, y2, z2, a9, a10, a11] (G.set n (.lst (us ++ [.str (rowT p.words)] ++ p.fs.map fun f => .str (rowT (fWords f))))) = .ok (.tup (p.ss.map sW)) (G.set n (.lst (us ++ [.str (rowT p.words)] ++ p.fs.map fun f => .str (rowT (fWords f))))) := op2 (vr rfl) gC_ev rfl
  have s3 := (for_seq (t := tgTup 2 (tgCons (tgName 9) (tgCons (tgName 8) tgNil))) (b := t__law_paper_text_3) i3 rfl).trans f3
  rw [set_set] at s3
  have er : us ++ [.str (rowT p.words)] ++ p.fs.map (fun f => W.str (rowT (fWords f))) ++ p.ss.map (fun s => W.str (rowT (sWords s))) = us ++ p.rows.map .str := by
    simp only [Pr.rows, List.map_cons, List.map_append, List.map_map, List.append_assoc]
    rfl
  rw [er] at s3
  refine ⟨some (.lst (([Str.ofString "pair"] ++ (flatS p.stack).map numT).map .str)), x1, y2, z3, y3, (asg_nx e1).trans ?_⟩
  unfold t__law_paper_text_7
  refine Eq.trans (seqN s1) ?_
  unfold t__law_paper_text_6
  refine Eq.trans (seqN r1) ?_
  unfold t__law_paper_text_5
  refine Eq.trans (seqN s2) ?_
  unfold t__law_paper_text_4
  exact s3
theorem lp_for {n : Nat} (a0 a2 a3 a10 a11 : Option W) : ∀ (ps : List Pr) (us : List W) (G : GH) (a4 a5 a6 a7 a8 a9 : Option W), (∀ p ∈ ps, p.ok) → G.at_ n = some (.lst us) → us.length + ps.length * 21 ≤ 90000 →
    ∃ b4 b5 b6 b7 b8 b9, forF (tgName 4) t__law_paper_text_8 (ps.map Pr.w) [a0, some (.ref n), a2, a3, a4, a5, a6, a7, a8, a9, a10, a11] G = .nx [a0, some (.ref n), a2, a3, b4, b5, b6, b7, b8, b9, a10, a11] (G.set n (.lst (us ++ (ps.flatMap Pr.rows).map .str)))
  | [], us, G, a4, a5, a6, a7, a8, a9, _, hm, _ => ⟨_, _, _, _, _, _, by rw [List.map_nil, List.flatMap_nil, List.map_nil, List.append_nil, set_self hm]; rfl⟩
  | p :: ps, us, G, a4, a5, a6, a7, a8, a9, h, hm, hl => by
    have hp := h p (List.mem_cons_self)
    have pl := pr_len hp
    obtain ⟨b5, b6, b7, b8, b9, b1⟩ := lp_body a0 a2 a3 a10 a11 hp hm (by simp at hl; omega) a5 a6 a7 a8 a9
    obtain ⟨c4, c5, c6, c7, c8, c9, ih⟩ := lp_for a0 a2 a3 a10 a11 ps (us ++ p.rows.map .str) (G.set n (.lst (us ++ p.rows.map .str))) (some p.w) b5 b6 b7 b8 b9 (fun q m => h q (List.mem_cons_of_mem _ m)) set_same (by simp at hl ⊢; omega)
    refine ⟨c4, c5, c6, c7, c8, c9, ?_⟩
    rw [List.map_cons, forF_nx (ρ1 := [a0, some (.ref n), a2, a3, some p.w, a5, a6, a7, a8, a9, a10, a11]) (G1 := G) rfl b1, ih, set_set, List.flatMap_cons, List.map_append, List.append_assoc]
theorem lu_for {n : Nat} (a0 a11 : Option W) : ∀ (vs : List Un) (us : List W) (G : GH) (a2 a3 a4 a5 a6 a7 a8 a9 a10 : Option W), (∀ u ∈ vs, u.ok) → G.at_ n = some (.lst us) → us.length + vs.length * 2101 ≤ 80000 →
    ∃ b2 b3 b4 b5 b6 b7 b8 b9 b10, forF (tgTup 2 (tgCons (tgName 2) (tgCons (tgName 3) tgNil))) t__law_paper_text_10 (vs.map Un.w) [a0, some (.ref n), a2, a3, a4, a5, a6, a7, a8, a9, a10, a11] G = .nx [a0, some (.ref n), b2, b3, b4, b5, b6, b7, b8, b9, b10, a11] (G.set n (.lst (us ++ (papRows vs).map .str)))
  | [], us, G, a2, a3, a4, a5, a6, a7, a8, a9, a10, _, hm, _ => ⟨_, _, _, _, _, _, _, _, _, by rw [List.map_nil, papRows, List.flatMap_nil, List.map_nil, List.append_nil, set_self hm]; rfl⟩
  | u :: vs, us, G, a2, a3, a4, a5, a6, a7, a8, a9, a10, h, hm, hl => by
    have hu := h u (List.mem_cons_self)
    have ul := un_len hu
    have p2 := hu.p2
    have gl := hu.gl
    have fl : (u.pairs.flatMap Pr.rows).length ≤ 2100 := by simp only [Un.rows, List.length_cons] at ul; omega
    obtain ⟨b4, b5, b6, b7, b8, b9, f1⟩ := lp_for (n := n) a0 (some (.tup (u.goes.map .int))) (some (.tup (u.pairs.map Pr.w))) a10 a11 u.pairs (us ++ [.str (rowT u.words)]) (G.set n (.lst (us ++ [.str (rowT u.words)]))) a4 a5 a6 a7 a8 a9 hu.p set_same (by simp at hl ⊢; omega)
    obtain ⟨c2, c3, c4, c5, c6, c7, c8, c9, c10, ih⟩ := lu_for a0 a11 vs (us ++ [.str (rowT u.words)] ++ (u.pairs.flatMap Pr.rows).map .str) (G.set n (.lst (us ++ [.str (rowT u.words)] ++ (u.pairs.flatMap Pr.rows).map .str))) (some (.tup (u.goes.map .int))) (some (.tup (u.pairs.map Pr.w))) b4 b5 b6 b7 b8 b9 a10 (fun q m => h q (List.mem_cons_of_mem _ m)) set_same (by simp at hl fl ⊢; omega)
    refine ⟨c2, c3, c4, c5, c6, c7, c8, c9, c10, ?_⟩
    have e2 := strs_lc (G := G) (i := 2) (j := 10) (ρ := [a0, some (.ref n), some (.tup (u.goes.map .int)), some (.tup (u.pairs.map Pr.w)), a4, a5, a6, a7, a8, a9, a10, a11]) (l := intsP u.goes) (P := .tup ((intsP u.goes).map (·.1))) (by rw [intsP_w]; rfl) rfl (intsP_pt hu.g) (by simp) (by unfold intsP; rw [List.length_map]; omega)
    rw [intsP_s] at e2
    have ec : gCall cStrX (gCons (gCall cLen (gCons (gVar 3) gNil)) gNil) [a0, some (.ref n), some (.tup (u.goes.map .int)), some (.tup (u.pairs.map Pr.w)), a4, a5, a6, a7, a8, a9, a10, a11] G = .ok (.str (numT (u.pairs.length : Int))) G := by
      have : gCall cLen (gCons (gVar 3) gNil) [a0, some (.ref n), some (.tup (u.goes.map .int)), some (.tup (u.pairs.map Pr.w)), a4, a5, a6, a7, a8, a9, a10, a11] G = .ok (.int (u.pairs.length : Int)) G := by
        rw [gCall_ev, gCons_ev, vr (w := .tup (u.pairs.map Pr.w)) rfl, bind_ok, gNil_ev, bind_ok, bind_ok, cLen_tup, List.length_map]
      rw [gCall_ev, gCons_ev, this, bind_ok, gNil_ev, bind_ok, bind_ok, cStr_n (nn_small (by omega))]
    have b1 : t__law_paper_text_10 [a0, some (.ref n), some (.tup (u.goes.map .int)), some (.tup (u.pairs.map Pr.w)), a4, a5, a6, a7, a8, a9, a10, a11] G = .nx [a0, some (.ref n), some (.tup (u.goes.map .int)), some (.tup (u.pairs.map Pr.w)), b4, b5, b6, b7, b8, b9, a10, a11] (G.set n (.lst (us ++ [.str (rowT u.words)] ++ (u.pairs.flatMap Pr.rows).map .str))) := by
      unfold t__law_paper_text_10
      rw [seqN (app_step hm rfl (join_row (ys := u.words) (op2 (lst2 gC_ev ec) e2 (add_strs (u := [Str.ofString "unit", numT (u.pairs.length : Int)]) (by simp; omega))) (u_sw hu)) (by simp at hl; omega))]
      unfold t__law_paper_text_9
      rw [set_set] at f1
      exact (for_seq (vr (w := .tup (u.pairs.map Pr.w)) rfl) rfl).trans f1
    rw [List.map_cons, forF_nx (ρ1 := [a0, some (.ref n), some (.tup (u.goes.map .int)), some (.tup (u.pairs.map Pr.w)), a4, a5, a6, a7, a8, a9, a10, a11]) (G1 := G) rfl b1, ih, set_set]
    congr 3
    simp [papRows, Un.rows]
theorem paper_text_ok {us : List Un} (h : PapOk us) : ∃ G', f__law_paper_text [papW us] G = .ok (.str (papT us)) G' ∧ Grow G G' := by
  have hl := h.2
  obtain ⟨b2, b3, b4, b5, b6, b7, b8, b9, b10, e⟩ := lu_for (n := G.n) (some (papW us)) none us [] (G.push (.lst [])) none none none none none none none none none h.1 push_same (by simp; omega)
  rw [push_set, List.nil_append] at e
  refine ⟨G.push (.lst ((papRows us).map .str)), ?_, Grow.push G _⟩
  rw [e__law_paper_text]
  unfold b__law_paper_text t__law_paper_text_13
  rw [asg_nx newL]
  unfold t__law_paper_text_12
  refine Eq.trans (congrArg (fun r => r.fin.calm) (seqN ((for_seq (vr (w := .tup (us.map Un.w)) rfl) rfl).trans e))) ?_
  unfold t__law_paper_text_11
  rw [gRet_ev, join_rows h push_same rfl, thn_ok]
  rfl
end
end Lw

set_option Elab.async false
set_option linter.all false
set_option maxRecDepth 100000
namespace Lw
open PySem PySem.Spec PyProof.Rows L2 Fn
section
variable {G : GH}
@[simp] theorem cIntX_i (i : Int) : cIntX [.int i] G = .ok (.int i) G := rfl
@[simp] theorem gSlX_ev (o : Bool) (g : FE) (l h : FO) (ρ : En) : gSlX o g l h ρ G = (g ρ G).bind fun w G1 => (l ρ G1).bind fun i G2 => (h ρ G2).bind fun j G3 => fSlX o w i j G3 := rfl
@[simp] theorem fSlX_l (ws : List W) (lo hi : Option Int) : fSlX false (.lst ws) lo hi G = fSl false (.lst ws) lo hi G := rfl
end
/-! ### the deck -/
/-- the deck at n -/
def Deck (G : GH) (n : Nat) : Prop := ∃ (cells : List Int) (a b t : Int), cells.length ≤ 63 ∧ 0 ≤ a ∧ G.at_ n = some (.lst [.lst (cells.map .int), .int a, .int b, .int t])
/-- the same but for the deck -/
def Drawn (n : Nat) (G G' : GH) : Prop := G'.n = G.n ∧ (∀ m, m ≠ n → G'.at_ m = G.at_ m) ∧ Deck G' n
theorem Drawn.refl {n : Nat} {G : GH} (h : Deck G n) : Drawn n G G := ⟨rfl, fun _ _ => rfl, h⟩
theorem Drawn.trans {n : Nat} {G G1 G2 : GH} (a : Drawn n G G1) (b : Drawn n G1 G2) : Drawn n G G2 := ⟨b.1.trans a.1, fun m h => (b.2.1 m h).trans (a.2.1 m h), b.2.2⟩
theorem Drawn.deck {n : Nat} {G G1 : GH} (a : Drawn n G G1) : Deck G1 n := a.2.2
theorem atI_ints {cells : List Int} {i : Int} (h0 : 0 ≤ i) (h : i < cells.length) : ∃ c : Int, L2.atI (cells.map W.int) i = some (.int c) :=
  ⟨cells[i.toNat]'(by omega), atI_at h0 (by rw [List.getElem?_map, List.getElem?_eq_getElem (by omega)]; rfl)⟩
theorem draw_tail {G : GH} {n : Nat} {m : Int} (h0 : 0 < m) (h1 : m.natAbs.log2 < 9000) {cells : List Int} {a b t c : Int} (hl : cells.length ≤ 63) (ha : 0 ≤ a) (hG : G.at_ n = some (.lst [.lst (cells.map .int), .int a, .int b, .int t])) :
    ∃ (d : Int) (G' : GH), (t__law_draw_6 [some (W.ref n), some (W.int m), some (W.int c), none, none, none, none] G).fin.calm = .ok (.int d) G' ∧ 0 ≤ d ∧ d < m ∧ Drawn n G G' := by
  unfold t__law_draw_6 t__law_draw_5
  by_cases hc : a + 1 ≤ cells.length ∧ (1000000000000000000 : Int) ≤ c
  · simp [hG, hc.1, hc.2, fMod_i h0, fDiv_i h0 h1]
    exact ⟨_, _, ⟨rfl, rfl⟩, Int.emod_nonneg _ (by omega), Int.emod_lt_of_pos _ h0, rfl, fun k hk => set_ne hk, cells, a + 1, c / m, t, hl, by omega, by simp⟩
  · have hk : ∀ ρ : En, ∀ G1 : GH, ∃ (d : Int) (G' : GH), (t__law_draw_4 [some (W.ref n), some (W.int m), some (W.int c), none, none, none, none] (G.set n (.lst [.lst (cells.map .int), .int (a + 1), .int b, .int t]))).fin.calm = .ok (.int d) G' ∧ 0 ≤ d ∧ d < m ∧ Drawn n G G' := fun ρ G1 => by
      unfold t__law_draw_4
      simp [fMul_i (i := 7919) (j := t) (.inl (by decide)), fMod_i (j := 2147483647) (by decide)]
      have f0 := Int.emod_nonneg (c + 7919 * t) (show (2147483647 : Int) ≠ 0 by decide)
      have f1 := Int.emod_lt_of_pos (c + 7919 * t) (show (0 : Int) < 2147483647 by decide)
      generalize (c + 7919 * t) % 2147483647 = x at f0 f1 ⊢
      unfold t__law_draw_3
      simp [fMul_i (i := x) (j := x) (.inl (by omega)), fMul_i (i := 48271) (j := x) (.inl (by decide)), fMod_i (j := 2147483629) (by decide)]
      have g0 := Int.emod_nonneg (x * x + 48271 * x + t) (show (2147483629 : Int) ≠ 0 by decide)
      have g1 := Int.emod_lt_of_pos (x * x + 48271 * x + t) (show (0 : Int) < 2147483629 by decide)
      generalize (x * x + 48271 * x + t) % 2147483629 = y at g0 g1 ⊢
      unfold t__law_draw_2
      simp [fDiv_i (i := y) (j := 65536) (by decide) (by decide), fMul_i (i := y / 65536) (j := 40503) (.inr (by decide)), fMul_i (i := y) (j := 31) (.inr (by decide)), fMod_i (j := 1073741789) (by decide)]
      generalize (y / 65536 * 40503 + y * 31 + x) % 1073741789 = z
      unfold t__law_draw_1
      simp [fDiv_i (i := z) (j := 7) (by decide) (by decide), fMod_i h0]
      exact ⟨_, _, ⟨rfl, rfl⟩, Int.emod_nonneg _ (by omega), Int.emod_lt_of_pos _ h0, rfl, fun k hk => set_ne hk, cells, a + 1, b, t, hl, by omega, by simp⟩
    by_cases hc1 : a + 1 ≤ cells.length
    · simp [hG, hc1, show ¬ (1000000000000000000 : Int) ≤ c from fun z => hc ⟨hc1, z⟩]
      exact hk [] G
    · simp [hG, hc1]
      exact hk [] G
theorem draw_ok {G : GH} {n : Nat} {m : Int} (h : Deck G n) (h0 : 0 < m) (h1 : m.natAbs.log2 < 9000) : ∃ (d : Int) (G' : GH), f__law_draw [.ref n, .int m] G = .ok (.int d) G' ∧ 0 ≤ d ∧ d < m ∧ Drawn n G G' := by
  obtain ⟨cells, a, b, t, hl, ha, hG⟩ := h
  rw [e__law_draw]
  unfold b__law_draw t__law_draw_10 t__law_draw_9
  by_cases hb : m ≤ b
  · simp [hG, hb, fMod_i h0, fDiv_i h0 h1]
    exact ⟨_, _, ⟨rfl, rfl⟩, Int.emod_nonneg _ (by omega), Int.emod_lt_of_pos _ h0, rfl, fun k hk => set_ne hk, cells, a, b / m, t + 1, hl, ha, by simp⟩
  · have step : ∀ G1 : GH, Drawn n (G.set n (.lst [.lst (cells.map .int), .int a, .int b, .int (t + 1)])) G1 → Drawn n G G1 := fun G1 ⟨z1, z2, z3⟩ => ⟨z1, fun k hk => (z2 k hk).trans (set_ne hk), z3⟩
    unfold t__law_draw_8 t__law_draw_7
    cases cells with
    | nil =>
      simp [hG, hb]
      obtain ⟨d, G', e, d0, d1, dr⟩ := draw_tail (c := 0) h0 h1 hl ha (set_same (G := G) (n := n) (o := .lst [.lst (([] : List Int).map .int), .int a, .int b, .int (t + 1)]))
      exact ⟨d, G', e, d0, d1, step G' dr⟩
    | cons c0 cs =>
      have hlen : (0 : Int) < ((c0 :: cs).length : Int) := by simp
      obtain ⟨c, ec⟩ := atI_ints (cells := c0 :: cs) (i := a % ((c0 :: cs).length : Int)) (Int.emod_nonneg _ (by omega)) (Int.emod_lt_of_pos _ hlen)
      have em := fMod_i (G := G.set n (.lst [.lst ((c0 :: cs).map .int), .int a, .int b, .int (t + 1)])) (i := a) hlen
      obtain ⟨d, G', e, d0, d1, dr⟩ := draw_tail (c := c) h0 h1 hl ha (set_same (G := G) (n := n) (o := .lst [.lst ((c0 :: cs).map .int), .int a, .int b, .int (t + 1)]))
      simp at em ec e
      simp [hG, hb, em, ec, e]
      exact ⟨d, G', ⟨rfl, rfl⟩, d0, d1, step G' (by simpa using dr)⟩
theorem deck_ok {ns : List Int} {G : GH} (h : ns.length ≤ 63) : f__law_deck [.lst (ns.map W.int)] G = .ok (.ref G.n) (G.push (.lst [.lst (ns.map .int), .int 0, .int 0, .int 0])) := by
  rw [e__law_deck]
  unfold b__law_deck t__law_deck_1
  have e := lc_map (t := tgName 1) (te := gCall cIntX (gCons (gVar 1) gNil)) (ρw := [some (W.lst (ns.map W.int)), none]) (G := G) id (ns.map W.int) (fun w m => by
    obtain ⟨i, _, rfl⟩ := List.mem_map.mp m
    exact ⟨_, rfl, by simp⟩)
  have ec : cutW (ns.map W.int) none (some 63) = ns.map W.int := cut_all (by simpa using h)
  have l1 : ns.length ≤ sizeLine := len_le _ (by omega)
  have ew : wipeW [some (W.lst (ns.map W.int)), none] [1] = [some (W.lst (ns.map W.int)), none] := rfl
  rw [List.map_id] at e
  simp [ec, ew, e, l1, lens]
theorem deck_at {ns : List Int} {G : GH} (h : ns.length ≤ 63) : Deck (G.push (.lst [.lst (ns.map .int), .int 0, .int 0, .int 0])) G.n := ⟨ns, 0, 0, 0, h, Int.le_refl _, push_same⟩
section
variable {G : GH}
theorem drawE {n i : Nat} {ρ : En} {gm : FE} {m : Int} (h : Deck G n) (x : ρ[i]? = some (some (.ref n))) (hm : gm ρ G = .ok (.int m) G) (h0 : 0 < m) (h1 : m < 10 ^ 13) : ∃ (d : Int) (G' : GH), gCall (cFn 2 f__law_draw) (gCons (gVar i) (gCons gm gNil)) ρ G = .ok (.int d) G' ∧ 0 ≤ d ∧ d < m ∧ Drawn n G G' := by
  have hl : m.natAbs.log2 < 9000 := by
    have : m.natAbs.log2 < 60 := (Nat.log2_lt (by omega)).mpr (by omega)
    omega
  obtain ⟨d, G', e, a, b, c⟩ := draw_ok h h0 hl
  exact ⟨d, G', call2 (vr x) hm e, a, b, c⟩
theorem retE {g : FE} {ρ : En} {w : W} {G1 : GH} (h : g ρ G = .ok w G1) : gRet g ρ G = .rt w G1 := by rw [gRet_ev, h, thn_ok]
theorem eq_t {g : FE} {ρ : En} {a k : Int} (e : g ρ G = .ok (.int a) G) : gTest (gOp fEq g (gC (.int k))) ρ G = .ok (decide (a = k)) G := tst (op2 e gC_ev (fEq_i _ _))
theorem pow12 (k : Int) (hk : k = 12 ∨ k = 11) {ρ : En} : gOp fPow (gC (.int 10)) (gC (.int k)) ρ G = .ok (.int (10 ^ k.toNat)) G := by
  refine op2 gC_ev gC_ev ?_
  rw [fPow_i, if_pos]
  rcases hk with rfl | rfl <;> decide
theorem any_ok {n : Nat} (h : Deck G n) : ∃ (v : Int) (G' : GH), f__law_any [.ref n] G = .ok (.int v) G' ∧ Nn v ∧ Drawn n G G' := by
  rw [e__law_any]
  unfold b__law_any t__law_any_4
  obtain ⟨d, G1, e1, d0, d8, D1⟩ := drawE (i := 0) (ρ := [some (.ref n), none]) (gm := gC (.int 8)) h rfl gC_ev (by decide) (by decide)
  rw [asg_nx e1]
  unfold t__law_any_3
  have tp := eq_t (G := G1) (ρ := [some (.ref n), some (.int d)]) (g := gVar 1) (a := d) (k := 0) (vr rfl)
  by_cases k0 : d = 0
  · have em : gOp fSub (gOp fMul (gC (.int 2)) (gOp fPow (gC (.int 10)) (gC (.int 12)))) (gC (.int 1)) [some (.ref n), some (.int d)] G1 = .ok (.int (2 * 10 ^ 12 - 1)) G1 := op2 (op2 gC_ev (pow12 12 (.inl rfl)) (fMul_i (.inl (by decide)))) gC_ev (fSub_i _ _)
    obtain ⟨v, G2, e2, v0, v1, D2⟩ := drawE (i := 0) (ρ := [some (.ref n), some (.int d)]) D1.deck rfl em (by decide) (by decide)
    refine ⟨v - 10 ^ 12 + 1, G2, ?_, by unfold Nn; omega, D1.trans D2⟩
    rw [decide_eq_true k0] at tp
    refine Eq.trans (congrArg (fun r => r.fin.calm) (seq_if_t tp)) ?_
    have er := op2 (op2 e2 (pow12 (G := G2) 12 (.inl rfl)) (fSub_i v _)) (gC_ev (w := .int 1)) (fAdd_i false _ _)
    rw [retE (er), seq_rt]
    rfl
  · rw [decide_eq_false k0] at tp
    have go : ∀ r : R W, (t__law_any_2 [some (.ref n), some (.int d)] G1).fin.calm = r → ((gSeq (gIfS (gTest (gOp fEq (gVar 1) (gC (.int 0)))) (gRet (gOp (fAddL false) (gOp fSub (gCall (cFn 2 f__law_draw) (gCons (gVar 0) (gCons (gOp fSub (gOp fMul (gC (.int 2)) (gOp fPow (gC (.int 10)) (gC (.int 12)))) (gC (.int 1))) gNil))) (gOp fPow (gC (.int 10)) (gC (.int 12)))) (gC (.int 1)))) gNext) t__law_any_2 [some (.ref n), some (.int d)] G1).fin).calm = r := fun r e => by
      rw [seq_if_f tp, gNext_ev, seq_nx]; exact e
    have tq := eq_t (G := G1) (ρ := [some (.ref n), some (.int d)]) (g := gVar 1) (a := d) (k := 1) (vr rfl)
    by_cases k1 : d = 1
    · rw [decide_eq_true k1] at tq
      have el : gLst false (gCons (gOp fSub (gOp fPow (gC (.int 10)) (gC (.int 12))) (gC (.int 1))) (gCons (gOp fSub (gC (.int 1)) (gOp fPow (gC (.int 10)) (gC (.int 12)))) (gCons (gOp fPow (gC (.int 10)) (gC (.int 11))) (gCons (gNeg (gOp fPow (gC (.int 10)) (gC (.int 11)))) gNil)))) [some (.ref n), some (.int d)] G1 = .ok (.lst [.int 999999999999, .int (-999999999999), .int 100000000000, .int (-100000000000)]) G1 := by
        have a1 := op2 (pow12 (G := G1) (ρ := [some (.ref n), some (.int d)]) 12 (.inl rfl)) (gC_ev (w := .int 1)) (fSub_i _ _)
        have a2 := op2 (gC_ev (G := G1) (ρ := [some (.ref n), some (.int d)]) (w := .int 1)) (pow12 12 (.inl rfl)) (fSub_i _ _)
        have a3 := pow12 (G := G1) (ρ := [some (.ref n), some (.int d)]) 11 (.inr rfl)
        have a4 : gNeg (gOp fPow (gC (.int 10)) (gC (.int 11))) [some (.ref n), some (.int d)] G1 = .ok (.int (-(10 ^ (11 : Int).toNat))) G1 := by rw [gNeg_ev, a3, bind_ok]
        rw [gLst_ev, gCons_ev, a1, bind_ok, gCons_ev, a2, bind_ok, gCons_ev, a3, bind_ok, gCons_ev, a4, bind_ok, gNil_ev, bind_ok, bind_ok, bind_ok, bind_ok, bind_ok, if_pos (len_le' (by simp)), mkL_false]
        rfl
      obtain ⟨v, G2, e2, v0, v1, D2⟩ := drawE (i := 0) (ρ := [some (.ref n), some (.int d)]) (gm := gC (.int 4)) D1.deck rfl gC_ev (by decide) (by decide)
      have pick : ∃ u : Int, fIx (.lst [.int 999999999999, .int (-999999999999), .int 100000000000, .int (-100000000000)]) (.int v) G2 = .ok (.int u) G2 ∧ Nn u := by
        have : v = 0 ∨ v = 1 ∨ v = 2 ∨ v = 3 := by omega
        rcases this with rfl | rfl | rfl | rfl
        · exact ⟨999999999999, rfl, by unfold Nn; decide⟩
        · exact ⟨-999999999999, rfl, by unfold Nn; decide⟩
        · exact ⟨100000000000, rfl, by unfold Nn; decide⟩
        · exact ⟨-100000000000, rfl, by unfold Nn; decide⟩
      obtain ⟨u, eu, nu⟩ := pick
      refine ⟨u, G2, go _ ?_, nu, D1.trans D2⟩
      unfold t__law_any_2
      refine Eq.trans (congrArg (fun r => r.fin.calm) (seq_if_t tq)) ?_
      rw [retE (op2 el e2 eu), seq_rt]
      rfl
    · rw [decide_eq_false k1] at tq
      obtain ⟨v, G2, e2, v0, v1, D2⟩ := drawE (i := 0) (ρ := [some (.ref n), some (.int d)]) (gm := gC (.int 14)) D1.deck rfl gC_ev (by decide) (by decide)
      refine ⟨v - 3, G2, go _ ?_, by unfold Nn; omega, D1.trans D2⟩
      unfold t__law_any_2
      refine Eq.trans (congrArg (fun r => r.fin.calm) ((seq_if_f tq).trans (by rw [gNext_ev, seq_nx]))) ?_
      unfold t__law_any_1
      rw [retE (op2 e2 gC_ev (fSub_i v 3))]
      rfl
theorem anyE {n i : Nat} {ρ : En} (h : Deck G n) (x : ρ[i]? = some (some (.ref n))) : ∃ (v : Int) (G' : GH), gCall (cFn 1 f__law_any) (gCons (gVar i) gNil) ρ G = .ok (.int v) G' ∧ Nn v ∧ Drawn n G G' := by
  obtain ⟨v, G', e, a, b⟩ := any_ok h
  exact ⟨v, G', call1 (vr x) e, a, b⟩
theorem tl1 {a : FE} {ρ : En} {u : W} {G1 : GH} {s : W} (ha : a ρ G = .ok u G1) : gTup (gCons (gC s) (gCons a gNil)) ρ G = .ok (.tup [s, u]) G1 := tup2 gC_ev ha
theorem tup3 {a b c : FE} {ρ : En} {u v w : W} {G1 G2 G3 : GH} (ha : a ρ G = .ok u G1) (hb : b ρ G1 = .ok v G2) (hc : c ρ G2 = .ok w G3) : gTup (gCons a (gCons b (gCons c gNil))) ρ G = .ok (.tup [u, v, w]) G3 := by
  rw [gTup_ev, gCons_ev, ha, bind_ok, gCons_ev, hb, bind_ok, gCons_ev, hc, bind_ok, gNil_ev, bind_ok, bind_ok, bind_ok, bind_ok]
  exact if_pos (len_le' (by simp))
theorem tup4 {a b c d : FE} {ρ : En} {u v w z : W} {G1 G2 G3 G4 : GH} (ha : a ρ G = .ok u G1) (hb : b ρ G1 = .ok v G2) (hc : c ρ G2 = .ok w G3) (hd : d ρ G3 = .ok z G4) : gTup (gCons a (gCons b (gCons c (gCons d gNil)))) ρ G = .ok (.tup [u, v, w, z]) G4 := by
  rw [gTup_ev, gCons_ev, ha, bind_ok, gCons_ev, hb, bind_ok, gCons_ev, hc, bind_ok, gCons_ev, hd, bind_ok, gNil_ev, bind_ok, bind_ok, bind_ok, bind_ok, bind_ok]
  exact if_pos (len_le' (by simp))
theorem told_ok {n : Nat} (h : Deck G n) : ∃ (t : Tl) (G' : GH), f__law_some_told [.ref n] G = .ok t.w G' ∧ t.ok ∧ Drawn n G G' := by
  rw [e__law_some_told]
  unfold b__law_some_told t__law_some_told_4
  obtain ⟨d, G1, e1, d0, d8, D1⟩ := drawE (i := 0) (ρ := [some (.ref n), none]) (gm := gC (.int 3)) h rfl gC_ev (by decide) (by decide)
  rw [asg_nx e1]
  unfold t__law_some_told_3
  have tp := eq_t (G := G1) (ρ := [some (.ref n), some (.int d)]) (g := gVar 1) (a := d) (k := 0) (vr rfl)
  obtain ⟨a, G2, e2, na, D2⟩ := anyE (i := 0) (ρ := [some (.ref n), some (.int d)]) D1.deck rfl
  obtain ⟨b, G3, e3, nb, D3⟩ := anyE (i := 0) (ρ := [some (.ref n), some (.int d)]) D2.deck rfl
  obtain ⟨c, G4, e4, nc, D4⟩ := anyE (i := 0) (ρ := [some (.ref n), some (.int d)]) D3.deck rfl
  by_cases k0 : d = 0
  · rw [decide_eq_true k0] at tp
    refine ⟨.num a, G2, ?_, fun n m => by rw [List.mem_singleton.mp m]; exact na, D1.trans D2⟩
    refine Eq.trans (congrArg (fun r => r.fin.calm) (seq_if_t tp)) ?_
    rw [retE (tup2 gC_ev e2), seq_rt]
    rfl
  · rw [decide_eq_false k0] at tp
    have tq := eq_t (G := G1) (ρ := [some (.ref n), some (.int d)]) (g := gVar 1) (a := d) (k := 1) (vr rfl)
    by_cases k1 : d = 1
    · rw [decide_eq_true k1] at tq
      refine ⟨.len a b, G3, ?_, fun n m => ?_, (D1.trans D2).trans D3⟩
      · refine Eq.trans (congrArg (fun r => r.fin.calm) ((seq_if_f tp).trans (by rw [gNext_ev, seq_nx]))) ?_
        unfold t__law_some_told_2
        refine Eq.trans (congrArg (fun r => r.fin.calm) (seq_if_t tq)) ?_
        rw [retE (tup3 gC_ev e2 e3), seq_rt]
        rfl
      · simp [Tl.ns] at m
        rcases m with e | e <;> rw [e] <;> assumption
    · rw [decide_eq_false k1] at tq
      refine ⟨.spot a b c, G4, ?_, fun n m => ?_, ((D1.trans D2).trans D3).trans D4⟩
      · refine Eq.trans (congrArg (fun r => r.fin.calm) ((seq_if_f tp).trans (by rw [gNext_ev, seq_nx]))) ?_
        unfold t__law_some_told_2
        refine Eq.trans (congrArg (fun r => r.fin.calm) ((seq_if_f tq).trans (by rw [gNext_ev, seq_nx]))) ?_
        unfold t__law_some_told_1
        rw [retE (tup4 gC_ev e2 e3 e4)]
        rfl
      · simp [Tl.ns] at m
        rcases m with e | e | e <;> rw [e] <;> assumption
theorem toldE {n i : Nat} {ρ : En} (h : Deck G n) (x : ρ[i]? = some (some (.ref n))) : ∃ (t : Tl) (G' : GH), gCall (cFn 1 f__law_some_told) (gCons (gVar i) gNil) ρ G = .ok t.w G' ∧ t.ok ∧ Drawn n G G' := by
  obtain ⟨v, G', e, a, b⟩ := told_ok h
  exact ⟨v, G', call1 (vr x) e, a, b⟩
end
end Lw

set_option Elab.async false
set_option linter.all false
set_option maxRecDepth 100000
namespace Lw
open PySem PySem.Spec PyProof.Rows L2 Fn
section
variable {G : GH}
/-! ### drawn papers -/
theorem lc_ex {α : Type} {t : FG1} {te : FE} {ρw : En} (P : GH → Prop) (Q : α → Prop) (w : α → W) : ∀ (us : List W), (∀ u ∈ us, ∀ G, P G → ∃ ρ1 G1 a, t u ρw G = some (ρ1, G) ∧ te ρ1 G = .ok (w a) G1 ∧ P G1 ∧ Q a) → ∀ G, P G → ∃ (G' : GH) (as : List α), lcF t gYes te ρw us G = .ok (as.map w) G' ∧ P G' ∧ as.length = us.length ∧ ∀ a ∈ as, Q a
  | [], _, G, h => ⟨G, [], rfl, h, rfl, fun a m => absurd m (by simp)⟩
  | u :: us, st, G, h => by
    obtain ⟨ρ1, G1, a, e1, e2, h1, qa⟩ := st u (List.mem_cons_self) G h
    obtain ⟨G', as, e3, h3, l3, q3⟩ := lc_ex P Q w us (fun v m => st v (List.mem_cons_of_mem _ m)) G1 h1
    refine ⟨G', a :: as, ?_, h3, by simp [l3], fun b m => ?_⟩
    · rw [lcF, lcTurn, e1]
      simp [e2, e3, addO]
    · rcases List.mem_cons.mp m with e | m
      · rw [e]; exact qa
      · exact q3 b m
theorem drawLC {α : Type} {n : Nat} {w : α → W} {Q : α → Prop} {te : FE} {ga : FA} {ρ : En} {c : Nat} {G1 : GH} (hga : ga ρ G = .ok [.int (c : Int)] G1) (hc : c ≤ 100) (h : Deck G1 n) (hρ : ρ[0]? = some (some (.ref n)))
    (st : ∀ (ρ' : En) (G : GH), ρ'[0]? = some (some (.ref n)) → Deck G n → ∃ a G', te ρ' G = .ok (w a) G' ∧ Q a ∧ Drawn n G G') :
    ∃ (as : List α) (G2 : GH), gLc false (iRng asRng1 ga) (tgName 11) gYes te [11] ρ G = .ok (.lst (as.map w)) G2 ∧ Drawn n G1 G2 ∧ as.length = c ∧ ∀ a ∈ as, Q a := by
  have h0 : ∀ u, ((wipeW ρ [11]).set 11 u)[0]? = some (some (.ref n)) := fun u => by
    show ((ρ.set 11 none).set 11 u)[0]? = _
    rw [List.getElem?_set_ne (by decide), List.getElem?_set_ne (by decide)]; exact hρ
  obtain ⟨G', as, e, h3, l3, q3⟩ := lc_ex (t := tgName 11) (te := te) (ρw := wipeW ρ [11]) (fun G => Drawn n G1 G) Q w ((List.range c).map fun (k : Nat) => W.int (k : Int)) (fun u m G hG => by
    obtain ⟨a, G2, e1, qa, d⟩ := st ((wipeW ρ [11]).set 11 (some u)) G (h0 _) hG.deck
    exact ⟨_, G2, a, rfl, e1, hG.trans d, qa⟩) G1 (Drawn.refl h)
  have l4 : as.length = c := by rw [l3]; simp
  exact ⟨as, G', (lcI hga (rng_n (by omega)) e (by rw [List.length_map]; omega)).trans (mkL_false _), h3, l4, q3⟩
theorem drawN {n : Nat} {ρ : En} {gm : FE} {m : Nat} (h : Deck G n) (x : ρ[0]? = some (some (.ref n))) (hm : gm ρ G = .ok (.int (m : Int)) G) (h0 : 0 < m) (h1 : m < 10 ^ 6) : ∃ (d : Nat) (G' : GH), gCall (cFn 2 f__law_draw) (gCons (gVar 0) (gCons gm gNil)) ρ G = .ok (.int (d : Int)) G' ∧ d < m ∧ Drawn n G G' := by
  obtain ⟨d, G', e, a, b, c⟩ := drawE h x hm (by omega) (by omega)
  obtain ⟨k, rfl⟩ := Int.eq_ofNat_of_zero_le a
  exact ⟨k, G', e, by omega, c⟩
theorem one1 {g : FE} {ρ : En} {w : W} {G1 : GH} (h : g ρ G = .ok w G1) : gCons g gNil ρ G = .ok [w] G1 := by rw [gCons_ev, h, bind_ok, gNil_ev, bind_ok]
theorem cTup_l {g : FE} {ρ : En} {ws : List W} {G1 : GH} (h : g ρ G = .ok (.lst ws) G1) : gCall cTuple (gCons g gNil) ρ G = .ok (.tup ws) G1 := cTuple1 h
theorem stack_lc {n : Nat} {ρ : En} (h : Deck G n) (x : ρ[0]? = some (some (.ref n))) : ∃ (as : List (Int × Int)) (G2 : GH), gLc false (iRng asRng1 (gCons (gOp (fAddL false) (gC (.int 1)) (gCall (cFn 2 f__law_draw) (gCons (gVar 0) (gCons (gC (.int 2)) gNil)))) gNil)) (tgName 11) gYes (gTup (gCons (gCall (cFn 1 f__law_any) (gCons (gVar 0) gNil)) (gCons (gCall (cFn 1 f__law_any) (gCons (gVar 0) gNil)) gNil))) [11] ρ G = .ok (.lst (as.map twoW)) G2 ∧ Drawn n G G2 ∧ (as.length = 1 ∨ as.length = 2) ∧ ∀ s ∈ as, Nn s.1 ∧ Nn s.2 := by
  obtain ⟨d, G1, e1, hd, D1⟩ := drawN (m := 2) h x (gm := gC (.int 2)) gC_ev (by decide) (by decide)
  have eg : gCons (gOp (fAddL false) (gC (.int 1)) (gCall (cFn 2 f__law_draw) (gCons (gVar 0) (gCons (gC (.int 2)) gNil)))) gNil ρ G = .ok [.int ((1 + d : Nat) : Int)] G1 := by
    rw [one1 (add1_ev _ _ (gC_ev (w := .int 1)) e1)]
    congr 3
  obtain ⟨as, G2, e2, D2, l2, q2⟩ := drawLC (w := twoW) (Q := fun s => Nn s.1 ∧ Nn s.2) eg (by omega) D1.deck x fun ρ' G hx hD => by
    obtain ⟨a, G3, e3, n3, D3⟩ := anyE (i := 0) hD hx
    obtain ⟨b, G4, e4, n4, D4⟩ := anyE (i := 0) D3.deck hx
    exact ⟨(a, b), G4, tup2 e3 e4, ⟨n3, n4⟩, D3.trans D4⟩
  exact ⟨as, G2, e2, D1.trans D2, by omega, q2⟩
theorem first_lc {n : Nat} {ρ : En} (h : Deck G n) (x : ρ[0]? = some (some (.ref n))) : ∃ (as : List ((Int × Int) × Tl)) (G2 : GH), gLc false (iRng asRng1 (gCons (gCall (cFn 2 f__law_draw) (gCons (gVar 0) (gCons (gC (.int 3)) gNil))) gNil)) (tgName 11) gYes (gTup (gCons (gTup (gCons (gCall (cFn 1 f__law_any) (gCons (gVar 0) gNil)) (gCons (gCall (cFn 1 f__law_any) (gCons (gVar 0) gNil)) gNil))) (gCons (gCall (cFn 1 f__law_some_told) (gCons (gVar 0) gNil)) gNil))) [11] ρ G = .ok (.lst (as.map fW)) G2 ∧ Drawn n G G2 ∧ as.length ≤ 2 ∧ ∀ f ∈ as, Nn f.1.1 ∧ Nn f.1.2 ∧ f.2.ok := by
  obtain ⟨d, G1, e1, hd, D1⟩ := drawN (m := 3) h x (gm := gC (.int 3)) gC_ev (by decide) (by decide)
  obtain ⟨as, G2, e2, D2, l2, q2⟩ := drawLC (w := fW) (Q := fun f => Nn f.1.1 ∧ Nn f.1.2 ∧ f.2.ok) (one1 e1) (by omega) D1.deck x fun ρ' G hx hD => by
    obtain ⟨a, G3, e3, n3, D3⟩ := anyE (i := 0) hD hx
    obtain ⟨b, G4, e4, n4, D4⟩ := anyE (i := 0) D3.deck hx
    obtain ⟨t, G5, e5, n5, D5⟩ := toldE (i := 0) D4.deck hx
    exact ⟨((a, b), t), G5, tup2 (tup2 e3 e4) e5, ⟨n3, n4, n5⟩, (D3.trans D4).trans D5⟩
  exact ⟨as, G2, e2, D1.trans D2, by omega, q2⟩
theorem second_lc {n : Nat} {ρ : En} (h : Deck G n) (x : ρ[0]? = some (some (.ref n))) : ∃ (as : List (Int × Tl)) (G2 : GH), gLc false (iRng asRng1 (gCons (gCall (cFn 2 f__law_draw) (gCons (gVar 0) (gCons (gC (.int 3)) gNil))) gNil)) (tgName 11) gYes (gTup (gCons (gCall (cFn 1 f__law_any) (gCons (gVar 0) gNil)) (gCons (gCall (cFn 1 f__law_some_told) (gCons (gVar 0) gNil)) gNil))) [11] ρ G = .ok (.lst (as.map sW)) G2 ∧ Drawn n G G2 ∧ as.length ≤ 2 ∧ ∀ s ∈ as, Nn s.1 ∧ s.2.ok := by
  obtain ⟨d, G1, e1, hd, D1⟩ := drawN (m := 3) h x (gm := gC (.int 3)) gC_ev (by decide) (by decide)
  obtain ⟨as, G2, e2, D2, l2, q2⟩ := drawLC (w := sW) (Q := fun s => Nn s.1 ∧ s.2.ok) (one1 e1) (by omega) D1.deck x fun ρ' G hx hD => by
    obtain ⟨a, G3, e3, n3, D3⟩ := anyE (i := 0) hD hx
    obtain ⟨t, G5, e5, n5, D5⟩ := toldE (i := 0) D3.deck hx
    exact ⟨(a, t), G5, tup2 e3 e5, ⟨n3, n5⟩, D3.trans D5⟩
  exact ⟨as, G2, e2, D1.trans D2, by omega, q2⟩
theorem goes_lc {n : Nat} {ρ : En} (h : Deck G n) (x : ρ[0]? = some (some (.ref n))) : ∃ (as : List Int) (G2 : GH), gLc false (iRng asRng1 (gCons (gCall (cFn 2 f__law_draw) (gCons (gVar 0) (gCons (gC (.int 3)) gNil))) gNil)) (tgName 11) gYes (gCall (cFn 1 f__law_any) (gCons (gVar 0) gNil)) [11] ρ G = .ok (.lst (as.map W.int)) G2 ∧ Drawn n G G2 ∧ as.length ≤ 2 ∧ ∀ s ∈ as, Nn s := by
  obtain ⟨d, G1, e1, hd, D1⟩ := drawN (m := 3) h x (gm := gC (.int 3)) gC_ev (by decide) (by decide)
  obtain ⟨as, G2, e2, D2, l2, q2⟩ := drawLC (w := W.int) (Q := Nn) (one1 e1) (by omega) D1.deck x fun ρ' G hx hD => by
    obtain ⟨a, G3, e3, n3, D3⟩ := anyE (i := 0) hD hx
    exact ⟨a, G3, e3, n3, D3⟩
  exact ⟨as, G2, e2, D1.trans D2, by omega, q2⟩
/-- as drawn -/
structure Pr.sm (p : Pr) : Prop where
  ok : p.ok
  f : p.fs.length ≤ 2
  g : p.ss.length ≤ 2
theorem sp_pair {n k : Nat} (hk : k ≠ n) (a1 a2 a3 a4 a6 a7 a8 a9 a10 a11 : Option W) {us : List W} (h : Deck G n) (hm : G.at_ k = some (.lst us)) (hl : us.length < 1000) :
    ∃ p b8 b9 b10 G1, t__law_some_paper_4 [some (.ref n), a1, a2, a3, a4, some (.ref k), a6, a7, a8, a9, a10, a11] G = .nx [some (.ref n), a1, a2, a3, a4, some (.ref k), a6, a7, b8, b9, b10, a11] (G1.set k (.lst (us ++ [p.w]))) ∧ Pr.sm p ∧ Drawn n G G1 := by
  obtain ⟨st, G1, e1, D1, l1, q1⟩ := stack_lc (ρ := [some (.ref n), a1, a2, a3, a4, some (.ref k), a6, a7, a8, a9, a10, a11]) h rfl
  obtain ⟨fs, G2, e2, D2, l2, q2⟩ := first_lc (ρ := [some (.ref n), a1, a2, a3, a4, some (.ref k), a6, a7, some (.lst (st.map twoW)), a9, a10, a11]) D1.deck rfl
  obtain ⟨ss, G3, e3, D3, l3, q3⟩ := second_lc (ρ := [some (.ref n), a1, a2, a3, a4, some (.ref k), a6, a7, some (.lst (st.map twoW)), some (.lst (fs.map fW)), a10, a11]) D2.deck rfl
  obtain ⟨pl, G4, e4, n4, D4⟩ := anyE (i := 0) (ρ := [some (.ref n), a1, a2, a3, a4, some (.ref k), a6, a7, some (.lst (st.map twoW)), some (.lst (fs.map fW)), some (.lst (ss.map sW)), a11]) D3.deck rfl
  have D := ((D1.trans D2).trans D3).trans D4
  refine ⟨⟨st, pl, fs, ss⟩, some (.lst (st.map twoW)), some (.lst (fs.map fW)), some (.lst (ss.map sW)), G4, ?_, ⟨⟨l1, q1, n4, q2, q3, by simp only; omega, by simp only; omega⟩, l2, l3⟩, D⟩
  unfold t__law_some_paper_4
  refine Eq.trans (asg_nx e1) ?_
  unfold t__law_some_paper_3
  refine Eq.trans (asg_nx e2) ?_
  unfold t__law_some_paper_2
  refine Eq.trans (asg_nx e3) ?_
  unfold t__law_some_paper_1
  have et := tup4 (cTup_l (vr (G := G3) (ρ := [some (.ref n), a1, a2, a3, a4, some (.ref k), a6, a7, some (.lst (st.map twoW)), some (.lst (fs.map fW)), some (.lst (ss.map sW)), a11]) (i := 8) (w := .lst (st.map twoW)) rfl)) e4 (cTup_l (vr (i := 9) (w := .lst (fs.map fW)) rfl)) (cTup_l (vr (i := 10) (w := .lst (ss.map sW)) rfl))
  have hm3 : G3.at_ k = some (.lst us) := by rw [((D1.trans D2).trans D3).2.1 k hk]; exact hm
  have hm4 : G4.at_ k = some (.lst us) := by rw [D.2.1 k hk]; exact hm
  show gDrop _ [some (.ref n), a1, a2, a3, a4, some (.ref k), a6, a7, some (.lst (st.map twoW)), some (.lst (fs.map fW)), some (.lst (ss.map sW)), a11] G3 = _
  rw [gDrop_ev]
  unfold gMt
  rw [vr (w := .ref k) rfl, bind_ok, if_pos (isTy_at hm3), gCons_ev, et, bind_ok, gNil_ev, bind_ok, bind_ok, mAppend_at hm4 (by omega), thn_ok]
  rfl
end
end Lw

set_option Elab.async false
set_option linter.all false
set_option maxRecDepth 100000
namespace Lw
open PySem PySem.Spec PyProof.Rows L2 Fn
section
variable {G : GH}
structure Un.sm (u : Un) : Prop where
  ok : u.ok
  g : u.goes.length ≤ 2
  p : ∀ p ∈ u.pairs, p.sm
  p2 : u.pairs.length ≤ 12
theorem deck_set {n k : Nat} (h : Deck G n) (hk : k ≠ n) (o : AO) : Deck (G.set k o) n := by
  obtain ⟨c, a, b, t, l, z, e⟩ := h
  exact ⟨c, a, b, t, l, z, by rw [set_ne (Ne.symm hk)]; exact e⟩
theorem deck_push {n : Nat} (h : Deck G n) (hn : n < G.n) (o : AO) : Deck (G.push o) n := by
  obtain ⟨c, a, b, t, l, z, e⟩ := h
  exact ⟨c, a, b, t, l, z, by rw [push_ne (by omega)]; exact e⟩
theorem sp_pairs {n k : Nat} (hk : k ≠ n) (a1 a2 a3 a4 a7 a11 : Option W) : ∀ (ws : List W) (us : List W) (G : GH) (a6 a8 a9 a10 : Option W), Deck G n → G.at_ k = some (.lst us) → us.length + ws.length ≤ 900 →
    ∃ (ps : List Pr) (b6 b8 b9 b10 : Option W) (G1 : GH), forF (tgName 6) t__law_some_paper_4 ws [some (.ref n), a1, a2, a3, a4, some (.ref k), a6, a7, a8, a9, a10, a11] G = .nx [some (.ref n), a1, a2, a3, a4, some (.ref k), b6, a7, b8, b9, b10, a11] G1 ∧ ps.length = ws.length ∧ (∀ p ∈ ps, p.sm) ∧ G1.at_ k = some (.lst (us ++ ps.map Pr.w)) ∧ Deck G1 n ∧ G1.n = G.n ∧ ∀ j, j ≠ n → j ≠ k → G1.at_ j = G.at_ j
  | [], us, G, a6, a8, a9, a10, h, hm, hl => ⟨[], a6, a8, a9, a10, G, rfl, rfl, fun p m => absurd m (by simp), by rw [hm]; simp, h, rfl, fun _ _ _ => rfl⟩
  | w :: ws, us, G, a6, a8, a9, a10, h, hm, hl => by
    obtain ⟨p, b8, b9, b10, G1, e1, s1, D1⟩ := sp_pair hk a1 a2 a3 a4 (some w) a7 a8 a9 a10 a11 h hm (by simp at hl; omega)
    obtain ⟨ps, c6, c8, c9, c10, G2, e2, l2, s2, m2, D2, n2, k2⟩ := sp_pairs hk a1 a2 a3 a4 a7 a11 ws (us ++ [p.w]) (G1.set k (.lst (us ++ [p.w]))) (some w) b8 b9 b10 (deck_set D1.deck hk _) set_same (by simp at hl ⊢; omega)
    refine ⟨p :: ps, c6, c8, c9, c10, G2, ?_, by simp [l2], fun q m => ?_, by rw [m2, List.append_assoc]; rfl, D2, by rw [n2]; exact D1.1, fun j a b => by rw [k2 j a b, set_ne b]; exact D1.2.1 j a⟩
    · rw [forF_nx (ρ1 := [some (.ref n), a1, a2, a3, a4, some (.ref k), some w, a7, a8, a9, a10, a11]) (G1 := G) rfl e1]
      exact e2
    · rcases List.mem_cons.mp m with e | m
      · rw [e]; exact s1
      · exact s2 q m
/-- a unit is drawn -/
theorem sp_unit {n m most : Nat} (hmn : m ≠ n) (a1 a4 a5 a6 a7 a8 a9 a10 a11 : Option W) {acc : List W} (h : Deck G n) (hm : G.at_ m = some (.lst acc)) (hn : n < G.n) (hm1 : m < G.n) (hl : acc.length ≤ 100) (h0 : 0 < most) (h1 : most ≤ 12) :
    ∃ (u : Un) (b5 b6 b7 b8 b9 b10 : Option W) (G1 : GH), t__law_some_paper_8 [some (.ref n), a1, some (.int (most : Int)), some (.ref m), a4, a5, a6, a7, a8, a9, a10, a11] G = .nx [some (.ref n), a1, some (.int (most : Int)), some (.ref m), a4, b5, b6, b7, b8, b9, b10, a11] G1 ∧ u.sm ∧ G1.at_ m = some (.lst (acc ++ [u.w])) ∧ Deck G1 n ∧ G.n ≤ G1.n ∧ ∀ j, j < G.n → j ≠ n → j ≠ m → G1.at_ j = G.at_ j := by
  have D0 := deck_push h hn (.lst [])
  obtain ⟨d, G1, e1, hd, D1⟩ := drawN (ρ := [some (.ref n), a1, some (.int (most : Int)), some (.ref m), a4, some (.ref G.n), a6, a7, a8, a9, a10, a11]) (gm := gVar 2) (m := most) D0 rfl (vr rfl) h0 (by omega)
  have eg : gCons (gOp (fAddL false) (gC (.int 1)) (gCall (cFn 2 f__law_draw) (gCons (gVar 0) (gCons (gVar 2) gNil)))) gNil [some (.ref n), a1, some (.int (most : Int)), some (.ref m), a4, some (.ref G.n), a6, a7, a8, a9, a10, a11] (G.push (.lst [])) = .ok [.int ((1 + d : Nat) : Int)] G1 := by
    rw [one1 (add1_ev _ _ (gC_ev (w := .int 1)) e1)]
    congr 3
  have hk : G1.at_ G.n = some (.lst []) := by rw [D1.2.1 _ (by omega)]; exact push_same
  obtain ⟨ps, b6, b8, b9, b10, G2, e2, l2, s2, m2, D2, n2, k2⟩ := sp_pairs (n := n) (k := G.n) (by omega) a1 (some (.int (most : Int))) (some (.ref m)) a4 a7 a11 ((List.range (1 + d)).map fun (k : Nat) => W.int (k : Int)) [] G1 a6 a8 a9 a10 D1.deck hk (by simp; omega)
  rw [List.length_map, List.length_range] at l2
  obtain ⟨gs, G3, e3, D3, l3, s3⟩ := goes_lc (ρ := [some (.ref n), a1, some (.int (most : Int)), some (.ref m), a4, some (.ref G.n), b6, a7, b8, b9, b10, a11]) D2 rfl
  have hm2 : G2.at_ m = some (.lst acc) := by rw [k2 m hmn (by omega), D1.2.1 m hmn, push_ne (by omega)]; exact hm
  have hm3 : G3.at_ m = some (.lst acc) := by rw [D3.2.1 m hmn]; exact hm2
  have hk3 : G3.at_ G.n = some (.lst (ps.map Pr.w)) := by rw [D3.2.1 _ (by omega), m2]; rfl
  have hN : G3.n = G.n + 1 := by rw [D3.1, n2, D1.1]; rfl
  refine ⟨⟨gs, ps⟩, some (.ref G.n), b6, some (.lst (gs.map W.int)), b8, b9, b10, G3.set m (.lst (acc ++ [Un.w ⟨gs, ps⟩])), ?_, ⟨⟨s3, by simp only; omega, fun p k => (s2 p k).ok, by simp only; omega, by simp only; omega⟩, l3, s2, by simp only; omega⟩, set_same, deck_set D3.deck hmn _, by rw [set_n]; omega, fun j a b c => ?_⟩
  · unfold t__law_some_paper_8
    refine Eq.trans (asg_nx newL) ?_
    unfold t__law_some_paper_7
    refine Eq.trans (seqN ((for_rng eg (rng_n (by omega))).trans e2)) ?_
    unfold t__law_some_paper_6
    refine Eq.trans (asg_nx e3) ?_
    unfold t__law_some_paper_5
    have et := tup2 (cTup_l (vr (G := G3) (ρ := [some (.ref n), a1, some (.int (most : Int)), some (.ref m), a4, some (.ref G.n), b6, some (.lst (gs.map W.int)), b8, b9, b10, a11]) (i := 7) (w := .lst (gs.map W.int)) rfl)) (cTuple_var (i := 5) hk3 rfl)
    exact app_step hm3 rfl et (by omega)
  · rw [set_ne c, D3.2.1 j b, k2 j b (by omega), D1.2.1 j b, push_ne (by omega)]
theorem sp_units {n m most : Nat} (hmn : m ≠ n) (a1 a11 : Option W) (h0 : 0 < most) (h1 : most ≤ 12) : ∀ (ws acc : List W) (G : GH) (a4 a5 a6 a7 a8 a9 a10 : Option W), Deck G n → G.at_ m = some (.lst acc) → n < G.n → m < G.n → acc.length + ws.length ≤ 100 →
    ∃ (us : List Un) (b4 b5 b6 b7 b8 b9 b10 : Option W) (G1 : GH), forF (tgName 4) t__law_some_paper_8 ws [some (.ref n), a1, some (.int (most : Int)), some (.ref m), a4, a5, a6, a7, a8, a9, a10, a11] G = .nx [some (.ref n), a1, some (.int (most : Int)), some (.ref m), b4, b5, b6, b7, b8, b9, b10, a11] G1 ∧ us.length = ws.length ∧ (∀ u ∈ us, u.sm) ∧ G1.at_ m = some (.lst (acc ++ us.map Un.w)) ∧ Deck G1 n ∧ G.n ≤ G1.n ∧ ∀ j, j < G.n → j ≠ n → j ≠ m → G1.at_ j = G.at_ j
  | [], acc, G, a4, a5, a6, a7, a8, a9, a10, h, hm, _, _, _ => ⟨[], a4, a5, a6, a7, a8, a9, a10, G, rfl, rfl, fun p m => absurd m (by simp), by rw [hm]; simp, h, Nat.le_refl _, fun _ _ _ _ => rfl⟩
  | w :: ws, acc, G, a4, a5, a6, a7, a8, a9, a10, h, hm, hn, hm1, hl => by
    obtain ⟨u, b5, b6, b7, b8, b9, b10, G1, e1, s1, m1, D1, n1, k1⟩ := sp_unit hmn a1 (some w) a5 a6 a7 a8 a9 a10 a11 h hm hn hm1 (by simp at hl; omega) h0 h1
    obtain ⟨us, c4, c5, c6, c7, c8, c9, c10, G2, e2, l2, s2, m2, D2, n2, k2⟩ := sp_units hmn a1 a11 h0 h1 ws (acc ++ [u.w]) G1 (some w) b5 b6 b7 b8 b9 b10 D1 m1 (by omega) (by omega) (by simp at hl ⊢; omega)
    refine ⟨u :: us, c4, c5, c6, c7, c8, c9, c10, G2, ?_, by simp [l2], fun q m => ?_, by rw [m2, List.append_assoc]; rfl, D2, by omega, fun j a b c => by rw [k2 j (by omega) b c]; exact k1 j a b c⟩
    · rw [forF_nx (ρ1 := [some (.ref n), a1, some (.int (most : Int)), some (.ref m), some w, a5, a6, a7, a8, a9, a10, a11]) (G1 := G) rfl e1]
      exact e2
    · rcases List.mem_cons.mp m with e | m
      · rw [e]; exact s1
      · exact s2 q m
/-- what stands stays, but for the deck -/
def KD (n : Nat) (G G' : GH) : Prop := G.n ≤ G'.n ∧ (∀ j, j < G.n → j ≠ n → G'.at_ j = G.at_ j) ∧ Deck G' n
theorem some_paper_ok {n units most : Nat} (h : Deck G n) (hn : n < G.n) (hu : units ≤ 6) (h0 : 0 < most) (h1 : most ≤ 12) : ∃ (us : List Un) (G' : GH), f__law_some_paper [.ref n, .int (units : Int), .int (most : Int)] G = .ok (papW us) G' ∧ us.length = units ∧ (∀ u ∈ us, u.sm) ∧ KD n G G' := by
  obtain ⟨us, b4, b5, b6, b7, b8, b9, b10, G1, e, l, s, m, D, N, k⟩ := sp_units (n := n) (m := G.n) (most := most) (by omega) (some (.int (units : Int))) none h0 h1 ((List.range units).map fun (k : Nat) => W.int (k : Int)) [] (G.push (.lst [])) none none none none none none none (deck_push h hn _) push_same (by rw [push_n]; omega) (by rw [push_n]; omega) (by simp; omega)
  refine ⟨us, G1, ?_, by rw [l]; simp, s, by rw [push_n] at N; omega, fun j a b => by rw [k j (by rw [push_n]; omega) b (by omega), push_ne (by omega)], D⟩
  rw [e__law_some_paper]
  unfold b__law_some_paper t__law_some_paper_11
  refine Eq.trans (congrArg (fun r => r.fin.calm) (asg_nx newL)) ?_
  unfold t__law_some_paper_10
  refine Eq.trans (congrArg (fun r => r.fin.calm) (seqN ((for_rng (one1 (vr rfl)) (rng_n (by omega))).trans e))) ?_
  unfold t__law_some_paper_9
  rw [retE (cTuple_var m rfl)]
  rfl
end
end Lw

set_option Elab.async false
set_option linter.all false
set_option maxRecDepth 100000
namespace Lw
open PySem PySem.Spec PyProof.Rows L2 Fn
mutual
/-- numbers, texts and short tuples of such -/
def pk : W → Bool
  | .int _ => true
  | .str _ => true
  | .tup ws => decide (ws.length ≤ 100) && pks ws
  | _ => false
def pks : List W → Bool
  | [] => true
  | w :: ws => pk w && pks ws
end
mutual
theorem pk_nb : ∀ w : W, pk w = true → w.nb = true
  | .int _, _ => rfl
  | .str _, _ => rfl
  | .tup ws, h => by
    simp only [pk, Bool.and_eq_true] at h
    simpa [W.nb] using pks_nb ws h.2
  | .non, h => by cases h
  | .bl _, h => by cases h
  | .lst _, h => by cases h
  | .dic _ _, h => by cases h
  | .ins _ _ _, h => by cases h
  | .ref _, h => by cases h
  | .op _, h => by cases h
  | .cl _, h => by cases h
theorem pks_nb : ∀ ws : List W, pks ws = true → W.nbs ws = true
  | [], _ => rfl
  | w :: ws, h => by
    simp only [pks, Bool.and_eq_true] at h
    simp only [W.nbs, pk_nb w h.1, pks_nb ws h.2, Bool.and_self]
end
theorem pks_app : ∀ a b : List W, pks (a ++ b) = (pks a && pks b)
  | [], b => rfl
  | x :: a, b => by
    rw [List.cons_append, pks, pks, pks_app a b, Bool.and_assoc]
theorem pks_map {α : Type} {f : α → W} : ∀ {l : List α}, (∀ a ∈ l, pk (f a) = true) → pks (l.map f) = true
  | [], _ => rfl
  | a :: l, h => by
    rw [List.map_cons, pks, h a (List.mem_cons_self), pks_map fun b m => h b (List.mem_cons_of_mem _ m)]
    rfl
section
variable {G : GH}
theorem isa_t {i : Nat} {ρ : En} {w : W} {T : String} {b : Bool} (x : ρ[i]? = some (some w)) (h : w.nb = true) (e : isaW T w = some b) : gTru (gCall cIsa (gCons (gVar i) (gCons (gC (.op (.ty T))) gNil))) ρ G = .ok b G := by
  refine tru ?_
  rw [gCall_ev, gCons_ev, vr x, bind_ok, gCons_ev, gC_ev, bind_ok, gNil_ev, bind_ok, bind_ok, bind_ok, cIsa_nb h e]
theorem isaT_i {i : Nat} {ρ : En} {n : Int} (x : ρ[i]? = some (some (.int n))) : gTru (gIsaT ["int", "str"] (gVar i)) ρ G = .ok true G := by
  refine tru ?_
  unfold gIsaT
  rw [vr x, bind_ok]
  simp only [show isaAny "int" ["int", "str"] = some true from by decide +kernel]
theorem isaT_s {i : Nat} {ρ : En} {n : Str} (x : ρ[i]? = some (some (.str n))) : gTru (gIsaT ["int", "str"] (gVar i)) ρ G = .ok true G := by
  refine tru ?_
  unfold gIsaT
  rw [vr x, bind_ok]
  simp only [show isaAny "str" ["int", "str"] = some true from by decide +kernel]
theorem add_own {k : Nat} {us vs : List W} (h : G.at_ k = some (.lst us)) (hl : us.length + vs.length ≤ 1000000) : fAddL true (.ref k) (.lst vs) G = .ok (.ref G.n) (G.push (.lst (us ++ vs))) := by
  show (match lsq G (.ref k), lsq G (.lst vs) with | some i, some j => if i.length + j.length ≤ sizeLine then mkL true (i ++ j) G else .no | _, _ => .no) = _
  have e : lsq G (.ref k) = some us := by unfold lsq; simp only [h]
  rw [e]
  show (if us.length + vs.length ≤ sizeLine then mkL true (us ++ vs) G else .no) = _
  rw [if_pos (by rw [sizeLine_eq]; omega), mkL_true]
theorem last_of : ∀ {us : List W}, us ≠ [] → ∃ l w, us = l ++ [w]
  | [], h => absurd rfl h
  | [x], _ => ⟨[], x, rfl⟩
  | x :: y :: r, _ => by
    obtain ⟨l, w, e⟩ := last_of (us := y :: r) (by simp)
    exact ⟨x :: l, w, by rw [e]; rfl⟩
theorem pkL_for {p : W} : ∀ (ws us : List W) (G : GH) (n0 k : Nat) (x y : Option W), pks us = true → G.at_ k = some (.lst us) → n0 ≤ k → k < G.n → us.length + ws.length * 100 ≤ 900000 →
    ∃ G', (((forF (tgName 2) t__law_plain_kinds_3 ws [some p, some (.ref k), x, y] G).seq t__law_plain_kinds_4).fin).calm = .ok (.bl true) G' ∧ G.n ≤ G'.n ∧ ∀ j, j < n0 → G'.at_ j = G.at_ j
  | [], us, G, n0, k, x, y, hp, hm, _, _, hl => ⟨G, rfl, Nat.le_refl _, fun _ _ => rfl⟩
  | w :: ws, us, G, n0, k, x, y, hp, hm, h0, hk, hl => by
    by_cases he : us = []
    · subst he
      refine ⟨G, ?_, Nat.le_refl _, fun _ _ => rfl⟩
      rw [forF_rt (ρ1 := [some p, some (.ref k), some w, y]) (G1 := G) (v := .bl true) (G2 := G) rfl]
      · rfl
      · unfold t__law_plain_kinds_3
        have te : gTru (gVar 1) [some p, some (.ref k), some w, y] G = .ok false G := by
          rw [gTru_ev, vr rfl, bind_ok]
          unfold asTru truW
          simp only [hm]
          rfl
        rw [seq_if_t (notT te), ret_c, seq_rt]
    · obtain ⟨l, v, rfl⟩ := last_of he
      rw [pks_app, Bool.and_eq_true] at hp
      have hv : pk v = true := by have := hp.2; rw [pks, pks, Bool.and_true] at this; exact this
      have te : gTru (gVar 1) [some p, some (.ref k), some w, y] G = .ok true G := by
        rw [gTru_ev, vr rfl, bind_ok]
        unfold asTru truW
        simp only [hm]
        simp
      have em : gMt "list" mPop (gVar 1) gNil [some p, some (.ref k), some w, y] G = .ok v (G.set k (.lst l)) := by
        unfold gMt
        rw [vr (w := .ref k) rfl, bind_ok, if_pos (isTy_at hm), gNil_ev, bind_ok, mPop_at hm]
      have go : t__law_plain_kinds_3 [some p, some (.ref k), some w, y] G = t__law_plain_kinds_1 [some p, some (.ref k), some w, some v] (G.set k (.lst l)) := by
        unfold t__law_plain_kinds_3
        refine Eq.trans (seq_if_f (notT te)) ?_
        rw [gNext_ev, seq_nx]
        unfold t__law_plain_kinds_2
        exact asg_nx em
      have hl2 : (l ++ [v]).length = l.length + 1 := by simp
      rw [hl2, List.length_cons] at hl
      have nxt : ∀ (G2 : GH) (k2 : Nat) (us2 : List W), t__law_plain_kinds_1 [some p, some (.ref k), some w, some v] (G.set k (.lst l)) = .nx [some p, some (.ref k2), some w, some v] G2 → pks us2 = true → G2.at_ k2 = some (.lst us2) → n0 ≤ k2 → k2 < G2.n → us2.length ≤ l.length + 100 → G.n ≤ G2.n → (∀ j, j < n0 → G2.at_ j = G.at_ j) → ∃ G', (((forF (tgName 2) t__law_plain_kinds_3 (w :: ws) [some p, some (.ref k), x, y] G).seq t__law_plain_kinds_4).fin).calm = .ok (.bl true) G' ∧ G.n ≤ G'.n ∧ ∀ j, j < n0 → G'.at_ j = G.at_ j := fun G2 k2 us2 e a b c d f g hh => by
        obtain ⟨G', e', n', k'⟩ := pkL_for ws us2 G2 n0 k2 (some w) (some v) a b c d (by omega)
        refine ⟨G', ?_, by omega, fun j z => by rw [k' j z, hh j z]⟩
        rw [forF_nx (ρ1 := [some p, some (.ref k), some w, y]) (G1 := G) rfl (go.trans e)]
        exact e'
      cases v with
      | tup vs =>
        simp only [pk, Bool.and_eq_true, decide_eq_true_eq] at hv
        refine nxt ((G.set k (.lst l)).push (.lst (l ++ vs))) G.n (l ++ vs) ?_ (by rw [pks_app, hp.1, hv.2]; rfl) push_same (by omega) (by show G.n < G.n + 1; omega) (by simp; omega) (by show G.n ≤ G.n + 1; omega) fun j z => by rw [push_ne (by show j ≠ G.n; omega), set_ne (by omega)]
        unfold t__law_plain_kinds_1
        rw [gIfS_ev, isa_t (b := true) (w := .tup vs) rfl (pk_nb _ (by simp only [pk, hv.2, Bool.and_true, decide_eq_true_eq]; exact hv.1)) (by rfl), thn_ok, if_pos rfl]
        refine asg_only (w := .ref G.n) ?_
        have el : gCall (cList false) (gCons (gVar 3) gNil) [some p, some (.ref k), some w, some (.tup vs)] (G.set k (.lst l)) = .ok (.lst vs) (G.set k (.lst l)) := by
          rw [gCall_ev, gCons_ev, vr (w := .tup vs) rfl, bind_ok, gNil_ev, bind_ok, bind_ok]
          rfl
        exact op2 (vr rfl) el (add_own set_same (by omega))
      | int i =>
        refine nxt (G.set k (.lst l)) k l ?_ hp.1 set_same h0 hk (by omega) (Nat.le_refl _) fun j z => set_ne (by omega)
        unfold t__law_plain_kinds_1
        rw [if_only_f (isa_t (w := .int i) rfl rfl (by rfl)), if_only_f (orF (isa_t (w := .int i) rfl rfl (by rfl)) (notT (isaT_i rfl)))]
        rfl
      | str i =>
        refine nxt (G.set k (.lst l)) k l ?_ hp.1 set_same h0 hk (by omega) (Nat.le_refl _) fun j z => set_ne (by omega)
        unfold t__law_plain_kinds_1
        rw [if_only_f (isa_t (w := .str i) rfl rfl (by rfl)), if_only_f (orF (isa_t (w := .str i) rfl rfl (by rfl)) (notT (isaT_s rfl)))]
        rfl
      | _ => cases hv
theorem plain_kinds_ok {p : W} (h : pk p = true) : ∃ G', f__law_plain_kinds [p] G = .ok (.bl true) G' ∧ Grow G G' := by
  rw [e__law_plain_kinds]
  unfold b__law_plain_kinds t__law_plain_kinds_6
  have e1 : gLst true (gCons (gVar 0) gNil) [some p, none, none, none] G = .ok (.ref G.n) (G.push (.lst [p])) := by
    rw [gLst_ev, gCons_ev, vr (w := p) rfl, bind_ok, gNil_ev, bind_ok, bind_ok, if_pos (len_le' (by simp)), mkL_true]
  obtain ⟨G', e, n', k'⟩ := pkL_for (p := p) (rngW 0 4000) [p] (G.push (.lst [p])) G.n G.n none none (by rw [pks, h]; rfl) push_same (Nat.le_refl _) (Nat.lt_succ_self _) (by rw [rngW0]; simp)
  refine ⟨G', ?_, by rw [push_n] at n'; omega, fun j z => by rw [k' j z, push_ne (by omega)]⟩
  refine Eq.trans (congrArg (fun r => r.fin.calm) (asg_nx e1)) ?_
  unfold t__law_plain_kinds_5
  have er : gFor (iRng asRng1 (gCons (gC (.int 4000)) gNil)) (tgName 2) t__law_plain_kinds_3 [some p, some (.ref G.n), none, none] (G.push (.lst [p])) = forF (tgName 2) t__law_plain_kinds_3 (rngW 0 4000) [some p, some (.ref G.n), none, none] (G.push (.lst [p])) := for_rng (one1 gC_ev) (rng_ok (m := 4000) (by omega))
  refine Eq.trans (congrArg (fun r => r.fin.calm) (gSeq_ev _ _)) ?_
  refine Eq.trans (congrArg (fun r => ((RS.seq r t__law_plain_kinds_4).fin).calm) er) ?_
  exact e
end
end Lw

set_option Elab.async false
set_option linter.all false
set_option maxRecDepth 100000
namespace Lw
open PySem PySem.Spec PyProof.Rows L2 Fn
theorem deps_map {α : Type} {f : α → W} {k : Nat} : ∀ {l : List α}, (∀ a ∈ l, (f a).dep ≤ k) → W.deps (l.map f) ≤ k
  | [], _ => by simp [W.deps]
  | a :: l, h => by
    have h1 := h a (List.mem_cons_self)
    have h2 := deps_map fun b m => h b (List.mem_cons_of_mem _ m)
    simp only [List.map_cons, W.deps]
    omega
theorem ints_dep (ns : List Int) : W.deps (ns.map W.int) ≤ 0 := deps_map fun n _ => by simp [W.dep]
theorem tl_dep (t : Tl) : t.w.dep ≤ 1 := by
  cases t <;> simp [Tl.w, Tl.ns, W.dep, W.deps]
theorem pr_dep (p : Pr) : p.w.dep ≤ 4 := by
  have h1 : W.deps (p.stack.map twoW) ≤ 1 := deps_map fun s _ => by simp [twoW, W.dep, W.deps]
  have h2 : W.deps (p.fs.map fW) ≤ 2 := deps_map fun f _ => by have := tl_dep f.2; simp [fW, W.dep, W.deps]; omega
  have h3 : W.deps (p.ss.map sW) ≤ 2 := deps_map fun s _ => by have := tl_dep s.2; simp [sW, W.dep, W.deps]; omega
  simp only [Pr.w, W.dep, W.deps]
  omega
theorem un_dep (u : Un) : u.w.dep ≤ 6 := by
  have h1 := ints_dep u.goes
  have h2 : W.deps (u.pairs.map Pr.w) ≤ 4 := deps_map fun p _ => pr_dep p
  simp only [Un.w, W.dep, W.deps]
  omega
theorem pap_dep (us : List Un) : (papW us).dep ≤ 7 := by
  have h : W.deps (us.map Un.w) ≤ 6 := deps_map fun u _ => un_dep u
  simp only [papW, W.dep]
  omega
theorem tl_pk (t : Tl) : pk t.w = true := by cases t <;> rfl
theorem pk_tup {ws : List W} (h : ws.length ≤ 100) (h2 : pks ws = true) : pk (.tup ws) = true := by
  simp only [pk, Bool.and_eq_true, decide_eq_true_eq]
  exact ⟨h, h2⟩
theorem pr_pk {p : Pr} (h : p.ok) : pk p.w = true := by
  have fl := h.fl
  have gl := h.gl
  have h1 : pk (.tup (p.stack.map twoW)) = true := pk_tup (by rcases h.s with e | e <;> simp [e]) (pks_map fun s _ => rfl)
  have h2 : pk (.tup (p.fs.map fW)) = true := pk_tup (by simp; omega) (pks_map fun f _ => pk_tup (by simp) (by simp only [pks, tl_pk]; rfl))
  have h3 : pk (.tup (p.ss.map sW)) = true := pk_tup (by simp; omega) (pks_map fun f _ => pk_tup (by simp) (by simp only [pks, tl_pk]; rfl))
  exact pk_tup (by simp) (by simp only [pks, h1, h2, h3]; rfl)
theorem un_pk {u : Un} (h : u.ok) : pk u.w = true := by
  have gl := h.gl
  have p2 := h.p2
  have h1 : pk (.tup (u.goes.map .int)) = true := pk_tup (by simp; omega) (pks_map fun s _ => rfl)
  have h2 : pk (.tup (u.pairs.map Pr.w)) = true := pk_tup (by simp; omega) (pks_map fun p m => pr_pk (h.p p m))
  exact pk_tup (by simp) (by simp only [pks, h1, h2]; rfl)
theorem pap_pk {us : List Un} (h : PapOk us) : pk (papW us) = true := pk_tup (by have := h.2; simp; omega) (pks_map fun u m => un_pk (h.1 u m))
section
variable {G : GH}
theorem asked_ok {us : List Un} (h : PapOk us) : ∃ G', f__law_asked [papW us] G = .ok (.bl true) G' ∧ Grow G G' := by
  have hp := pk_nb _ (pap_pk h)
  have hd := pap_dep us
  obtain ⟨G1, e1, g1⟩ := paper_text_ok (G := G) h
  obtain ⟨G2, e2, g2⟩ := write_likeness_ok (G := G1) h
  obtain ⟨G3, e3, g3⟩ := read_likeness_ok (G := G2) h
  obtain ⟨G4, e4, g4⟩ := plain_kinds_ok (G := G3) (pap_pk h)
  obtain ⟨G5, e5, g5⟩ := write_likeness_ok (G := G4) h
  refine ⟨G5, ?_, (((g1.trans g2).trans g3).trans g4).trans g5⟩
  rw [e__law_asked]
  unfold b__law_asked t__law_asked_6
  refine Eq.trans (congrArg (fun r => r.fin.calm) (asg_nx (call1 (vr (w := papW us) rfl) e1))) ?_
  unfold t__law_asked_5
  refine Eq.trans (congrArg (fun r => r.fin.calm) (asg_nx (call1 (vr (w := papW us) rfl) e2))) ?_
  unfold t__law_asked_4
  have t1 : gOrT (gNotT (gTru (gCall cIsa (gCons (gVar 2) (gCons (gC (.op (.ty "str"))) gNil))))) (gTest (gOp fNe (gVar 2) (gVar 1))) [some (papW us), some (.str (papT us)), some (.str (papT us)), none] G2 = .ok false G2 :=
    orF (notT (isa_t (b := true) (w := .str (papT us)) rfl rfl (by rfl))) (tst (op2 (vr rfl) (vr rfl) (by rw [fNe_s, decide_eq_true rfl]; rfl)))
  refine Eq.trans (congrArg (fun r => r.fin.calm) ((seq_if_f t1).trans (by rw [gNext_ev, seq_nx]))) ?_
  unfold t__law_asked_3
  refine Eq.trans (congrArg (fun r => r.fin.calm) (asg_nx (call1 (vr (w := .str (papT us)) rfl) e3))) ?_
  unfold t__law_asked_2
  have t2 : gOrT (gNotT (gTru (gCall cIsa (gCons (gVar 3) (gCons (gC (.op (.ty "tuple"))) gNil))))) (gOrT (gTest (gOp fNe (gVar 3) (gVar 0))) (gNotT (gTru (gCall (cFn 1 f__law_plain_kinds) (gCons (gVar 3) gNil))))) [some (papW us), some (.str (papT us)), some (.str (papT us)), some (papW us)] G3 = .ok false G4 :=
    orF (notT (isa_t (b := true) (w := papW us) rfl hp (by rfl))) (orF (tst (op2 (vr rfl) (vr rfl) (by rw [fNe_nb hp hp (by omega), eqW_self hp]; rfl))) (notT (tru (call1 (vr (w := papW us) rfl) e4))))
  refine Eq.trans (congrArg (fun r => r.fin.calm) ((seq_if_f t2).trans (by rw [gNext_ev, seq_nx]))) ?_
  unfold t__law_asked_1
  refine Eq.trans (congrArg (fun r => r.fin.calm) (retE (op2 (call1 (vr (w := papW us) rfl) e5) (vr (w := .str (papT us)) rfl) (fEq_s _ _)))) ?_
  rw [decide_eq_true rfl]
  rfl
end
end Lw

set_option Elab.async false
set_option linter.all false
set_option maxRecDepth 100000
namespace Lw
open PySem PySem.Spec PyProof.Rows L2 Fn
section
variable {G : GH}
/-! ### one number is changed -/
abbrev EC (n : Nat) (P : W) (un at_ pick : Int) (ps : W) (gs : List Int) (p : Pr) : En :=
  [some (.ref n), some P, some (.int un), some (.int at_), some (.int pick), some ps, some (.tup (gs.map .int)), some (.tup (p.stack.map twoW)), some (.int p.place), some (.tup (p.fs.map fW)), some (.tup (p.ss.map sW))]
/-- what a changed pair and its goes keep -/
structure Ch (gs : List Int) (p : Pr) : Prop where
  q : p.ok
  g : ∀ n ∈ gs, Nn n
  gl : gs.length ≤ 3
  f2 : p.fs.length ≤ 2
  s2 : p.ss.length ≤ 3
variable {n : Nat} {P ps : W} {un at_ pick : Int} {gs : List Int} {p : Pr}
theorem if_asg {c : FT} {e : FE} {i : Nat} {k : FS} {ρ : En} {w : W} {G1 : GH} (hc : c ρ G = .ok true G) (he : e ρ G = .ok w G1) : gSeq (gIfS c (gAsg e (tgName i)) gNext) k ρ G = k (ρ.set i (some w)) G1 := by
  rw [seq_if_t hc, asg_only he, seq_nx]
theorem if_not {c : FT} {a : FS} {k : FS} {ρ : En} (hc : c ρ G = .ok false G) : gSeq (gIfS c a gNext) k ρ G = k ρ G := by
  rw [seq_if_f hc, gNext_ev, seq_nx]
theorem ch6 (h : Deck G n) (c : Ch gs p) : ∃ p' G', t__law_one_changed_6 (EC n P un at_ pick ps gs p) G = t__law_one_changed_5 (EC n P un at_ pick ps gs p') G' ∧ Ch gs p' ∧ p'.ss.length = p.ss.length ∧ Drawn n G G' := by
  have tp := eq_t (G := G) (ρ := EC n P un at_ pick ps gs p) (g := gVar 4) (a := pick) (k := 0) (vr rfl)
  unfold t__law_one_changed_6
  by_cases k0 : pick = 0
  · rw [decide_eq_true k0] at tp
    obtain ⟨d, G1, e1, d0, d1, D1⟩ := drawE (i := 0) (ρ := EC n P un at_ pick ps gs p) (gm := gC (.int 40)) h rfl gC_ev (by decide) (by decide)
    refine ⟨⟨p.stack, d - 20, p.fs, p.ss⟩, G1, if_asg tp (op2 e1 gC_ev (fSub_i d 20)), ⟨⟨c.q.s, c.q.sn, by show Nn (d - 20); unfold Nn; omega, c.q.f, c.q.g, c.q.fl, c.q.gl⟩, c.g, c.gl, c.f2, c.s2⟩, rfl, D1⟩
  · rw [decide_eq_false k0] at tp
    exact ⟨p, G, if_not tp, c, rfl, Drawn.refl h⟩
theorem ch5 (h : Deck G n) (c : Ch gs p) (hg : gs.length ≤ 2) : ∃ gs' G', t__law_one_changed_5 (EC n P un at_ pick ps gs p) G = t__law_one_changed_4 (EC n P un at_ pick ps gs' p) G' ∧ Ch gs' p ∧ Drawn n G G' := by
  have tp := eq_t (G := G) (ρ := EC n P un at_ pick ps gs p) (g := gVar 4) (a := pick) (k := 1) (vr rfl)
  unfold t__law_one_changed_5
  by_cases k0 : pick = 1
  · rw [decide_eq_true k0] at tp
    obtain ⟨d, G1, e1, d1, D1⟩ := anyE (i := 0) (ρ := EC n P un at_ pick ps gs p) h rfl
    have e2 : gOp (fAddL false) (gVar 6) (gTup (gCons (gCall (cFn 1 f__law_any) (gCons (gVar 0) gNil)) gNil)) (EC n P un at_ pick ps gs p) G = .ok (.tup ((gs ++ [d]).map .int)) G1 := by
      rw [List.map_append]
      exact op2 (vr rfl) (tup1 e1) (add_tup (by simp; omega))
    exact ⟨gs ++ [d], G1, if_asg tp e2, ⟨c.q, fun n m => by
      rcases List.mem_append.mp m with m | m
      · exact c.g n m
      · rw [List.mem_singleton.mp m]; exact d1, by simp; omega, c.f2, c.s2⟩, D1⟩
  · rw [decide_eq_false k0] at tp
    exact ⟨gs, G, if_not tp, c, Drawn.refl h⟩
theorem ch4 (h : Deck G n) (c : Ch gs p) (hs : p.ss.length ≤ 2) : ∃ p' G', t__law_one_changed_4 (EC n P un at_ pick ps gs p) G = t__law_one_changed_3 (EC n P un at_ pick ps gs p') G' ∧ Ch gs p' ∧ Drawn n G G' := by
  have tp := eq_t (G := G) (ρ := EC n P un at_ pick ps gs p) (g := gVar 4) (a := pick) (k := 2) (vr rfl)
  unfold t__law_one_changed_4
  by_cases k0 : pick = 2
  · rw [decide_eq_true k0] at tp
    obtain ⟨d, G1, e1, d1, D1⟩ := anyE (i := 0) (ρ := EC n P un at_ pick ps gs p) h rfl
    obtain ⟨t, G2, e2, t2, D2⟩ := toldE (i := 0) (ρ := EC n P un at_ pick ps gs p) D1.deck rfl
    have e3 : gOp (fAddL false) (gVar 10) (gTup (gCons (gTup (gCons (gCall (cFn 1 f__law_any) (gCons (gVar 0) gNil)) (gCons (gCall (cFn 1 f__law_some_told) (gCons (gVar 0) gNil)) gNil))) gNil)) (EC n P un at_ pick ps gs p) G = .ok (.tup ((p.ss ++ [(d, t)]).map sW)) G2 := by
      rw [List.map_append]
      exact op2 (vr rfl) (tup1 (tup2 e1 e2)) (add_tup (by simp; omega))
    exact ⟨⟨p.stack, p.place, p.fs, p.ss ++ [(d, t)]⟩, G2, if_asg tp e3, ⟨⟨c.q.s, c.q.sn, c.q.pl, c.q.f, fun s m => by
      rcases List.mem_append.mp m with m | m
      · exact c.q.g s m
      · rw [List.mem_singleton.mp m]; exact ⟨d1, t2⟩, c.q.fl, by simp; omega⟩, c.g, c.gl, c.f2, by simp; omega⟩, D1.trans D2⟩
  · rw [decide_eq_false k0] at tp
    exact ⟨p, G, if_not tp, c, Drawn.refl h⟩
theorem ch3 (h : Deck G n) (c : Ch gs p) : ∃ p' G', t__law_one_changed_3 (EC n P un at_ pick ps gs p) G = t__law_one_changed_2 (EC n P un at_ pick ps gs p') G' ∧ Ch gs p' ∧ Drawn n G G' := by
  have tp := eq_t (G := G) (ρ := EC n P un at_ pick ps gs p) (g := gVar 4) (a := pick) (k := 3) (vr rfl)
  unfold t__law_one_changed_3
  by_cases k0 : pick = 3
  · rw [decide_eq_true k0] at tp
    obtain ⟨d, G1, e1, d1, D1⟩ := anyE (i := 0) (ρ := EC n P un at_ pick ps gs p) h rfl
    obtain ⟨st, pl, fs, ss⟩ := p
    have cs := c.q.s
    simp only at cs
    match st, cs with
    | s :: r, hr =>
      have hr2 : r.length ≤ 1 := by rcases hr with e | e <;> (rw [List.length_cons] at e; omega)
      have i1 : gOp fIx (gOp fIx (gVar 7) (gC (.int 0))) (gC (.int 1)) (EC n P un at_ pick ps gs ⟨s :: r, pl, fs, ss⟩) G1 = .ok (.int s.2) G1 := op2 (op2 (vr (w := .tup ((s :: r).map twoW)) rfl) gC_ev (w := twoW s) (G3 := G1) (by rw [fIx_tup, List.map_cons, atI_0]; rfl)) gC_ev rfl
      have e3 : gOp (fAddL false) (gTup (gCons (gTup (gCons (gCall (cFn 1 f__law_any) (gCons (gVar 0) gNil)) (gCons (gOp fIx (gOp fIx (gVar 7) (gC (.int 0))) (gC (.int 1))) gNil))) gNil)) (gSlX false (gVar 7) (gPart (gC (.int 1))) gNoPart) (EC n P un at_ pick ps gs ⟨s :: r, pl, fs, ss⟩) G = .ok (.tup (((d, s.2) :: r).map twoW)) G1 := by
        refine op2 (tup1 (tup2 e1 i1)) (slT1 (ws := (s :: r).map twoW) rfl) ?_
        rw [add_tup (by simp; omega)]
        rfl
      exact ⟨⟨(d, s.2) :: r, pl, fs, ss⟩, G1, if_asg tp e3, ⟨⟨by simpa using hr, fun x m => by
        rcases List.mem_cons.mp m with e | m
        · rw [e]; exact ⟨d1, (c.q.sn s (List.mem_cons_self)).2⟩
        · exact c.q.sn x (List.mem_cons_of_mem _ m), c.q.pl, c.q.f, c.q.g, c.q.fl, c.q.gl⟩, c.g, c.gl, c.f2, c.s2⟩, D1⟩
    | [], hr => exact absurd hr (by simp)
  · rw [decide_eq_false k0] at tp
    exact ⟨p, G, if_not tp, c, Drawn.refl h⟩
end
end Lw

set_option Elab.async false
set_option linter.all false
set_option maxRecDepth 100000
namespace Lw
open PySem PySem.Spec PyProof.Rows L2 Fn
/-- one of a list is another -/
def put {α : Type} (l : List α) (k : Nat) (x : α) : List α := l.take k ++ [x] ++ l.drop (k + 1)
theorem put_len {α : Type} {l : List α} {k : Nat} {x : α} (h : k < l.length) : (put l k x).length = l.length := by
  unfold put
  simp; omega
theorem put_all {α : Type} {Q : α → Prop} {l : List α} {k : Nat} {x : α} (h : ∀ a ∈ l, Q a) (hx : Q x) : ∀ a ∈ put l k x, Q a := fun a m => by
  unfold put at m
  rcases List.mem_append.mp m with m | m
  · rcases List.mem_append.mp m with m | m
    · exact h a (List.mem_of_mem_take m)
    · rw [List.mem_singleton.mp m]; exact hx
  · exact h a (List.mem_of_mem_drop m)
theorem put_map {α β : Type} {f : α → β} {l : List α} {k : Nat} {x : α} : (put l k x).map f = (l.map f).take k ++ [f x] ++ (l.map f).drop (k + 1) := by
  unfold put
  simp
section
variable {G : GH}
theorem slTo {i j k : Nat} {ρ : En} {ws : List W} (h : ρ[i]? = some (some (.tup ws))) (hk : ρ[j]? = some (some (.int (k : Int)))) : gSlX false (gVar i) gNoPart (gPart (gVar j)) ρ G = .ok (.tup (ws.take k)) G := by
  unfold gSlX
  rw [vr h, bind_ok, gNoPart_ev, bind_ok, gPart_ev, vr hk, bind_ok]
  show fSlX false (.tup ws) none (some (k : Int)) G = _
  rw [fSl_t, cut_at]
theorem slBehind {i j k : Nat} {ρ : En} {ws : List W} (h : ρ[i]? = some (some (.tup ws))) (hk : ρ[j]? = some (some (.int (k : Int)))) : gSlX false (gVar i) (gPart (gOp (fAddL false) (gVar j) (gC (.int 1)))) gNoPart ρ G = .ok (.tup (ws.drop (k + 1))) G := by
  unfold gSlX
  rw [vr h, bind_ok, gPart_ev, op2 (vr hk) gC_ev (fAdd_i false (k : Int) 1), bind_ok]
  show fSlX false (.tup ws) (some ((k : Int) + 1)) none G = _
  rw [fSl_t, show (k : Int) + 1 = ((k + 1 : Nat) : Int) by omega, cut_from]
theorem put_ev {i j k : Nat} {ρ : En} {ws : List W} {a : FE} {w : W} (h : ρ[i]? = some (some (.tup ws))) (hk : ρ[j]? = some (some (.int (k : Int)))) (ha : a ρ G = .ok w G) (hl : ws.length ≤ 1000) :
    gOp (fAddL false) (gOp (fAddL false) (gSlX false (gVar i) gNoPart (gPart (gVar j))) (gTup (gCons a gNil))) (gSlX false (gVar i) (gPart (gOp (fAddL false) (gVar j) (gC (.int 1)))) gNoPart) ρ G = .ok (.tup (ws.take k ++ [w] ++ ws.drop (k + 1))) G :=
  op2 (op2 (slTo h hk) (tup1 ha) (add_tup (by simp; omega))) (slBehind h hk) (add_tup (by simp; omega))
theorem fIx_t {ws : List W} {k : Nat} {w : W} (h : ws[k]? = some w) : fIx (.tup ws) (.int (k : Int)) G = .ok w G := by
  rw [fIx_tup, atI_at (by omega) (by rw [Int.toNat_natCast]; exact h)]
  rfl
theorem lenT {i : Nat} {ρ : En} {ws : List W} (h : ρ[i]? = some (some (.tup ws))) : gCall cLen (gCons (gVar i) gNil) ρ G = .ok (.int (ws.length : Int)) G := by
  rw [gCall_ev, gCons_ev, vr h, bind_ok, gNil_ev, bind_ok, bind_ok, cLen_tup]
theorem one_changed_ok {n : Nat} {us : List Un} (h : Deck G n) (hs : ∀ u ∈ us, u.sm) (hl : us.length ≤ 10) (h0 : us ≠ []) : ∃ us' G', f__law_one_changed [.ref n, papW us] G = .ok (papW us') G' ∧ PapOk us' ∧ Drawn n G G' := by
  have hpos : 0 < us.length := List.length_pos_iff.mpr h0
  obtain ⟨un, G1, e1, hun, D1⟩ := drawN (ρ := [some (.ref n), some (papW us), none, none, none, none, none, none, none, none, none]) (gm := gCall cLen (gCons (gVar 1) gNil)) (m := us.length) h rfl (by rw [lenT (ws := us.map Un.w) rfl, List.length_map]) hpos (by omega)
  have hu : us[un]? = some us[un] := List.getElem?_eq_getElem hun
  have su := hs us[un] (List.getElem_mem hun)
  generalize us[un] = u at hu su
  have p1 := su.ok.p1
  have p2 := su.p2
  obtain ⟨at_, G2, e2, hat, D2⟩ := drawN (ρ := [some (.ref n), some (papW us), some (.int (un : Int)), none, none, some (.tup (u.pairs.map Pr.w)), some (.tup (u.goes.map .int)), none, none, none, none]) (gm := gCall cLen (gCons (gVar 5) gNil)) (m := u.pairs.length) D1.deck rfl (by rw [lenT (ws := u.pairs.map Pr.w) rfl, List.length_map]) (by omega) (by omega)
  have hp : u.pairs[at_]? = some u.pairs[at_] := List.getElem?_eq_getElem hat
  have sp := su.p u.pairs[at_] (List.getElem_mem hat)
  generalize u.pairs[at_] = p at hp sp
  obtain ⟨pick, G3, e3, _, _, D3⟩ := drawE (i := 0) (m := 4) (ρ := [some (.ref n), some (papW us), some (.int (un : Int)), some (.int (at_ : Int)), none, some (.tup (u.pairs.map Pr.w)), some (.tup (u.goes.map .int)), some (.tup (p.stack.map twoW)), some (.int p.place), some (.tup (p.fs.map fW)), some (.tup (p.ss.map sW))]) (gm := gC (.int 4)) D2.deck rfl gC_ev (by decide) (by decide)
  have c0 : Ch u.goes p := ⟨sp.ok, su.ok.g, by have := su.g; omega, sp.f, by have := sp.g; omega⟩
  obtain ⟨q1, G4, f1, c1, l1, E1⟩ := ch6 (P := papW us) (un := un) (at_ := at_) (pick := pick) (ps := .tup (u.pairs.map Pr.w)) D3.deck c0
  obtain ⟨gs, G5, f2, c2, E2⟩ := ch5 (P := papW us) (un := un) (at_ := at_) (pick := pick) (ps := .tup (u.pairs.map Pr.w)) E1.deck c1 su.g
  obtain ⟨q2, G6, f3, c3, E3⟩ := ch4 (P := papW us) (un := un) (at_ := at_) (pick := pick) (ps := .tup (u.pairs.map Pr.w)) E2.deck c2 (by rw [l1]; exact sp.g)
  obtain ⟨q3, G7, f4, c4, E4⟩ := ch3 (P := papW us) (un := un) (at_ := at_) (pick := pick) (ps := .tup (u.pairs.map Pr.w)) E3.deck c3
  have okU : Un.ok ⟨gs, put u.pairs at_ q3⟩ := ⟨c4.g, by have := c4.gl; simp only; omega, put_all su.ok.p c4.q, by simp only; rw [put_len hat]; exact p1, by simp only; rw [put_len hat]; omega⟩
  refine ⟨put us un ⟨gs, put u.pairs at_ q3⟩, G7, ?_, ⟨put_all (fun v m => (hs v m).ok) okU, by rw [put_len hun]; exact hl⟩, (((((D1.trans D2).trans D3).trans E1).trans E2).trans E3).trans E4⟩
  rw [e__law_one_changed]
  unfold b__law_one_changed t__law_one_changed_11
  refine Eq.trans (congrArg (fun r => r.fin.calm) (asg_nx e1)) ?_
  unfold t__law_one_changed_10
  have i1 : gOp fIx (gVar 1) (gVar 2) [some (.ref n), some (papW us), some (.int (un : Int)), none, none, none, none, none, none, none, none] G1 = .ok u.w G1 := op2 (vr (w := .tup (us.map Un.w)) rfl) (vr rfl) (fIx_t (by rw [List.getElem?_map, hu]; rfl))
  have s1 : gAsg (gOp fIx (gVar 1) (gVar 2)) (tgTup 2 (tgCons (tgName 6) (tgCons (tgName 5) tgNil))) [some (.ref n), some (papW us), some (.int (un : Int)), none, none, none, none, none, none, none, none] G1 = .nx [some (.ref n), some (papW us), some (.int (un : Int)), none, none, some (.tup (u.pairs.map Pr.w)), some (.tup (u.goes.map .int)), none, none, none, none] G1 := by
    rw [gAsg_ev, i1, thn_ok]
    rfl
  refine Eq.trans (congrArg (fun r => r.fin.calm) (seqN s1)) ?_
  unfold t__law_one_changed_9
  refine Eq.trans (congrArg (fun r => r.fin.calm) (asg_nx e2)) ?_
  unfold t__law_one_changed_8
  have i2 : gOp fIx (gVar 5) (gVar 3) [some (.ref n), some (papW us), some (.int (un : Int)), some (.int (at_ : Int)), none, some (.tup (u.pairs.map Pr.w)), some (.tup (u.goes.map .int)), none, none, none, none] G2 = .ok p.w G2 := op2 (vr (w := .tup (u.pairs.map Pr.w)) rfl) (vr rfl) (fIx_t (by rw [List.getElem?_map, hp]; rfl))
  have s2 : gAsg (gOp fIx (gVar 5) (gVar 3)) (tgTup 4 (tgCons (tgName 7) (tgCons (tgName 8) (tgCons (tgName 9) (tgCons (tgName 10) tgNil))))) [some (.ref n), some (papW us), some (.int (un : Int)), some (.int (at_ : Int)), none, some (.tup (u.pairs.map Pr.w)), some (.tup (u.goes.map .int)), none, none, none, none] G2 = .nx [some (.ref n), some (papW us), some (.int (un : Int)), some (.int (at_ : Int)), none, some (.tup (u.pairs.map Pr.w)), some (.tup (u.goes.map .int)), some (.tup (p.stack.map twoW)), some (.int p.place), some (.tup (p.fs.map fW)), some (.tup (p.ss.map sW))] G2 := by
    rw [gAsg_ev, i2, thn_ok]
    rfl
  refine Eq.trans (congrArg (fun r => r.fin.calm) (seqN s2)) ?_
  unfold t__law_one_changed_7
  refine Eq.trans (congrArg (fun r => r.fin.calm) (asg_nx e3)) ?_
  refine Eq.trans (congrArg (fun r => r.fin.calm) (((f1.trans f2).trans f3).trans f4)) ?_
  unfold t__law_one_changed_2
  have e5 := put_ev (G := G7) (ρ := EC n (papW us) un at_ pick (.tup (u.pairs.map Pr.w)) gs q3) (i := 5) (j := 3) (k := at_) (ws := u.pairs.map Pr.w) (a := gTup (gCons (gVar 7) (gCons (gVar 8) (gCons (gVar 9) (gCons (gVar 10) gNil))))) (w := q3.w) rfl rfl (tup4 (vr rfl) (vr rfl) (vr rfl) (vr rfl)) (by simp; omega)
  rw [← put_map] at e5
  refine Eq.trans (congrArg (fun r => r.fin.calm) (asg_nx e5)) ?_
  unfold t__law_one_changed_1
  have e6 := put_ev (G := G7) (ρ := EC n (papW us) un at_ pick (.tup ((put u.pairs at_ q3).map Pr.w)) gs q3) (i := 1) (j := 2) (k := un) (ws := us.map Un.w) (a := gTup (gCons (gVar 6) (gCons (gVar 5) gNil))) (w := Un.w ⟨gs, put u.pairs at_ q3⟩) rfl rfl (tup2 (vr rfl) (vr rfl)) (by simp; omega)
  rw [← put_map] at e6
  exact congrArg (fun r => r.fin.calm) (retE e6)
end
end Lw

set_option Elab.async false
set_option linter.all false
set_option maxRecDepth 100000
namespace Lw
open PySem PySem.Spec PyProof.Rows L2 Fn
section
variable {G : GH}
theorem deck_grow {n : Nat} {G G' : GH} (h : Deck G n) (g : Grow G G') (hn : n < G.n) : Deck G' n := by
  obtain ⟨c, a, b, t, l, z, e⟩ := h
  exact ⟨c, a, b, t, l, z, by rw [g.2 n hn]; exact e⟩
theorem call3 {f : FC} {g1 g2 g3 : FE} {ρ : En} {w1 w2 w3 v : W} {G1 G2 G3 G4 : GH} (h1 : g1 ρ G = .ok w1 G1) (h2 : g2 ρ G1 = .ok w2 G2) (h3 : g3 ρ G2 = .ok w3 G3) (h4 : f [w1, w2, w3] G3 = .ok v G4) : gCall (cFn 3 f) (gCons g1 (gCons g2 (gCons g3 gNil))) ρ G = .ok v G4 := by
  rw [gCall_ev, gCons_ev, h1, bind_ok, gCons_ev, h2, bind_ok, gCons_ev, h3, bind_ok, gNil_ev, bind_ok, bind_ok, bind_ok, bind_ok, cFn_ev (n := 3) (ws := [w1, w2, w3]) rfl, h4, calm_ok]
theorem law_end1 (ρ : En) : ∃ G', t_law_1 ρ G = .rt (.bl true) G' := by
  have h0 : PapOk [] := ⟨fun u m => absurd m (by simp), by simp⟩
  obtain ⟨G1, e1, _⟩ := write_likeness_ok (G := G) h0
  obtain ⟨G2, e2, _⟩ := read_likeness_ok (G := G1) h0
  have et : ∀ G : GH, gTup gNil ρ G = .ok (papW []) G := fun G => by
    rw [gTup_ev, gNil_ev, bind_ok, if_pos (len_le' (by simp))]
    rfl
  have ep : papT [] = Str.ofString "" := by decide +kernel
  rw [ep] at e1 e2
  refine ⟨G2, ?_⟩
  unfold t_law_1
  refine retE (andV (op2 (call1 (et G) e1) gC_ev (by rw [fEq_s, decide_eq_true rfl])) (op2 (call1 gC_ev e2) (et G2) ?_))
  rw [fEq_nb rfl rfl (by simp [papW, W.dep, W.deps])]
  rfl
theorem law_rest {n : Nat} {us : List Un} {s : Option W} (h : Deck G n) (hn : n < G.n) (hs : ∀ u ∈ us, u.sm) (hl : us.length ≤ 10) : ∃ G', t_law_3 [s, some (.ref n), some (papW us), none] G = .rt (.bl true) G' := by
  have hp : PapOk us := ⟨fun u m => (hs u m).ok, hl⟩
  obtain ⟨G1, e1, g1⟩ := asked_ok (G := G) hp
  unfold t_law_3
  have t1 : gNotT (gTru (gCall (cFn 1 f__law_asked) (gCons (gVar 2) gNil))) [s, some (.ref n), some (papW us), none] G = .ok false G1 := notT (tru (call1 (vr rfl) e1))
  have s1 := (seq_if_f (a := gRet (gC (.bl false))) (b := gNext) (k := t_law_2) t1).trans (by rw [gNext_ev, seq_nx])
  by_cases h0 : us = []
  · subst h0
    have tp : gTru (gVar 2) [s, some (.ref n), some (papW []), none] G1 = .ok false G1 := by rw [gTru_ev, vr rfl, bind_ok]; rfl
    obtain ⟨G2, e2⟩ := law_end1 (G := G1) [s, some (.ref n), some (papW []), none]
    refine ⟨G2, s1.trans ?_⟩
    unfold t_law_2
    exact (if_not tp).trans e2
  · have tp : gTru (gVar 2) [s, some (.ref n), some (papW us), none] G1 = .ok true G1 := by
      rw [gTru_ev, vr rfl, bind_ok]
      unfold papW
      rw [asTru_tup]
      cases us with
      | nil => exact absurd rfl h0
      | cons u us => rfl
    have D1 := deck_grow h g1 hn
    obtain ⟨vs, G2, e2, hv, D2⟩ := one_changed_ok D1 hs hl h0
    obtain ⟨G3, e3, g3⟩ := asked_ok (G := G2) hv
    obtain ⟨G4, e4, g4⟩ := asked_ok (G := G3) hp
    obtain ⟨G5, e5⟩ := law_end1 (G := G4) [s, some (.ref n), some (papW us), some (papW vs)]
    refine ⟨G5, s1.trans ?_⟩
    unfold t_law_2
    refine Eq.trans (seq_if_t tp) ?_
    have c1 : gSeq (gAsg (gCall (cFn 2 f__law_one_changed) (gCons (gVar 1) (gCons (gVar 2) gNil))) (tgName 3)) (gIfS (gOrT (gNotT (gTru (gCall (cFn 1 f__law_asked) (gCons (gVar 3) gNil)))) (gNotT (gTru (gCall (cFn 1 f__law_asked) (gCons (gVar 2) gNil))))) (gRet (gC (.bl false))) gNext) [s, some (.ref n), some (papW us), none] G1 = .nx [s, some (.ref n), some (papW us), some (papW vs)] G4 := by
      refine Eq.trans (asg_nx (call2 (vr rfl) (vr rfl) e2)) ?_
      have t2 : gOrT (gNotT (gTru (gCall (cFn 1 f__law_asked) (gCons (gVar 3) gNil)))) (gNotT (gTru (gCall (cFn 1 f__law_asked) (gCons (gVar 2) gNil)))) [s, some (.ref n), some (papW us), some (papW vs)] G2 = .ok false G4 := orF (notT (tru (call1 (vr rfl) e3))) (notT (tru (call1 (vr rfl) e4)))
      exact (if_only_f t2).trans (gNext_ev)
    rw [c1, seq_nx]
    exact e5
theorem law_true (ns : List Int) (h : ns.length ≤ 63) : ∃ G, f_law [.lst (ns.map W.int)] G0 = .ok (.bl true) G := by
  have D0 := deck_at (G := G0) h
  have e0 := deck_ok (G := G0) h
  generalize hG : G0.push (.lst [.lst (ns.map .int), .int 0, .int 0, .int 0]) = G1 at D0 e0
  have hN : G1.n = G0.n + 1 := by rw [← hG]; rfl
  generalize G0.n = n at D0 e0 hN
  have fin : ∀ {r : RS}, (∃ G', r = .rt (.bl true) G') → ∃ G, r.fin.calm = .ok (.bl true) G := fun ⟨G', e⟩ => ⟨G', by rw [e]; rfl⟩
  rw [e_law]
  unfold b_law t_law_6
  refine fin ?_
  obtain ⟨d, G2, e2, hd, D2⟩ := drawE (i := 1) (m := 6) (ρ := [some (.lst (ns.map W.int)), some (.ref n), none, none]) (gm := gC (.int 6)) D0 rfl gC_ev (by decide) (by decide)
  obtain ⟨k, rfl⟩ := Int.eq_ofNat_of_zero_le hd
  obtain ⟨us, G3, e3, l3, s3, K3⟩ := some_paper_ok (units := k) (most := 3) D2.2.deck (by rw [D2.2.1, hN]; omega) (by have := D2.1; omega) (by decide) (by decide)
  have hn3 : n < G3.n := by have := K3.1; have := D2.2.1; omega
  have hk : us.length ≤ 5 := by rw [l3]; have := D2.1; omega
  obtain ⟨p, G4, e4, p0, p1, D4⟩ := drawE (i := 1) (m := 4) (ρ := [some (.lst (ns.map W.int)), some (.ref n), some (papW us), none]) (gm := gC (.int 4)) K3.2.2 rfl gC_ev (by decide) (by decide)
  have hn4 : n < G4.n := by rw [D4.1]; exact hn3
  have go : ∃ G', t_law_4 [some (.lst (ns.map W.int)), some (.ref n), some (papW us), none] G3 = .rt (.bl true) G' := by
    unfold t_law_4
    by_cases z : p = 0
    · have tz : gTest (gOp fEq (gCall (cFn 2 f__law_draw) (gCons (gVar 1) (gCons (gC (.int 4)) gNil))) (gC (.int 0))) [some (.lst (ns.map W.int)), some (.ref n), some (papW us), none] G3 = .ok true G4 := tst (op2 e4 gC_ev (by rw [fEq_i, decide_eq_true z]))
      obtain ⟨vs, G5, e5, l5, s5, K5⟩ := some_paper_ok (units := 1) (most := 12) D4.deck hn4 (by decide) (by decide) (by decide)
      have hn5 : n < G5.n := by have := K5.1; omega
      have ea : gOp (fAddL false) (gVar 2) (gCall (cFn 3 f__law_some_paper) (gCons (gVar 1) (gCons (gC (.int 1)) (gCons (gC (.int 12)) gNil)))) [some (.lst (ns.map W.int)), some (.ref n), some (papW us), none] G4 = .ok (papW (us ++ vs)) G5 := by
        refine op2 (vr (w := papW us) rfl) (call3 (vr rfl) gC_ev gC_ev e5) ?_
        unfold papW
        rw [add_tup (by simp; omega), List.map_append]
      obtain ⟨G6, e6⟩ := law_rest (s := some (.lst (ns.map W.int))) K5.2.2 hn5 (us := us ++ vs) (fun u m => by
        rcases List.mem_append.mp m with m | m
        · exact s3 u m
        · exact s5 u m) (by simp; omega)
      refine ⟨G6, ?_⟩
      refine Eq.trans (seq_if_t tz) ?_
      rw [asg_only ea, seq_nx]
      exact e6
    · have tz : gTest (gOp fEq (gCall (cFn 2 f__law_draw) (gCons (gVar 1) (gCons (gC (.int 4)) gNil))) (gC (.int 0))) [some (.lst (ns.map W.int)), some (.ref n), some (papW us), none] G3 = .ok false G4 := tst (op2 e4 gC_ev (by rw [fEq_i, decide_eq_false z]))
      obtain ⟨G6, e6⟩ := law_rest (s := some (.lst (ns.map W.int))) D4.deck hn4 s3 (by omega)
      refine ⟨G6, ?_⟩
      refine Eq.trans (seq_if_f tz) ?_
      rw [gNext_ev, seq_nx]
      exact e6
  obtain ⟨G', eg⟩ := go
  refine ⟨G', ?_⟩
  refine Eq.trans (asg_nx (call1 (vr rfl) e0)) ?_
  unfold t_law_5
  refine Eq.trans (asg_nx (call3 (vr rfl) e2 gC_ev e3)) ?_
  exact eg
end
end Lw

set_option Elab.async false
set_option linter.all false
set_option maxRecDepth 100000
namespace Lw
open PySem PySem.Spec PyProof.Rows L2 Fn
theorem fin {l : PySem.W.OpenLaw} {w : World} {K : PySem.W.Frag} {h : Heap} {mg : Str → Option Value} {fa : Addr} (X : K.In h) (G : h.Ns mainGlobals mg) (hfa : mg "law" = some (.ref fa)) (hT : ∃ T : Tx K w mg, T.a_law = fa) :
    ∃ fd : FuncData, (∀ (s : Shared) (v : Value), BindsTo s fd ⟨[v], []⟩ [("script", v)]) ∧ ∀ base : Heap, K.In base → base.Ns mainGlobals mg → FnOk l.prog w K mg base CX0 12 fa fd ["script"] (spLaw K) := by
  obtain ⟨T, rfl⟩ := hT
  exact ⟨T.d_law, law_binds T.F_law (fun _ _ _ _ _ _ _ => rfl), fun base _ _ => (ok_law T).imp (law_end law_true)⟩
end Lw
open PySem PySem.W PyProof.Rows
set_option maxHeartbeats 0 in
theorem PySem.Challenge.cw_swornlike_k45_texts_of_papers_holds : PySem.Challenge.rw_swornlike_k45_texts_of_papers.Holds := by
  w_on; o_law; k_head; (case hw => w_witness2)
  k_fill
  refine L2.walk_of (l := PySem.Challenge.rw_swornlike_k45_texts_of_papers) (n := 63) (k := 12) (x := "script") (CX := fun _ => L2.CX0) (sp := fun w => Fn.spLaw _) rfl (by decide) rfl ⟨rfl, by decide, by decide⟩ (fun w h Y => PySem.W.kIn_of Y) ?F (fun _ _ a ns hl _ hS => ⟨a, ns, rfl, hS, hl, fun _ => rfl⟩) (fun _ _ _ _ _ h => h)
  case F =>
    intro w mg fa h KX G hmg
    refine' Lw.fin KX G hmg (Lw.all_mk KX G hmg ?a0 ?l0 ?c0 ?k0 ?a1 ?l1 ?c1 ?k1 ?a2 ?l2 ?c2 ?k2 ?a3 ?l3 ?c3 ?k3 ?a4 ?l4 ?c4 ?k4 ?a5 ?l5 ?c5 ?k5 ?a6 ?l6 ?c6 ?k6 ?a7 ?l7 ?c7 ?k7 ?a8 ?l8 ?c8 ?k8 ?a9 ?i9 ?l9 ?c9 ?k9 ?a10 ?l10 ?c10 ?k10 ?a11 ?l11 ?c11 ?k11 ?a12 ?l12 ?c12 ?k12 ?a13 ?l13 ?c13 ?k13 ?a14 ?l14 ?c14 ?k14 ?a15 ?l15 ?c15 ?k15 ?a16 ?l16 ?c16 ?k16 ?a17 ?l17 ?c17 ?k17 ?a18 ?i18 ?l18 ?c18 ?k18 ?a19 ?i19 ?l19 ?c19 ?k19 ?a20 ?i20 ?l20 ?c20 ?k20 ?a21 ?i21 ?l21 ?c21 ?k21 ?a22 ?l22 ?c22 ?k22 ?a23 ?l23 ?c23 ?k23 ?a24 ?l24 ?c24 ?k24 ?a25 ?l25 ?c25 ?k25 ?a26 ?l26 ?c26 ?k26 ?aC0 ?pg0 ?hd0 ?po0 ?sa0 ?mk0 ?kc0 ?nf0_rows ?nf0_at ?z0 ?z1 ?z2 ?z3 ?z4 ?z5 ?z6 ?z7 ?u0 ?u1 ?u2 ?v2 ?u3 ?v3 ?y3 ?r3)
    (case aC0 => k_is); (case a0 => k_is); (case a1 => k_is); (case a2 => k_is); (case a3 => k_is); (case a4 => k_is); (case a5 => k_is); (case a6 => k_is); (case a7 => k_is); (case a8 => k_is); (case a9 => k_is); (case a10 => k_is); (case a11 => k_is); (case a12 => k_is); (case a13 => k_is); (case a14 => k_is); (case a15 => k_is); (case a16 => k_is); (case a17 => k_is); (case a18 => k_is); (case a19 => k_is); (case a20 => k_is); (case a21 => k_is); (case a22 => k_is); (case a23 => k_is); (case a24 => k_is); (case a25 => k_is); (case a26 => k_is); (case i9 => k_is); (case i18 => k_is); (case i19 => k_is); (case i20 => k_is); (case i21 => k_is); (case pg0 => k_is); (case hd0 => k_is); (case po0 => k_is); (case sa0 => k_is); (case mk0 => k_is); (case kc0 => k_is); (case nf0_rows => k_is); (case nf0_at => k_is); (case l0 => k_is); (case l1 => k_is); (case l2 => k_is); (case l3 => k_is); (case l4 => k_is); (case l5 => k_is); (case l6 => k_is); (case l7 => k_is); (case l8 => k_is); (case l9 => k_is); (case l10 => k_is); (case l11 => k_is); (case l12 => k_is); (case l13 => k_is); (case l14 => k_is); (case l15 => k_is); (case l16 => k_is); (case l17 => k_is); (case l18 => k_is); (case l19 => k_is); (case l20 => k_is); (case l21 => k_is); (case l22 => k_is); (case l23 => k_is); (case l24 => k_is); (case l25 => k_is); (case l26 => k_is); (case c0 => k_is); (case c1 => k_is); (case c2 => k_is); (case c3 => k_is); (case c4 => k_is); (case c5 => k_is); (case c6 => k_is); (case c7 => k_is); (case c8 => k_is); (case c9 => k_is); (case c10 => k_is); (case c11 => k_is); (case c12 => k_is); (case c13 => k_is); (case c14 => k_is); (case c15 => k_is); (case c16 => k_is); (case c17 => k_is); (case c18 => k_is); (case c19 => k_is); (case c20 => k_is); (case c21 => k_is); (case c22 => k_is); (case c23 => k_is); (case c24 => k_is); (case c25 => k_is); (case c26 => k_is); (case k0 => k_is); (case k1 => k_is); (case k2 => k_is); (case k3 => k_is); (case k4 => k_is); (case k5 => k_is); (case k6 => k_is); (case k7 => k_is); (case k8 => k_is); (case k9 => k_is); (case k10 => k_is); (case k11 => k_is); (case k12 => k_is); (case k13 => k_is); (case k14 => k_is); (case k15 => k_is); (case k16 => k_is); (case k17 => k_is); (case k18 => k_is); (case k19 => k_is); (case k20 => k_is); (case k21 => k_is); (case k22 => k_is); (case k23 => k_is); (case k24 => k_is); (case k25 => k_is); (case k26 => k_is); (case z0 => k_is); (case z1 => k_is); (case z2 => k_is); (case z3 => k_is); (case z4 => k_is); (case z5 => k_is); (case z6 => k_is); (case z7 => k_is); (case u0 => k_is); (case u1 => k_is); (case u2 => k_is); (case v2 => k_is); (case u3 => k_is); (case v3 => k_is); (case y3 => rfl); (case r3 => rfl)
