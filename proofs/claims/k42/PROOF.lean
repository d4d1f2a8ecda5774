import PyProof.Rows.All
import Wide.All
import OpenK.AllK
import Wide.FinOn
import HandS.ForMost
import HandS.Wide
import HandS.Style
import HandS.TupAny
import HandS.Flow
import KE.DataEq
import KE.DataIsa
import HandS.RevRange
import HandS.Rev
import KE.DataAny
import KE.DataMinMax
import HandS.SortKw
import HandS.More
import HandS.Strs
import HandS.DictComp
import KE.GoesMore
import KE.GoesEnum
import HandS.Small
import HandS.WordsDict
import PySem.Challenge.RW_swornlike_k42_steps_and_heads
set_option Elab.async false
set_option linter.all false
set_option maxRecDepth 100000
namespace Fn
open PySem PySem.Spec PyProof.Rows L2

/-- a value as data; refs are the numbers of owned objects -/
inductive W where
  | non | bl (b : Bool) | int (i : Int) | str (x : Str)
  | tup (ws : List W) | lst (ws : List W)
  | dic (ks : List Key) (ws : List W)
  | ins (c : Nat) (fs : List Str) (ws : List W)
  | ref (n : Nat)
  | op (v : V)

inductive AO where
  | lst (ws : List W)
  | dic (ks : List Key) (ws : List W)
  | ins (c : Nat) (fs : List Str) (ws : List W)

structure GH where
  n : Nat
  at_ : Nat → Option AO

def GH.set (G : GH) (i : Nat) (o : AO) : GH := ⟨G.n, fun j => if j = i then some o else G.at_ j⟩
def GH.del (G : GH) (i : Nat) : GH := ⟨G.n, fun j => if j = i then none else G.at_ j⟩
def GH.push (G : GH) (o : AO) : GH := ⟨G.n + 1, fun j => if j = G.n then some o else G.at_ j⟩

/-- an exception: its class, its fields -/
structure Xn where
  c : Nat
  fs : List Str
  ws : List W

inductive R (α : Type) where
  | ok (a : α) (G : GH)
  | ex (x : Xn) (G : GH)
  | no
def R.bind {α β : Type} (r : R α) (f : α → GH → R β) : R β := match r with
  | .ok a G => f a G
  | .ex x G => .ex x G
  | .no => .no

/-- what of the module the relation knows -/
structure Gm where
  K : PySem.W.Frag
  cls : Nat → Addr
  w : World

/-- a dict of the top, by its entries -/
structure KTab (K : PySem.W.Frag) (w : World) (a : Addr) (tab : List (Key × V)) : Prop where
  at_ : ∃ es n, K.lookup a = some ⟨.type "dict", none, .dict es n, #[]⟩ ∧ Paired (fun (e : DictEntry) (kv : Key × V) => keyIs kv.1 e.key = true ∧ e.hash = keyH w kv.1 ∧ RelV kv.2 e.val) es.toList tab
  low : (a == sysModules) = false
  nd : (tab.map (·.1)).Nodup

mutual
inductive Rp (Γ : Gm) (O : Addr → Prop) (ι : List Addr) (H : Hp) : V → W → Prop
  | non : Rp Γ O ι H .non .non
  | bl (b : Bool) : Rp Γ O ι H (.bl b) (.bl b)
  | int (i : Int) : Rp Γ O ι H (.int i) (.int i)
  | str (x : Str) : Rp Γ O ι H (.str x) (.str x)
  | tup {a : Addr} {xs : List V} {ws : List W} : SqT Γ.K H a xs → RpAll Γ O ι H xs ws → Rp Γ O ι H (.ref a) (.tup ws)
  | lst {a : Addr} {xs : List V} {ws : List W} : Rd H a (.lst xs) → ¬ O a → RpAll Γ O ι H xs ws → Rp Γ O ι H (.ref a) (.lst ws)
  | lstK {a : Addr} {xs : List V} {ws : List W} {o : Obj} {its : Array Value} {n : Nat} : Γ.K.lookup a = some o → o.cls = .type "list" → o.dict = none → o.data = .seq its n → its.size ≤ sizeLine → Vals xs its.toList →
      RpAll Γ O ι H xs ws → Rp Γ O ι H (.ref a) (.lst ws)
  | dic {a : Addr} {ks : List Key} {xs : List V} {ws : List W} : Rd H a (.dK (ks.zip xs)) → ks.length = xs.length → ¬ O a → RpAll Γ O ι H xs ws → Rp Γ O ι H (.ref a) (.dic ks ws)
  | dicK {a : Addr} {ks : List Key} {xs : List V} {ws : List W} : KTab Γ.K Γ.w a (ks.zip xs) → ks.length = xs.length → RpAll Γ O ι H xs ws → Rp Γ O ι H (.ref a) (.dic ks ws)
  | ins {a dx : Addr} {c : Nat} {fs : List Str} {xs : List V} {ws : List W} : H a = some (.ins (Γ.cls c) dx (fs.zip xs)) → fs.length = xs.length → ¬ O a → RpAll Γ O ι H xs ws → Rp Γ O ι H (.ref a) (.ins c fs ws)
  | ref {n : Nat} {a : Addr} : ι[n]? = some a → Rp Γ O ι H (.ref a) (.ref n)
  | op (v : V) : Rp Γ O ι H v (.op v)
inductive RpAll (Γ : Gm) (O : Addr → Prop) (ι : List Addr) (H : Hp) : List V → List W → Prop
  | nil : RpAll Γ O ι H [] []
  | cons {v : V} {w : W} {vs : List V} {ws : List W} : Rp Γ O ι H v w → RpAll Γ O ι H vs ws → RpAll Γ O ι H (v :: vs) (w :: ws)
end

def Own (ι : List Addr) (G : GH) (a : Addr) : Prop := ∃ n o, G.at_ n = some o ∧ ι[n]? = some a

inductive ROb (Γ : Gm) (O : Addr → Prop) (ι : List Addr) (H : Hp) : HO → AO → Prop
  | lst {xs : List V} {ws : List W} : RpAll Γ O ι H xs ws → ROb Γ O ι H (.lst xs) (.lst ws)
  | dic {ks : List Key} {xs : List V} {ws : List W} : ks.length = xs.length → RpAll Γ O ι H xs ws → ROb Γ O ι H (.dK (ks.zip xs)) (.dic ks ws)
  | ins {dx : Addr} {c : Nat} {fs : List Str} {xs : List V} {ws : List W} : fs.length = xs.length → RpAll Γ O ι H xs ws → ROb Γ O ι H (.ins (Γ.cls c) dx (fs.zip xs)) (.ins c fs ws)

/-- a configuration -/
structure Cf where
  ι : List Addr
  G : GH
  H : Hp
  B : Addr → Prop          -- lists that a comprehension fills: no value speaks of them
abbrev Cf.Ow (c : Cf) : Addr → Prop := Own c.ι c.G
def Cf.O (c : Cf) : Addr → Prop := fun a => c.Ow a ∨ c.B a
abbrev Cf.Rp (Γ : Gm) (c : Cf) : V → W → Prop := Fn.Rp Γ c.O c.ι c.H
abbrev Cf.RpAll (Γ : Gm) (c : Cf) : List V → List W → Prop := Fn.RpAll Γ c.O c.ι c.H

/-- what may be hidden -/
inductive Hd where
  | l (xs : List V)
  | d (kvs : List (Key × V))
def Hd.ho : Hd → HO
  | .l xs => .lst xs
  | .d kvs => .dK kvs
structure SR (Γ : Gm) (c : Cf) : Prop where
  len : c.ι.length = c.G.n
  nd : c.ι.Nodup
  all : ∀ a ∈ c.ι, c.H a ≠ none
  obj : ∀ n o, c.G.at_ n = some o → ∃ a ho, c.ι[n]? = some a ∧ c.H a = some ho ∧ ROb Γ c.O c.ι c.H ho o
  hid : ∀ a, c.B a → (∃ x : Hd, c.H a = some x.ho) ∧ a ∉ c.ι

structure Stp (c c' : Cf) : Prop where
  pre : ∀ (n : Nat) (a : Addr), c.ι[n]? = some a → c'.ι[n]? = some a
  keep : ∀ a o, c.H a = some o → ¬ c.Ow a → c'.H a = some o
  there : ∀ a, c.H a ≠ none → c'.H a ≠ none
  own : ∀ a, c'.Ow a → c.Ow a ∨ c.H a = none
  bl : c'.B = c.B

theorem Stp.refl (c : Cf) : Stp c c := ⟨fun _ _ h => h, fun _ _ h _ => h, fun _ h => h, fun _ h => .inl h, rfl⟩
theorem Stp.trans {a b c : Cf} (x : Stp a b) (y : Stp b c) : Stp a c where
  pre := fun n p h => y.pre n p (x.pre n p h)
  keep := fun p o h n => y.keep p o (x.keep p o h n) fun q => by
    rcases x.own p q with z | z
    · exact n z
    · rw [h] at z; cases z
  there := fun p h => y.there p (x.there p h)
  own := fun p h => by
    rcases y.own p h with z | z
    · exact x.own p z
    · cases q : a.H p with
      | none => exact .inr rfl
      | some o => exact absurd z (x.there p (by rw [q]; simp))
  bl := y.bl.trans x.bl

/-- what is owned is a list, a dict, an instance -/
theorem SR.notTup {Γ : Gm} {c : Cf} (s : SR Γ c) {a : Addr} {xs : List V} (h : c.H a = some (.tup xs)) : ¬ c.O a := fun q => by
  rcases q with ⟨n, o, e, f⟩ | q
  · obtain ⟨b, ho, e1, e2, r⟩ := s.obj n o e
    rw [f] at e1; cases e1
    rw [h] at e2; cases e2
    cases r
  · obtain ⟨⟨xs, e⟩, _⟩ := s.hid a q
    rw [h] at e; cases xs <;> cases e
theorem SR.notFrz {Γ : Gm} {c : Cf} (s : SR Γ c) {a : Addr} {o : Obj} {u : HO} (h : c.H a = some (.frz o u)) : ¬ c.O a := fun q => by
  rcases q with ⟨n, o, e, f⟩ | q
  · obtain ⟨b, ho, e1, e2, r⟩ := s.obj n o e
    rw [f] at e1; cases e1
    rw [h] at e2; cases e2
    cases r
  · obtain ⟨⟨xs, e⟩, _⟩ := s.hid a q
    rw [h] at e; cases xs <;> cases e
theorem Cf.ow {c : Cf} {a : Addr} (n : ¬ c.O a) : ¬ c.Ow a := fun q => n (.inl q)

/-- less than a step: what is hidden may change, and more may be hidden -/
structure StpW (c c' : Cf) : Prop where
  pre : ∀ (n : Nat) (a : Addr), c.ι[n]? = some a → c'.ι[n]? = some a
  keep : ∀ a o, c.H a = some o → ¬ c.O a → c'.H a = some o
  there : ∀ a, c.H a ≠ none → c'.H a ≠ none
  own : ∀ a, c'.O a → c.O a ∨ c.H a = none
theorem StpW.refl (c : Cf) : StpW c c := ⟨fun _ _ h => h, fun _ _ h _ => h, fun _ h => h, fun _ h => .inl h⟩
theorem StpW.trans {a b c : Cf} (x : StpW a b) (y : StpW b c) : StpW a c where
  pre := fun n p h => y.pre n p (x.pre n p h)
  keep := fun p o h n => y.keep p o (x.keep p o h n) fun q => by
    rcases x.own p q with z | z
    · exact n z
    · rw [h] at z; cases z
  there := fun p h => y.there p (x.there p h)
  own := fun p h => by
    rcases y.own p h with z | z
    · exact x.own p z
    · cases q : a.H p with
      | none => exact .inr rfl
      | some o => exact absurd z (x.there p (by rw [q]; simp))
theorem Stp.w {c c' : Cf} (x : Stp c c') : StpW c c' := ⟨x.pre, fun a o h n => x.keep a o h (Cf.ow n), x.there, fun a h => by
  rcases h with h | h
  · rcases x.own a h with z | z
    · exact .inl (.inl z)
    · exact .inr z
  · rw [x.bl] at h
    exact .inl (.inr h)⟩
theorem Rd.there {H : Hp} {a : Addr} {u : HO} (h : Rd H a u) : H a ≠ none := by
  rcases h with h | ⟨o, h⟩ <;> rw [h] <;> simp
theorem StpW.rd {c c' : Cf} (x : StpW c c') {a : Addr} {u : HO} (n : ¬ c.O a) (h : Rd c.H a u) : Rd c'.H a u := by
  rcases h with h | ⟨o, h⟩
  · exact .inl (x.keep _ _ h n)
  · exact .inr ⟨o, x.keep _ _ h n⟩
theorem StpW.sqT {Γ : Gm} {c c' : Cf} (s : SR Γ c) (x : StpW c c') {a : Addr} {xs : List V} (h : SqT Γ.K c.H a xs) : SqT Γ.K c'.H a xs := by
  rcases h with (h | ⟨o, h⟩) | h
  · exact .inl (.inl (x.keep _ _ h (s.notTup h)))
  · exact .inl (.inr ⟨o, x.keep _ _ h (s.notFrz h)⟩)
  · exact .inr h
theorem StpW.notO {c c' : Cf} (x : StpW c c') {a : Addr} (n : ¬ c.O a) (h : c.H a ≠ none) : ¬ c'.O a := fun q => by
  rcases x.own a q with z | z
  · exact n z
  · exact h z

mutual
theorem StpW.rp {Γ : Gm} {c c' : Cf} (s : SR Γ c) (x : StpW c c') : ∀ {v : V} {w : W}, c.Rp Γ v w → c'.Rp Γ v w
  | _, _, .non => .non
  | _, _, .bl b => .bl b
  | _, _, .int i => .int i
  | _, _, .str y => .str y
  | _, _, .tup h r => .tup (x.sqT s h) (StpW.rpAll s x r)
  | _, _, .lst h n r => .lst (x.rd n h) (x.notO n (Rd.there h)) (StpW.rpAll s x r)
  | _, _, .lstK a b e d z v r => .lstK a b e d z v (StpW.rpAll s x r)
  | _, _, .dic h l n r => .dic (x.rd n h) l (x.notO n (Rd.there h)) (StpW.rpAll s x r)
  | _, _, .dicK h l r => .dicK h l (StpW.rpAll s x r)
  | _, _, .ins h l n r => .ins (x.keep _ _ h n) l (x.notO n (by rw [h]; simp)) (StpW.rpAll s x r)
  | _, _, .ref h => .ref (x.pre _ _ h)
  | _, _, .op v => .op v
theorem StpW.rpAll {Γ : Gm} {c c' : Cf} (s : SR Γ c) (x : StpW c c') : ∀ {vs : List V} {ws : List W}, c.RpAll Γ vs ws → c'.RpAll Γ vs ws
  | _, _, .nil => .nil
  | _, _, .cons h t => .cons (StpW.rp s x h) (StpW.rpAll s x t)
end
theorem Stp.rp {Γ : Gm} {c c' : Cf} (s : SR Γ c) (x : Stp c c') {v : V} {w : W} (h : c.Rp Γ v w) : c'.Rp Γ v w := x.w.rp s h
theorem Stp.rpAll {Γ : Gm} {c c' : Cf} (s : SR Γ c) (x : Stp c c') {vs : List V} {ws : List W} (h : c.RpAll Γ vs ws) : c'.RpAll Γ vs ws := x.w.rpAll s h
theorem Stp.sqT {Γ : Gm} {c c' : Cf} (s : SR Γ c) (x : Stp c c') {a : Addr} {xs : List V} (h : SqT Γ.K c.H a xs) : SqT Γ.K c'.H a xs := x.w.sqT s h

theorem RpAll.length {Γ : Gm} {O : Addr → Prop} {ι : List Addr} {H : Hp} : ∀ {vs : List V} {ws : List W}, RpAll Γ O ι H vs ws → vs.length = ws.length
  | _, _, .nil => rfl
  | _, _, .cons _ t => by simp [RpAll.length t]
theorem RpAll.get {Γ : Gm} {O : Addr → Prop} {ι : List Addr} {H : Hp} : ∀ {vs : List V} {ws : List W} {i : Nat} {w : W}, RpAll Γ O ι H vs ws → ws[i]? = some w → ∃ v, vs[i]? = some v ∧ Rp Γ O ι H v w
  | _, _, _, _, .nil, e => by simp at e
  | _, _, 0, _, .cons h _, e => by simp at e; subst e; exact ⟨_, rfl, h⟩
  | _, _, i + 1, w, .cons _ t, e => by
    obtain ⟨v, h1, h2⟩ := RpAll.get (i := i) (w := w) t (by simpa using e)
    exact ⟨v, by simpa using h1, h2⟩
theorem RpAll.getV {Γ : Gm} {O : Addr → Prop} {ι : List Addr} {H : Hp} : ∀ {vs : List V} {ws : List W} {i : Nat} {v : V}, RpAll Γ O ι H vs ws → vs[i]? = some v → ∃ w, ws[i]? = some w ∧ Rp Γ O ι H v w
  | _, _, _, _, .nil, e => by simp at e
  | _, _, 0, _, .cons h _, e => by simp at e; subst e; exact ⟨_, rfl, h⟩
  | _, _, i + 1, w, .cons _ t, e => by
    obtain ⟨v, h1, h2⟩ := RpAll.getV (i := i) (v := w) t (by simpa using e)
    exact ⟨v, by simpa using h1, h2⟩
theorem RpAll.append {Γ : Gm} {O : Addr → Prop} {ι : List Addr} {H : Hp} : ∀ {vs vs' : List V} {ws ws' : List W}, RpAll Γ O ι H vs ws → RpAll Γ O ι H vs' ws' → RpAll Γ O ι H (vs ++ vs') (ws ++ ws')
  | _, _, _, _, .nil, s => s
  | _, _, _, _, .cons h t, s => .cons h (RpAll.append t s)
theorem RpAll.take {Γ : Gm} {O : Addr → Prop} {ι : List Addr} {H : Hp} : ∀ {vs : List V} {ws : List W} (n : Nat), RpAll Γ O ι H vs ws → RpAll Γ O ι H (vs.take n) (ws.take n)
  | _, _, 0, _ => by simpa using RpAll.nil
  | _, _, _ + 1, .nil => by simpa using RpAll.nil
  | _, _, n + 1, .cons h t => .cons h (RpAll.take n t)
theorem RpAll.drop {Γ : Gm} {O : Addr → Prop} {ι : List Addr} {H : Hp} : ∀ {vs : List V} {ws : List W} (n : Nat), RpAll Γ O ι H vs ws → RpAll Γ O ι H (vs.drop n) (ws.drop n)
  | _, _, 0, r => r
  | _, _, _ + 1, .nil => by simpa using RpAll.nil
  | _, _, n + 1, .cons _ t => RpAll.drop n t
theorem RpAll.set {Γ : Gm} {O : Addr → Prop} {ι : List Addr} {H : Hp} {v : V} {w : W} (h : Rp Γ O ι H v w) : ∀ {vs : List V} {ws : List W} (n : Nat), RpAll Γ O ι H vs ws → RpAll Γ O ι H (vs.set n v) (ws.set n w)
  | _, _, _, .nil => .nil
  | _, _, 0, .cons _ t => .cons h t
  | _, _, n + 1, .cons q t => .cons q (RpAll.set h n t)

/-! ### what is wanted behind -/
def RX (Γ : Gm) (c : Cf) (x : Xn) (cls : Value) (d : Option Addr) : Prop :=
  cls = .ref (Γ.cls x.c) ∧ ((d = none ∧ x.fs = [] ∧ x.ws = []) ∨ ∃ a xs, d = some a ∧ c.H a = some (.xd (x.fs.zip xs)) ∧ x.fs.length = xs.length ∧ c.RpAll Γ xs x.ws)

def Th {α β : Type} (Γ : Gm) (E : XK) (rel : Cf → β → α → Prop) (c : Cf) (Q : β → Hp → Prop) : R α → Prop
  | .ok a G => ∀ (c' : Cf) (v : β), Stp c c' → SR Γ c' → c'.G = G → rel c' v a → Q v c'.H
  | .ex x G => ∀ (c' : Cf) (cls : Value) (d : Option Addr), Stp c c' → SR Γ c' → c'.G = G → RX Γ c' x cls d → E cls d c'.H
  | .no => False

theorem Th.from {α β : Type} {Γ : Gm} {E : XK} {rel : Cf → β → α → Prop} {c c1 : Cf} {Q : β → Hp → Prop} {r : R α} (st : Stp c c1) (h : Th Γ E rel c Q r) : Th Γ E rel c1 Q r := by
  cases r with
  | ok a G => exact fun c' v s1 s2 e r => h c' v (st.trans s1) s2 e r
  | ex x G => exact fun c' cls d s1 s2 e r => h c' cls d (st.trans s1) s2 e r
  | no => exact h
theorem Th.bind {α β α' β' : Type} {Γ : Gm} {E : XK} {rel : Cf → β → α → Prop} {rel' : Cf → β' → α' → Prop} {c : Cf} {Q : β' → Hp → Prop} {r : R α} {f : α → GH → R α'} (h : Th Γ E rel' c Q (r.bind f)) :
    Th Γ E rel c (fun v H' => ∃ c' a, c'.H = H' ∧ Stp c c' ∧ SR Γ c' ∧ rel c' v a ∧ Th Γ E rel' c' Q (f a c'.G)) r := by
  cases r with
  | ok a G =>
    intro c' v s1 s2 e rl
    subst e
    exact ⟨c', a, rfl, s1, s2, rl, Th.from s1 h⟩
  | ex x G => exact h
  | no => exact h
theorem Th.mono {α β : Type} {Γ : Gm} {E : XK} {rel : Cf → β → α → Prop} {c : Cf} {Q Q' : β → Hp → Prop} {r : R α} (h : Th Γ E rel c Q r) (m : ∀ v c', Stp c c' → Q v c'.H → Q' v c'.H) : Th Γ E rel c Q' r := by
  cases r with
  | ok a G => exact fun c' v s1 s2 e rl => m v c' s1 (h c' v s1 s2 e rl)
  | ex x G => exact h
  | no => exact h
theorem Th.pure {α β : Type} {Γ : Gm} {E : XK} {rel : Cf → β → α → Prop} {c : Cf} {Q : β → Hp → Prop} {a : α} {v : β} (s : SR Γ c) (h : Th Γ E rel c Q (.ok a c.G)) (r : rel c v a) : Q v c.H := h c v (Stp.refl c) s rfl r

/-! ### environments -/
abbrev En := List (Option W)
def Cf.En (Γ : Gm) (c : Cf) (ρ : En) (σ : L2.St) : Prop := ρ.length = σ.length ∧ ∀ (i : Nat) (w : W), ρ[i]? = some (some w) → ∃ v, σ[i]? = some (some v) ∧ c.Rp Γ v w
theorem StpW.en {Γ : Gm} {c c' : Cf} (s : SR Γ c) (x : StpW c c') {ρ : Fn.En} {σ : L2.St} (h : c.En Γ ρ σ) : c'.En Γ ρ σ :=
  ⟨h.1, fun i w e => let ⟨v, e1, r⟩ := h.2 i w e; ⟨v, e1, x.rp s r⟩⟩
theorem Stp.en {Γ : Gm} {c c' : Cf} (s : SR Γ c) (x : Stp c c') {ρ : Fn.En} {σ : L2.St} (h : c.En Γ ρ σ) : c'.En Γ ρ σ := x.w.en s h
theorem Cf.En.set {Γ : Gm} {c : Cf} {ρ : Fn.En} {σ : L2.St} (h : c.En Γ ρ σ) {v : V} {w : W} (r : c.Rp Γ v w) (i : Nat) : c.En Γ (ρ.set i (some w)) (σ.set i (some v)) := by
  refine ⟨by rw [List.length_set, List.length_set]; exact h.1, fun j u e => ?_⟩
  by_cases hj : i = j
  · subst hj
    have hi : i < ρ.length := by
      have := (List.getElem?_eq_some_iff.mp e).1
      rwa [List.length_set] at this
    rw [List.getElem?_set_self hi] at e
    cases e
    exact ⟨v, List.getElem?_set_self (h.1 ▸ hi), r⟩
  · rw [List.getElem?_set_ne hj] at e
    rw [List.getElem?_set_ne hj]
    exact h.2 j u e

abbrev FE := En → GH → R W
abbrev FT := En → GH → R Bool
abbrev FA := En → GH → R (List W)

/-- the wish about exceptions, by the class, the dict, the slots and the heap -/
abbrev WXk := Value → Option Addr → L2.St → Hp → Prop

def absG {α β : Type} (Γ : Gm) (Z : WXk) (rel : Cf → β → α → Prop) (g : En → GH → R α) : L2.St → Hp → (β → Hp → Prop) → Prop := fun σ H Q =>
  ∃ (c : Cf) (ρ : En), c.H = H ∧ SR Γ c ∧ c.En Γ ρ σ ∧ Th Γ (fun cls d H' => Z cls d σ H') rel c Q (g ρ c.G)
abbrev absE (Γ : Gm) (Z : WXk) (g : FE) : TE := absG Γ Z (Cf.Rp Γ) g
abbrev absT (Γ : Gm) (Z : WXk) (g : FT) : TT := absG Γ Z (fun _ b b' => b = b') g
abbrev absA (Γ : Gm) (Z : WXk) (g : FA) : TA := absG Γ Z (Cf.RpAll Γ) g

theorem PE.imp {X : Cx} {e : Expr} {t t' : TE} (h : PE X e t) (m : ∀ σ H Q, t' σ H Q → t σ H Q) : PE X e t' := ⟨fun pins s σ H Q I q => h.run pins s σ H Q I (m σ H Q q)⟩
theorem PT.imp {X : Cx} {e : Expr} {t t' : TT} (h : PT X e t) (m : ∀ σ H Q, t' σ H Q → t σ H Q) : PT X e t' := ⟨fun pins s σ H Q I q => h.run pins s σ H Q I (m σ H Q q)⟩
theorem PA.imp {X : Cx} {e : List Expr} {t t' : TA} (h : PA X e t) (m : ∀ σ H Q, t' σ H Q → t σ H Q) : PA X e t' := ⟨fun pos pins s σ H Q I q => h.run pos pins s σ H Q I (m σ H Q q)⟩
theorem PS.imp {X : Cx} {e : Stmt} {t t' : TS} (h : PS X e t) (m : ∀ D σ H, t' D σ H → t D σ H) : PS X e t' := ⟨fun pins s σ H D I q => h.run pins s σ H D I (m D σ H q)⟩
theorem PSs.imp {X : Cx} {e : List Stmt} {t t' : TS} (h : PSs X e t) (m : ∀ D σ H, t' D σ H → t D σ H) : PSs X e t' := ⟨fun pins s σ H D I q => h.run pins s σ H D I (m D σ H q)⟩

/-- one after the other -/
theorem absG.bind {α β α' β' : Type} {Γ : Gm} {Z : WXk} {rel : Cf → β → α → Prop} {rel' : Cf → β' → α' → Prop} {g : En → GH → R α} {f : En → α → GH → R α'} {σ : L2.St} {H : Hp} {Q : β' → Hp → Prop}
    (h : absG Γ Z rel' (fun ρ G => (g ρ G).bind (f ρ)) σ H Q) :
    absG Γ Z rel g σ H (fun v H1 => ∃ (c : Cf) (ρ : En) (a : α), c.H = H1 ∧ SR Γ c ∧ c.En Γ ρ σ ∧ rel c v a ∧ Th Γ (fun cls d H' => Z cls d σ H') rel' c Q (f ρ a c.G)) := by
  obtain ⟨c, ρ, e, s, en, th⟩ := h
  exact ⟨c, ρ, e, s, en, Th.mono th.bind fun v c' st ⟨c1, a, e1, s1, s2, r, q⟩ => ⟨c1, ρ, a, e1, s2, s1.en s en, r, q⟩⟩
end Fn

set_option Elab.async false
set_option linter.all false
set_option maxRecDepth 100000
namespace Fn
open PySem PySem.Spec PyProof.Rows L2

theorem ROb.stpW {Γ : Gm} {c c' : Cf} (s : SR Γ c) (x : StpW c c') {ho : HO} {o : AO} (h : ROb Γ c.O c.ι c.H ho o) : ROb Γ c'.O c'.ι c'.H ho o := by
  cases h with
  | lst r => exact .lst (x.rpAll s r)
  | dic l r => exact .dic l (x.rpAll s r)
  | ins l r => exact .ins l (x.rpAll s r)
theorem ROb.stp {Γ : Gm} {c c' : Cf} (s : SR Γ c) (x : Stp c c') {ho : HO} {o : AO} (h : ROb Γ c.O c.ι c.H ho o) : ROb Γ c'.O c'.ι c'.H ho o := h.stpW s x.w
theorem SR.own_there {Γ : Gm} {c : Cf} (s : SR Γ c) {a : Addr} (h : c.O a) : c.H a ≠ none := by
  rcases h with ⟨n, o, e, f⟩ | h
  · exact s.all a (List.mem_of_getElem? f)
  · obtain ⟨⟨xs, e⟩, _⟩ := s.hid a h
    rw [e]; simp
theorem SR.uniq {Γ : Gm} {c : Cf} (s : SR Γ c) {m n : Nat} {a : Addr} (h1 : c.ι[m]? = some a) (h2 : c.ι[n]? = some a) : m = n := by
  obtain ⟨l1, e1⟩ := List.getElem?_eq_some_iff.mp h1
  obtain ⟨l2, e2⟩ := List.getElem?_eq_some_iff.mp h2
  exact (List.getElem_inj s.nd).mp (e1.trans e2.symm)
theorem SR.at_lt {Γ : Gm} {c : Cf} (s : SR Γ c) {n : Nat} {o : AO} (h : c.G.at_ n = some o) : n < c.G.n := by
  obtain ⟨a, _, e, _⟩ := s.obj n o h
  have := (List.getElem?_eq_some_iff.mp e).1
  rw [s.len] at this
  exact this

/-- an object that is not owned is laid -/
theorem new_frz {Γ : Gm} {c : Cf} (s : SR Γ c) {p : Addr} (hp : c.H p = none) (ho : HO) :
    Stp c ⟨c.ι, c.G, upd c.H p ho, c.B⟩ ∧ SR Γ ⟨c.ι, c.G, upd c.H p ho, c.B⟩ ∧ ¬ c.O p := by
  have st : Stp c ⟨c.ι, c.G, upd c.H p ho, c.B⟩ := ⟨fun _ _ h => h, fun a o h _ => by
      show upd c.H p ho a = some o
      rw [upd_ne (ne_of_none h hp)]; exact h, fun a h => by
      show upd c.H p ho a ≠ none
      by_cases e : a = p
      · subst e; rw [upd_same]; simp
      · rw [upd_ne e]; exact h, fun a h => .inl h, rfl⟩
  refine ⟨st, ⟨s.len, s.nd, fun a h => st.there a (s.all a h), fun n o h => ?_, fun a h => ?_⟩, fun h => s.own_there h hp⟩
  · obtain ⟨a, q, e1, e2, r⟩ := s.obj n o h
    exact ⟨a, q, e1, by show upd c.H p ho a = some q; rw [upd_ne (ne_of_none e2 hp)]; exact e2, r.stp s st⟩
  · obtain ⟨⟨xs, e⟩, na⟩ := s.hid a h
    exact ⟨⟨xs, by show upd c.H p ho a = _; rw [upd_ne (ne_of_none e hp)]; exact e⟩, na⟩

/-- an owned object is laid -/
theorem new_own {Γ : Gm} {c : Cf} (s : SR Γ c) {p : Addr} (hp : c.H p = none) {ho : HO} {o : AO} (r : ROb Γ c.O c.ι c.H ho o) :
    Stp c ⟨c.ι ++ [p], c.G.push o, upd c.H p ho, c.B⟩ ∧ SR Γ ⟨c.ι ++ [p], c.G.push o, upd c.H p ho, c.B⟩ := by
  have pre : ∀ (n : Nat) (a : Addr), c.ι[n]? = some a → (c.ι ++ [p])[n]? = some a := fun n a h => by
    rw [List.getElem?_append_left (List.getElem?_eq_some_iff.mp h).1]; exact h
  have st : Stp c ⟨c.ι ++ [p], c.G.push o, upd c.H p ho, c.B⟩ := ⟨pre, fun a o h _ => by
      show upd c.H p ho a = some o
      rw [upd_ne (ne_of_none h hp)]; exact h, fun a h => by
      show upd c.H p ho a ≠ none
      by_cases e : a = p
      · subst e; rw [upd_same]; simp
      · rw [upd_ne e]; exact h, fun a ⟨n, u, h1, h2⟩ => by
      have h1 : (if n = c.G.n then some o else c.G.at_ n) = some u := h1
      have h2 : (c.ι ++ [p])[n]? = some a := h2
      by_cases e : n = c.G.n
      · subst e
        rw [← s.len, List.getElem?_append_right (Nat.le_refl _), Nat.sub_self] at h2
        cases h2
        exact .inr hp
      · rw [if_neg e] at h1
        obtain ⟨b, _, e1, _, _⟩ := s.obj n u h1
        rw [pre n b e1] at h2
        cases h2
        exact .inl ⟨n, u, h1, e1⟩, rfl⟩
  refine ⟨st, ⟨?_, ?_, fun a h => ?_, fun n u h => ?_, fun a h => ?_⟩⟩
  · show (c.ι ++ [p]).length = c.G.n + 1
    rw [List.length_append, s.len]; rfl
  · show (c.ι ++ [p]).Nodup
    refine List.nodup_append.mpr ⟨s.nd, by simp, fun a ha b hb => ?_⟩
    have : b = p := by simpa using hb
    subst this
    intro e
    subst e
    exact s.all _ ha hp
  · show upd c.H p ho a ≠ none
    rcases List.mem_append.mp h with h | h
    · exact st.there a (s.all a h)
    · have : a = p := by simpa using h
      subst this; rw [upd_same]; simp
  · have h : (if n = c.G.n then some o else c.G.at_ n) = some u := h
    by_cases e : n = c.G.n
    · subst e
      rw [if_pos rfl] at h
      cases h
      refine ⟨p, ho, ?_, upd_same, r.stp s st⟩
      show (c.ι ++ [p])[c.G.n]? = some p
      rw [← s.len, List.getElem?_append_right (Nat.le_refl _), Nat.sub_self]
      rfl
    · rw [if_neg e] at h
      obtain ⟨a, q, e1, e2, r'⟩ := s.obj n u h
      exact ⟨a, q, pre n a e1, by show upd c.H p ho a = some q; rw [upd_ne (ne_of_none e2 hp)]; exact e2, r'.stp s st⟩
  · obtain ⟨⟨xs, e⟩, na⟩ := s.hid a h
    refine ⟨⟨xs, by show upd c.H p ho a = _; rw [upd_ne (ne_of_none e hp)]; exact e⟩, fun m => ?_⟩
    rcases List.mem_append.mp m with m | m
    · exact na m
    · have : a = p := by simpa using m
      subst this
      rw [hp] at e; cases e
theorem new_own_at {c : Cf} {Γ : Gm} (s : SR Γ c) (p : Addr) : (c.ι ++ [p])[c.G.n]? = some p := by
  rw [← s.len, List.getElem?_append_right (Nat.le_refl _), Nat.sub_self]
  rfl

/-- an owned object is written -/
theorem upd_own {Γ : Gm} {c : Cf} (s : SR Γ c) {n : Nat} {a : Addr} {o o' : AO} {ho : HO} (hn : c.G.at_ n = some o) (ha : c.ι[n]? = some a) (r : ROb Γ c.O c.ι c.H ho o') :
    Stp c ⟨c.ι, c.G.set n o', upd c.H a ho, c.B⟩ ∧ SR Γ ⟨c.ι, c.G.set n o', upd c.H a ho, c.B⟩ := by
  have oa : c.Ow a := ⟨n, o, hn, ha⟩
  have st : Stp c ⟨c.ι, c.G.set n o', upd c.H a ho, c.B⟩ := ⟨fun _ _ h => h, fun b u h nb => by
      show upd c.H a ho b = some u
      rw [upd_ne (show b ≠ a from fun e => nb (by rw [e]; exact oa))]; exact h, fun b h => by
      show upd c.H a ho b ≠ none
      by_cases e : b = a
      · subst e; rw [upd_same]; simp
      · rw [upd_ne e]; exact h, fun b ⟨m, u, h1, h2⟩ => by
      have h1 : (if m = n then some o' else c.G.at_ m) = some u := h1
      by_cases e : m = n
      · subst e; exact .inl ⟨m, o, hn, h2⟩
      · rw [if_neg e] at h1; exact .inl ⟨m, u, h1, h2⟩, rfl⟩
  refine ⟨st, ⟨s.len, s.nd, fun b h => st.there b (s.all b h), fun m u h => ?_, fun b h => ?_⟩⟩
  · have h : (if m = n then some o' else c.G.at_ m) = some u := h
    by_cases e : m = n
    · subst e
      rw [if_pos rfl] at h
      cases h
      exact ⟨a, ho, ha, upd_same, r.stp s st⟩
    · rw [if_neg e] at h
      obtain ⟨b, q, e1, e2, r'⟩ := s.obj m u h
      refine ⟨b, q, e1, ?_, r'.stp s st⟩
      show upd c.H a ho b = some q
      rw [upd_ne (show b ≠ a from fun z => e (s.uniq (by rw [← z]; exact e1) ha))]; exact e2
  · obtain ⟨⟨xs, e⟩, na⟩ := s.hid b h
    refine ⟨⟨xs, ?_⟩, na⟩
    show upd c.H a ho b = _
    rw [upd_ne (show b ≠ a from fun z => na (z ▸ List.mem_of_getElem? ha))]; exact e

/-- an owned object is owned no more -/
theorem del_own {Γ : Gm} {c : Cf} (s : SR Γ c) {n : Nat} {a : Addr} (ha : c.ι[n]? = some a) :
    Stp c ⟨c.ι, c.G.del n, c.H, c.B⟩ ∧ SR Γ ⟨c.ι, c.G.del n, c.H, c.B⟩ ∧ ¬ (⟨c.ι, c.G.del n, c.H, c.B⟩ : Cf).O a := by
  have sub : ∀ {m : Nat} {u : AO}, (c.G.del n).at_ m = some u → m ≠ n ∧ c.G.at_ m = some u := fun {m u} h => by
    have h : (if m = n then none else c.G.at_ m) = some u := h
    by_cases e : m = n
    · rw [if_pos e] at h; cases h
    · rw [if_neg e] at h; exact ⟨e, h⟩
  have st : Stp c ⟨c.ι, c.G.del n, c.H, c.B⟩ := ⟨fun _ _ h => h, fun _ _ h _ => h, fun _ h => h, fun b ⟨m, u, h1, h2⟩ => .inl ⟨m, u, (sub h1).2, h2⟩, rfl⟩
  refine ⟨st, ⟨s.len, s.nd, s.all, fun m u h => ?_, s.hid⟩, fun q => ?_⟩
  · obtain ⟨b, q, e1, e2, r⟩ := s.obj m u (sub h).2
    exact ⟨b, q, e1, e2, r.stp s st⟩
  · rcases q with ⟨m, u, h1, h2⟩ | q
    · exact (sub h1).1 (s.uniq h2 ha)
    · exact (s.hid a q).2 (List.mem_of_getElem? ha)

/-! ### lists, tuples by values -/
/-- the items of a list: as a value, or owned -/
def lsq (G : GH) : W → Option (List W)
  | .lst ws => some ws
  | .ref n => match G.at_ n with
    | some (.lst ws) => some ws
    | _ => none
  | _ => none
def tsq : W → Option (List W)
  | .tup ws => some ws
  | _ => none
def sqs (G : GH) (w : W) : Option (List W) := match tsq w with
  | some ws => some ws
  | none => lsq G w
theorem lsq_ok {Γ : Gm} {c : Cf} (s : SR Γ c) {v : V} {w : W} {ws : List W} (h : lsq c.G w = some ws) (r : c.Rp Γ v w) : ∃ a xs, v = .ref a ∧ SqL Γ.K c.H a xs ∧ c.RpAll Γ xs ws := by
  cases r with
  | lst h1 _ r =>
    cases h
    exact ⟨_, _, rfl, .inl h1, r⟩
  | lstK h1 h2 h3 h4 h5 h6 r =>
    cases h
    exact ⟨_, _, rfl, .inr ⟨_, _, _, h1, h2, h3, h4, h5, h6⟩, r⟩
  | @ref n a h1 =>
    unfold lsq at h
    cases e : c.G.at_ n with
    | none => simp [e] at h
    | some o =>
      obtain ⟨b, ho, e1, e2, r⟩ := s.obj n o e
      rw [h1] at e1; cases e1
      cases r with
      | lst r =>
        simp [e] at h
        subst h
        exact ⟨_, _, rfl, .inl (.inl e2), r⟩
      | dic _ _ => simp [e] at h
      | ins _ _ => simp [e] at h
  | _ => cases h
theorem tsq_ok {Γ : Gm} {c : Cf} {v : V} {w : W} {ws : List W} (h : tsq w = some ws) (r : c.Rp Γ v w) : ∃ a xs, v = .ref a ∧ SqT Γ.K c.H a xs ∧ c.RpAll Γ xs ws := by
  cases r with
  | tup h1 r =>
    cases h
    exact ⟨_, _, rfl, h1, r⟩
  | _ => cases h
theorem sqs_ok {Γ : Gm} {c : Cf} (s : SR Γ c) {v : V} {w : W} {ws : List W} (h : sqs c.G w = some ws) (r : c.Rp Γ v w) : ∃ a xs, v = .ref a ∧ (SqL Γ.K c.H a xs ∨ SqT Γ.K c.H a xs) ∧ c.RpAll Γ xs ws := by
  unfold sqs at h
  split at h
  · cases h
    obtain ⟨a, xs, e, q, r⟩ := tsq_ok (by assumption) r
    exact ⟨a, xs, e, .inr q, r⟩
  · obtain ⟨a, xs, e, q, r⟩ := lsq_ok s h r
    exact ⟨a, xs, e, .inl q, r⟩

/-- a new list, as a value or owned -/
def mkL (own : Bool) (ws : List W) (G : GH) : R W := if own then .ok (.ref G.n) (G.push (.lst ws)) else .ok (.lst ws) G
theorem mkL_ok {Γ : Gm} {E : XK} {c : Cf} {Q : V → Hp → Prop} {own : Bool} {xs : List V} {ws : List W} (s : SR Γ c) (r : c.RpAll Γ xs ws) (h : Th Γ E (Cf.Rp Γ) c Q (mkL own ws c.G)) {p : Addr} (hp : c.H p = none) : Q (.ref p) (upd c.H p (.lst xs)) := by
  cases own with
  | true =>
    obtain ⟨st, sr⟩ := new_own s hp (.lst r)
    exact h _ _ st sr rfl (.ref (new_own_at s p))
  | false =>
    obtain ⟨st, sr, no⟩ := new_frz s hp (.lst xs)
    exact h _ _ st sr rfl (.lst (.inl upd_same) (fun q => no (q.elim (fun z => .inl z) fun z => .inr z)) (st.rpAll s r))
theorem mkT_ok {Γ : Gm} {E : XK} {c : Cf} {Q : V → Hp → Prop} {xs : List V} {ws : List W} (s : SR Γ c) (r : c.RpAll Γ xs ws) (h : Th Γ E (Cf.Rp Γ) c Q (.ok (.tup ws) c.G)) {p : Addr} (hp : c.H p = none) : Q (.ref p) (upd c.H p (.tup xs)) := by
  obtain ⟨st, sr, no⟩ := new_frz s hp (.tup xs)
  exact h _ _ st sr rfl (.tup (.inl (.inl upd_same)) (st.rpAll s r))
end Fn

set_option Elab.async false
set_option linter.all false
set_option maxRecDepth 100000
namespace Fn
open PySem PySem.Spec PyProof.Rows L2
section
variable {X : Cx} {Γ : Gm} {Z : WXk}

/-! ### names, constants -/
def gVar (i : Nat) : FE := fun ρ G => match ρ[i]? with
  | some (some w) => .ok w G
  | _ => .no
theorem fe_var {i : Nat} {e : Expr} (h : PE X e (tVar i)) : PE X e (absE Γ Z (gVar i)) := PE.imp h fun σ H Q ⟨c, ρ, e, s, en, th⟩ => by
  subst e
  unfold gVar at th
  split at th
  · rename_i w e
    obtain ⟨v, e1, r⟩ := en.2 _ _ e
    exact ⟨v, e1, th.pure s r⟩
  · exact th.elim
def gC (w : W) : FE := fun _ G => .ok w G
theorem fe_c {v : V} {w : W} {e : Expr} (h : PE X e (tC v)) (r : ∀ c : Cf, c.Rp Γ v w) : PE X e (absE Γ Z (gC w)) := PE.imp h fun σ H Q ⟨c, ρ, e, s, en, th⟩ => by
  subst e
  exact Th.pure s th (r c)
theorem fe_int {i : Int} {j : Nat} {pos : Pos} : PE X (.Constant (.int i) j pos) (absE Γ Z (gC (.int i))) := fe_c pe_int fun _ => .int i
theorem fe_bl {b : Bool} {j : Nat} {pos : Pos} : PE X (.Constant (.bool b) j pos) (absE Γ Z (gC (.bl b))) := fe_c pe_bl fun _ => .bl b
theorem fe_non {j : Nat} {pos : Pos} : PE X (.Constant .none j pos) (absE Γ Z (gC .non)) := fe_c pe_non fun _ => .non
theorem fe_str {x : Str} {j : Nat} {pos : Pos} : PE X (.Constant (.str x) j pos) (absE Γ Z (gC (.str x))) := fe_c pe_str fun _ => .str x

/-! ### operators -/
abbrev F2 := W → W → GH → R W
def OpF (X : Cx) (Γ : Gm) (f : Value → Value → Sem Value) (g : F2) : Prop :=
  ∃ r, OpR X f r ∧ ∀ (c : Cf) (x y : V) (a b : W) (Q : VK) (E : XK), SR Γ c → c.Rp Γ x a → c.Rp Γ y b → Th Γ E (Cf.Rp Γ) c Q (g a b c.G) → r x y c.H Q
def gOp (f : F2) (ga gb : FE) : FE := fun ρ G => (ga ρ G).bind fun a G1 => (gb ρ G1).bind fun b G2 => f a b G2
theorem op_ok {r : R2} {f : F2} {ga gb : FE} {σ : L2.St} {H : Hp} {Q : VK} (hr : ∀ (c : Cf) (x y : V) (a b : W) (Q : VK) (E : XK), SR Γ c → c.Rp Γ x a → c.Rp Γ y b → Th Γ E (Cf.Rp Γ) c Q (f a b c.G) → r x y c.H Q)
    (h : absE Γ Z (gOp f ga gb) σ H Q) : tOp r (absE Γ Z ga) (absE Γ Z gb) σ H Q := by
  obtain ⟨c, ρ, e, s, en, th⟩ := absG.bind h
  refine ⟨c, ρ, e, s, en, Th.mono th fun v c1 st ⟨c2, ρ2, a, e2, s2, en2, ra, q⟩ => ?_⟩
  refine ⟨c2, ρ2, e2, s2, en2, Th.mono (Th.bind q) fun u c3 st3 ⟨c4, b, e4, st4, s4, rb, q4⟩ => ?_⟩
  rw [← e4]
  exact hr c4 v u a b Q _ s4 (st4.rp s2 ra) rb q4
theorem fe_op {op : Operator} {f : F2} {a b : Expr} {ga gb : FE} {pos : Pos} (ho : OpF X Γ (binaryOp op) f) (ha : PE X a (absE Γ Z ga)) (hb : PE X b (absE Γ Z gb)) : PE X (.BinOp a op b pos) (absE Γ Z (gOp f ga gb)) := by
  obtain ⟨r, hr, h⟩ := ho
  exact PE.imp (pe_op hr ha hb) fun σ H Q q => op_ok h q
theorem fe_cmp {op : CmpOp} {f : F2} {a b : Expr} {ga gb : FE} {pos : Pos} (ho : OpF X Γ (compareOp op) f) (ha : PE X a (absE Γ Z ga)) (hb : PE X b (absE Γ Z gb)) (hm : behindInMarks op b = false) : PE X (.Compare a [op] [b] pos) (absE Γ Z (gOp f ga gb)) := by
  obtain ⟨r, hr, h⟩ := ho
  exact PE.imp (pe_cmpR hr ha hb hm) fun σ H Q q => op_ok h q
/-- a value that is a bool, as a test -/
def asB (w : W) (G : GH) : R Bool := match w with
  | .bl b => .ok b G
  | _ => .no
def gTest (g : FE) : FT := fun ρ G => (g ρ G).bind asB
theorem test_ok {g : FE} {σ : L2.St} {H : Hp} {Q : Bool → Hp → Prop} (h : absT Γ Z (gTest g) σ H Q) : absE Γ Z g σ H (fun x H' => ∃ k, x = .bl k ∧ Q k H') := by
  obtain ⟨c, ρ, e, s, en, th⟩ := absG.bind h
  refine ⟨c, ρ, e, s, en, Th.mono th fun v c1 st ⟨c2, ρ2, a, e2, s2, en2, ra, q⟩ => ?_⟩
  cases ra with
  | bl b => exact ⟨b, rfl, e2 ▸ q.pure s2 rfl⟩
  | _ => exact q.elim
theorem absE.mono {g : FE} {σ : L2.St} {H : Hp} {Q Q' : VK} (h : absE Γ Z g σ H Q) (m : ∀ v H', Q v H' → Q' v H') : absE Γ Z g σ H Q' := by
  obtain ⟨c, ρ, e, s, en, th⟩ := h
  exact ⟨c, ρ, e, s, en, Th.mono th fun v c' _ q => m v _ q⟩
theorem absT.mono {g : FT} {σ : L2.St} {H : Hp} {Q Q' : Bool → Hp → Prop} (h : absT Γ Z g σ H Q) (m : ∀ v H', Q v H' → Q' v H') : absT Γ Z g σ H Q' := by
  obtain ⟨c, ρ, e, s, en, th⟩ := h
  exact ⟨c, ρ, e, s, en, Th.mono th fun v c' _ q => m v _ q⟩
theorem ft_cmp {op : CmpOp} {f : F2} {a b : Expr} {ga gb : FE} {pos : Pos} (ho : OpF X Γ (compareOp op) f) (ha : PE X a (absE Γ Z ga)) (hb : PE X b (absE Γ Z gb)) (hm : behindInMarks op b = false) : PT X (.Compare a [op] [b] pos) (absT Γ Z (gTest (gOp f ga gb))) := by
  obtain ⟨r, hr, h⟩ := ho
  exact PT.imp (pt_cmpR hr ha hb hm) fun σ H Q q => op_ok h (test_ok q)
/-- a call, .. whose value is a bool, as a test -/
theorem ft_val {e : Expr} {g : FE} (h : PE X e (absE Γ Z g)) (he : ∀ whole, isTrue e X.env whole = (do let v ← whole; standAt e.pos; holding [v] (truthy v)) := by intro _; rfl) : PT X e (absT Γ Z (gTest g)) :=
  PT.imp (pt_val h he) fun σ H Q q => test_ok q

/-! ### arithmetic -/
def fInt2 (g : Int → Int → Int) : F2 := fun a b G => match a, b with
  | .int i, .int j => .ok (.int (g i j)) G
  | _, _ => .no
def fCmpI (g : Int → Int → Bool) : F2 := fun a b G => match a, b with
  | .int i, .int j => .ok (.bl (g i j)) G
  | _, _ => .no
theorem rI0_int {g : Int → Int → Int} (c : Cf) (x y : V) (a b : W) (Q : VK) (E : XK) (s : SR Γ c) (ra : c.Rp Γ x a) (rb : c.Rp Γ y b) (h : Th Γ E (Cf.Rp Γ) c Q (fInt2 g a b c.G)) : rI0 (fun i j => .int (g i j)) x y c.H Q := by
  cases ra with
  | int i =>
    cases rb with
    | int j => exact ⟨i, j, rfl, rfl, h.pure s (.int _)⟩
    | _ => exact h.elim
  | _ => exact h.elim
theorem rI0_bl {g : Int → Int → Bool} (c : Cf) (x y : V) (a b : W) (Q : VK) (E : XK) (s : SR Γ c) (ra : c.Rp Γ x a) (rb : c.Rp Γ y b) (h : Th Γ E (Cf.Rp Γ) c Q (fCmpI g a b c.G)) : rI0 (fun i j => .bl (g i j)) x y c.H Q := by
  cases ra with
  | int i =>
    cases rb with
    | int j => exact ⟨i, j, rfl, rfl, h.pure s (.bl _)⟩
    | _ => exact h.elim
  | _ => exact h.elim
def fSub : F2 := fInt2 fun i j => i - j
theorem of_sub : OpF X Γ (binaryOp .Sub) fSub := ⟨_, op_sub, rI0_int⟩
def fLt : F2 := fCmpI fun i j => decide (i < j)
def fLe : F2 := fCmpI fun i j => decide (i ≤ j)
def fGt : F2 := fCmpI fun i j => decide (j < i)
def fGe : F2 := fCmpI fun i j => decide (j ≤ i)
theorem of_lt : OpF X Γ (compareOp .Lt) fLt := ⟨_, op_lt, rI0_bl⟩
theorem of_le : OpF X Γ (compareOp .LtE) fLe := ⟨_, op_le, rI0_bl⟩
theorem of_gt : OpF X Γ (compareOp .Gt) fGt := ⟨_, op_gt, rI0_bl⟩
theorem of_ge : OpF X Γ (compareOp .GtE) fGe := ⟨_, op_ge, rI0_bl⟩
def fMul : F2 := fun a b G => match a, b with
  | .int i, .int j => if (-(2 ^ 64) < i ∧ i < 2 ^ 64) ∨ (-(2 ^ 64) < j ∧ j < 2 ^ 64) ∨ i.natAbs.log2 + j.natAbs.log2 < 1000000 then .ok (.int (i * j)) G else .no
  | _, _ => .no
theorem of_mul : OpF X Γ (binaryOp .Mult) fMul := ⟨_, op_mul.or op_mulW, fun c x y a b Q E s ra rb h => by
  cases ra with
  | int i =>
    cases rb with
    | int j =>
      unfold fMul at h
      by_cases k : (-(2 ^ 64) < i ∧ i < 2 ^ 64) ∨ (-(2 ^ 64) < j ∧ j < 2 ^ 64) ∨ i.natAbs.log2 + j.natAbs.log2 < 1000000
      · simp only [if_pos k] at h
        rcases k with k | k | k
        · exact .inl ⟨i, j, rfl, rfl, .inl k, h.pure s (.int _)⟩
        · exact .inl ⟨i, j, rfl, rfl, .inr k, h.pure s (.int _)⟩
        · exact .inr ⟨i, j, rfl, rfl, k, h.pure s (.int _)⟩
      · simp only [if_neg k] at h
        exact h.elim
    | _ => exact h.elim
  | _ => exact h.elim⟩
def fDiv : F2 := fun a b G => match a, b with
  | .int i, .int j => if 0 < j ∧ j.natAbs.log2 < 9000 then .ok (.int (i / j)) G else .no
  | _, _ => .no
theorem of_div : OpF X Γ (binaryOp .FloorDiv) fDiv := ⟨_, op_fdivW, fun c x y a b Q E s ra rb h => by
  cases ra with
  | int i =>
    cases rb with
    | int j =>
      unfold fDiv at h
      by_cases k : 0 < j ∧ j.natAbs.log2 < 9000
      · simp only [if_pos k] at h
        exact ⟨i, j, rfl, rfl, k, h.pure s (.int _)⟩
      · simp only [if_neg k] at h
        exact h.elim
    | _ => exact h.elim
  | _ => exact h.elim⟩
def fMod : F2 := fun a b G => match a, b with
  | .int i, .int j => if 0 < j then .ok (.int (i % j)) G else .no
  | _, _ => .no
theorem of_mod : OpF X Γ (binaryOp .Mod) fMod := ⟨_, op_mod, fun c x y a b Q E s ra rb h => by
  cases ra with
  | int i =>
    cases rb with
    | int j =>
      unfold fMod at h
      by_cases k : 0 < j
      · simp only [if_pos k] at h
        exact ⟨i, j, rfl, rfl, k, h.pure s (.int _)⟩
      · simp only [if_neg k] at h
        exact h.elim
    | _ => exact h.elim
  | _ => exact h.elim⟩
def fPow : F2 := fun a b G => match a, b with
  | .int i, .int j => if 0 ≤ j ∧ j ≤ 1000000 ∧ i.natAbs < 2 ^ 64 then .ok (.int (i ^ j.toNat)) G else .no
  | _, _ => .no
theorem of_pow : OpF X Γ (binaryOp .Pow) fPow := ⟨_, op_pow, fun c x y a b Q E s ra rb h => by
  cases ra with
  | int i =>
    cases rb with
    | int j =>
      unfold fPow at h
      by_cases k : 0 ≤ j ∧ j ≤ 1000000 ∧ i.natAbs < 2 ^ 64
      · simp only [if_pos k] at h
        exact ⟨i, j, rfl, rfl, k, h.pure s (.int _)⟩
      · simp only [if_neg k] at h
        exact h.elim
    | _ => exact h.elim
  | _ => exact h.elim⟩
/-- a + b: ints, texts, tuples -/
def fAdd : F2 := fun a b G => match a, b with
  | .int i, .int j => .ok (.int (i + j)) G
  | .str i, .str j => if i.length + j.length ≤ sizeLine then .ok (.str (i ++ j)) G else .no
  | .tup i, .tup j => if i.length + j.length ≤ sizeLine then .ok (.tup (i ++ j)) G else .no
  | _, _ => .no
end
end Fn

set_option Elab.async false
set_option linter.all false
set_option maxRecDepth 100000
namespace Fn
open PySem PySem.Spec PyProof.Rows L2

/-! ### values as data: equality -/
mutual
def W.toD : W → PyData
  | .non => .none
  | .bl b => .bool b
  | .int i => .int i
  | .str x => .str x
  | .tup ws => .tuple (W.toDs ws)
  | .lst ws => .list (W.toDs ws)
  | .dic _ _ => .none
  | .ins _ _ _ => .none
  | .ref _ => .none
  | .op _ => .none
def W.toDs : List W → List PyData
  | [] => []
  | w :: ws => W.toD w :: W.toDs ws
end
mutual
/-- numbers, texts, truth values, None, tuples and lists -/
def W.pl : W → Bool
  | .non | .bl _ | .int _ | .str _ => true
  | .tup ws | .lst ws => W.pls ws
  | .dic _ _ | .ins _ _ _ | .ref _ | .op _ => false
def W.pls : List W → Bool
  | [] => true
  | w :: ws => W.pl w && W.pls ws
end
mutual
def W.dep : W → Nat
  | .tup ws | .lst ws => W.deps ws + 1
  | _ => 0
def W.deps : List W → Nat
  | [] => 0
  | w :: ws => max (W.dep w) (W.deps ws)
end
mutual
def eqW : W → W → Bool
  | .non, .non => true
  | .bl a, .bl b => a == b
  | .bl a, .int j => (if a then 1 else 0) == j
  | .int i, .bl b => i == (if b then 1 else 0)
  | .int i, .int j => i == j
  | .str x, .str y => x == y
  | .tup xs, .tup ys => eqWs xs ys
  | .lst xs, .lst ys => eqWs xs ys
  | _, _ => false
def eqWs : List W → List W → Bool
  | [], [] => true
  | x :: xs, y :: ys => eqW x y && eqWs xs ys
  | _, _ => false
end
mutual
theorem eqv_toD : ∀ (a b : W), a.pl = true → b.pl = true → PyData.eqv a.toD b.toD = eqW a b
  | .non, b, _, hb => by cases b <;> first | rfl | cases hb
  | .bl _, b, _, hb => by cases b <;> first | rfl | cases hb
  | .int _, b, _, hb => by cases b <;> first | rfl | cases hb
  | .str _, b, _, hb => by cases b <;> first | rfl | cases hb
  | .tup xs, b, ha, hb => by
    cases b with
    | tup ys => simp only [W.toD, PyData.eqv, eqW]; exact eqvs_toD xs ys (by simpa [W.pl] using ha) (by simpa [W.pl] using hb)
    | dic _ _ => cases hb
    | ins _ _ _ => cases hb
    | ref _ => cases hb
    | op _ => cases hb
    | _ => simp [W.toD, PyData.eqv, eqW]
  | .lst xs, b, ha, hb => by
    cases b with
    | lst ys => simp only [W.toD, PyData.eqv, eqW]; exact eqvs_toD xs ys (by simpa [W.pl] using ha) (by simpa [W.pl] using hb)
    | dic _ _ => cases hb
    | ins _ _ _ => cases hb
    | ref _ => cases hb
    | op _ => cases hb
    | _ => simp [W.toD, PyData.eqv, eqW]
  | .dic _ _, _, h, _ => by cases h
  | .ins _ _ _, _, h, _ => by cases h
  | .ref _, _, h, _ => by cases h
  | .op _, _, h, _ => by cases h
theorem eqvs_toD : ∀ (xs ys : List W), W.pls xs = true → W.pls ys = true → PyData.eqvAll (W.toDs xs) (W.toDs ys) = eqWs xs ys
  | [], [], _, _ => rfl
  | [], _ :: _, _, _ => rfl
  | _ :: _, [], _, _ => rfl
  | x :: xs, y :: ys, ha, hb => by
    simp only [W.pls, Bool.and_eq_true] at ha hb
    simp only [W.toDs, PyData.eqvAll, eqWs, eqv_toD x y ha.1 hb.1, eqvs_toD xs ys ha.2 hb.2]
end
mutual
theorem plain_toD : ∀ a : W, a.toD.plain = true
  | .non | .bl _ | .int _ | .str _ | .dic _ _ | .ins _ _ _ | .ref _ | .op _ => rfl
  | .tup xs => by simp only [W.toD, PyData.plain]; exact plains_toD xs
  | .lst xs => by simp only [W.toD, PyData.plain]; exact plains_toD xs
theorem plains_toD : ∀ xs : List W, PyData.plainAll (W.toDs xs) = true
  | [] => rfl
  | x :: xs => by simp only [W.toDs, PyData.plainAll, plain_toD x, plains_toD xs, Bool.and_self]
end
mutual
theorem depth_toD : ∀ a : W, a.toD.depth = a.dep
  | .non | .bl _ | .int _ | .str _ | .dic _ _ | .ins _ _ _ | .ref _ | .op _ => rfl
  | .tup xs => by simp only [W.toD, PyData.depth, W.dep, depths_toD xs]
  | .lst xs => by simp only [W.toD, PyData.depth, W.dep, depths_toD xs]
theorem depths_toD : ∀ xs : List W, PyData.depthAll (W.toDs xs) = W.deps xs
  | [] => rfl
  | x :: xs => by simp only [W.toDs, PyData.depthAll, W.deps, depth_toD x, depths_toD xs]
end
mutual
theorem Rp.dp {Γ : Gm} {c : Cf} : ∀ {v : V} {w : W}, c.Rp Γ v w → w.pl = true → Dp Γ.K c.H v w.toD
  | _, _, .non, _ => .non
  | _, _, .bl b, _ => .bl b
  | _, _, .int i, _ => .int i
  | _, _, .str x, _ => .str x
  | _, _, .tup h r, p => .tup h (RpAll.dp r (by simpa [W.pl] using p))
  | _, _, .lst h _ r, p => .lst (.inl h) (RpAll.dp r (by simpa [W.pl] using p))
  | _, _, .lstK a b e d z v r, p => .lst (.inr ⟨_, _, _, a, b, e, d, z, v⟩) (RpAll.dp r (by simpa [W.pl] using p))
  | _, _, .dic _ _ _ _, p => by cases p
  | _, _, .dicK _ _ _, p => by cases p
  | _, _, .ins _ _ _ _, p => by cases p
  | _, _, .ref _, p => by cases p
  | _, _, .op _, p => by cases p
theorem RpAll.dp {Γ : Gm} {c : Cf} : ∀ {vs : List V} {ws : List W}, c.RpAll Γ vs ws → W.pls ws = true → DpAll Γ.K c.H vs (W.toDs ws)
  | _, _, .nil, _ => .nil
  | _, _, .cons h t, p => by
    simp only [W.pls, Bool.and_eq_true] at p
    exact .cons (Rp.dp h p.1) (RpAll.dp t p.2)
end
/-- an owned list by what it holds -/
def res (G : GH) : W → W
  | .ref n => match G.at_ n with
    | some (.lst ws) => .lst ws
    | _ => .ref n
  | w => w
theorem res_dp {Γ : Gm} {c : Cf} (s : SR Γ c) {v : V} {w : W} (r : c.Rp Γ v w) (p : (res c.G w).pl = true) : Dp Γ.K c.H v (res c.G w).toD := by
  cases r with
  | @ref n a h1 =>
    unfold res at p ⊢
    cases e : c.G.at_ n with
    | none => simp [e, W.pl] at p
    | some o =>
      obtain ⟨b, ho, e1, e2, r⟩ := s.obj n o e
      rw [h1] at e1; cases e1
      cases r with
      | lst r =>
        simp only [e, W.pl] at p ⊢
        exact .lst (.inl (.inl e2)) (RpAll.dp r p)
      | dic _ _ => simp [e, W.pl] at p
      | ins _ _ => simp [e, W.pl] at p
  | non => exact Rp.dp (c := c) .non p
  | bl b => exact Rp.dp (c := c) (.bl b) p
  | int i => exact Rp.dp (c := c) (.int i) p
  | str x => exact Rp.dp (c := c) (.str x) p
  | tup h r => exact Rp.dp (c := c) (.tup h r) p
  | lst h n r => exact Rp.dp (c := c) (.lst h n r) p
  | lstK a b e d z v r => exact Rp.dp (c := c) (.lstK a b e d z v r) p
  | dic h l n r => cases p
  | dicK h l r => cases p
  | ins h l n r => cases p
  | op v => cases p

def eqOk (a b : W) : Bool := a.pl && b.pl && decide (min a.dep b.dep ≤ 60)
def fEq : F2 := fun a b G => if eqOk (res G a) (res G b) then .ok (.bl (eqW (res G a) (res G b))) G else .no
def fNe : F2 := fun a b G => if eqOk (res G a) (res G b) then .ok (.bl (!eqW (res G a) (res G b))) G else .no
section
variable {X : Cx} {Γ : Gm} {Z : WXk}
def rEqF (K : PySem.W.Frag) : R2 := fun x y H Q => ∃ d e, Dp K H x d ∧ Dp K H y e ∧ d.plain = true ∧ e.plain = true ∧ min d.depth e.depth ≤ 60 ∧ Q (.bl (PyData.eqv d e)) H
def rNeF (K : PySem.W.Frag) : R2 := fun x y H Q => ∃ d e, Dp K H x d ∧ Dp K H y e ∧ d.plain = true ∧ e.plain = true ∧ min d.depth e.depth ≤ 60 ∧ Q (.bl (!PyData.eqv d e)) H
theorem op_eqF (hu : X.A.units + 64 < cLine) : OpR X (compareOp .Eq) (rEqF X.K) := by
  intro pins s σ H x y v u Q I rx ry h
  obtain ⟨d, e, hd, he, pd, pe, dm, q⟩ := h
  obtain ⟨as, r1⟩ := Dp.reads I d x v hd rx
  obtain ⟨bs, r2⟩ := Dp.reads I e y u he ry
  exact SeqAt.eq_plain r1 r2 pd pe (by omega) ⟨.bl _, H, I, rfl, q⟩
theorem op_neF (hu : X.A.units + 64 < cLine) : OpR X (compareOp .NotEq) (rNeF X.K) := by
  intro pins s σ H x y v u Q I rx ry h
  obtain ⟨d, e, hd, he, pd, pe, dm, q⟩ := h
  obtain ⟨as, r1⟩ := Dp.reads I d x v hd rx
  obtain ⟨bs, r2⟩ := Dp.reads I e y u he ry
  exact SeqAt.ne_plain r1 r2 pd pe (by omega) ⟨.bl _, H, I, rfl, q⟩
theorem of_eq (hu : X.A.units + 64 < cLine) (hK : Γ.K = X.K := by rfl) : OpF X Γ (compareOp .Eq) fEq := ⟨_, op_eqF hu, fun c x y a b Q E s ra rb h => by
  unfold fEq at h
  by_cases k : eqOk (res c.G a) (res c.G b) = true
  · rw [if_pos k] at h
    unfold eqOk at k
    simp only [Bool.and_eq_true, decide_eq_true_eq] at k
    refine ⟨_, _, hK ▸ res_dp s ra k.1.1, hK ▸ res_dp s rb k.1.2, plain_toD _, plain_toD _, by rw [depth_toD, depth_toD]; exact k.2, ?_⟩
    rw [eqv_toD _ _ k.1.1 k.1.2]
    exact h.pure s (.bl _)
  · rw [if_neg k] at h
    exact h.elim⟩
theorem of_ne (hu : X.A.units + 64 < cLine) (hK : Γ.K = X.K := by rfl) : OpF X Γ (compareOp .NotEq) fNe := ⟨_, op_neF hu, fun c x y a b Q E s ra rb h => by
  unfold fNe at h
  by_cases k : eqOk (res c.G a) (res c.G b) = true
  · rw [if_pos k] at h
    unfold eqOk at k
    simp only [Bool.and_eq_true, decide_eq_true_eq] at k
    refine ⟨_, _, hK ▸ res_dp s ra k.1.1, hK ▸ res_dp s rb k.1.2, plain_toD _, plain_toD _, by rw [depth_toD, depth_toD]; exact k.2, ?_⟩
    rw [eqv_toD _ _ k.1.1 k.1.2]
    exact h.pure s (.bl _)
  · rw [if_neg k] at h
    exact h.elim⟩

/-! ### in, not in, of a list or a tuple -/
def rInF (K : PySem.W.Frag) (neg : Bool) : R2 := fun x y H Q => ∃ d xs e, Dp K H x d ∧ Dp K H y e ∧ (e = .list xs ∨ e = .tuple xs) ∧ d.plain = true ∧ PyData.plainAll xs = true ∧ min (PyData.depthAll xs) d.depth ≤ 60 ∧
  Q (.bl (if neg then !(xs.any fun z => PyData.eqv z d) else xs.any fun z => PyData.eqv z d)) H
theorem op_inF (hu : X.A.units + 64 < cLine) : OpR X (compareOp .In) (rInF X.K false) := by
  intro pins s σ H x y v u Q I rx ry h
  obtain ⟨d, xs, e, hd, he, hc, pd, pe, dm, q⟩ := h
  obtain ⟨as, r1⟩ := Dp.reads I d x v hd rx
  obtain ⟨bs, r2⟩ := Dp.reads I e y u he ry
  rcases hc with rfl | rfl
  · exact SeqAt.in_list_data r2 r1 pe pd (by omega) ⟨.bl _, H, I, rfl, q⟩
  · exact SeqAt.in_tuple_data r2 r1 pe pd (by omega) ⟨.bl _, H, I, rfl, q⟩
theorem op_notInF (hu : X.A.units + 64 < cLine) : OpR X (compareOp .NotIn) (rInF X.K true) := by
  intro pins s σ H x y v u Q I rx ry h
  obtain ⟨d, xs, e, hd, he, hc, pd, pe, dm, q⟩ := h
  obtain ⟨as, r1⟩ := Dp.reads I d x v hd rx
  obtain ⟨bs, r2⟩ := Dp.reads I e y u he ry
  rcases hc with rfl | rfl
  · exact SeqAt.notIn_list_data r2 r1 pe pd (by omega) ⟨.bl _, H, I, rfl, q⟩
  · exact SeqAt.notIn_tuple_data r2 r1 pe pd (by omega) ⟨.bl _, H, I, rfl, q⟩
def inWs (a : W) : List W → Bool
  | [] => false
  | x :: xs => eqW x a || inWs a xs
theorem any_toDs {a : W} (ha : a.pl = true) : ∀ xs : List W, W.pls xs = true → ((W.toDs xs).any fun z => PyData.eqv z a.toD) = inWs a xs
  | [], _ => rfl
  | x :: xs, h => by
    simp only [W.pls, Bool.and_eq_true] at h
    simp only [W.toDs, List.any_cons, inWs, eqv_toD x a h.1 ha, any_toDs ha xs h.2]
/-- the items of a list or tuple that is data -/
def itemsD : W → Option (List W)
  | .lst xs => some xs
  | .tup xs => some xs
  | _ => none
def fIn (neg : Bool) : F2 := fun a b G => match itemsD (res G b) with
  | some xs => if (res G a).pl && W.pls xs && decide (min (W.deps xs) (res G a).dep ≤ 60) then .ok (.bl (if neg then !inWs (res G a) xs else inWs (res G a) xs)) G else .no
  | none => .no
theorem in_ok {neg : Bool} (hK : Γ.K = X.K) (c : Cf) (x y : V) (a b : W) (Q : VK) (E : XK) (s : SR Γ c) (ra : c.Rp Γ x a) (rb : c.Rp Γ y b) (h : Th Γ E (Cf.Rp Γ) c Q (fIn neg a b c.G)) : rInF X.K neg x y c.H Q := by
  unfold fIn at h
  cases e : itemsD (res c.G b) with
  | none => rw [e] at h; exact h.elim
  | some xs =>
    rw [e] at h
    simp only at h
    by_cases k : ((res c.G a).pl && W.pls xs && decide (min (W.deps xs) (res c.G a).dep ≤ 60)) = true
    · rw [if_pos k] at h
      simp only [Bool.and_eq_true, decide_eq_true_eq] at k
      have eb : (res c.G b = .lst xs ∨ res c.G b = .tup xs) := by
        unfold itemsD at e
        split at e
        · rename_i q; cases e; exact .inl q
        · rename_i q; cases e; exact .inr q
        · cases e
      have pb : (res c.G b).pl = true := by rcases eb with q | q <;> rw [q] <;> simpa [W.pl] using k.1.2
      refine ⟨_, W.toDs xs, _, hK ▸ res_dp s ra k.1.1, hK ▸ res_dp s rb pb, ?_, plain_toD _, plains_toD _, by rw [depth_toD, depths_toD]; exact k.2, ?_⟩
      · rcases eb with q | q <;> rw [q]
        · exact .inl rfl
        · exact .inr rfl
      · rw [any_toDs k.1.1 xs k.1.2]
        exact h.pure s (.bl _)
    · rw [if_neg k] at h
      exact h.elim
theorem of_in (hu : X.A.units + 64 < cLine) (hK : Γ.K = X.K := by rfl) : OpF X Γ (compareOp .In) (fIn false) := ⟨_, op_inF hu, in_ok hK⟩
theorem of_notIn (hu : X.A.units + 64 < cLine) (hK : Γ.K = X.K := by rfl) : OpF X Γ (compareOp .NotIn) (fIn true) := ⟨_, op_notInF hu, in_ok hK⟩

/-! ### is None, is True -/
/-- a value that is None, or surely not -/
def isNon : W → Option Bool
  | .non => some true
  | .op _ => none
  | _ => some false
def fIsN (neg : Bool) : F2 := fun a b G => match b, isNon a with
  | .non, some k => .ok (.bl (if neg then !k else k)) G
  | _, _ => .no
theorem isNon_ok {c : Cf} {x : V} {a : W} {k : Bool} (ra : c.Rp Γ x a) (h : isNon a = some k) : decide (x = V.non) = k := by
  cases ra <;> first | (cases h; rfl) | (cases h)
theorem of_is : OpF X Γ (compareOp .Is) (fIsN false) := ⟨_, op_isN, fun c x y a b Q E s ra rb h => by
  unfold fIsN at h
  cases rb with
  | non =>
    cases e : isNon a with
    | none => simp only [e] at h; exact h.elim
    | some k =>
      simp only [e] at h
      rw [isNon_ok ra e]
      exact ⟨rfl, h.pure s (.bl _)⟩
  | _ => exact h.elim⟩
theorem of_isnot : OpF X Γ (compareOp .IsNot) (fIsN true) := ⟨_, op_notN, fun c x y a b Q E s ra rb h => by
  unfold fIsN at h
  cases rb with
  | non =>
    cases e : isNon a with
    | none => simp only [e] at h; exact h.elim
    | some k =>
      simp only [e] at h
      rw [isNon_ok ra e]
      exact ⟨rfl, h.pure s (.bl _)⟩
  | _ => exact h.elim⟩
end
end Fn

set_option Elab.async false
set_option linter.all false
set_option maxRecDepth 100000
namespace Fn
open PySem PySem.Spec PyProof.Rows L2
section
variable {X : Cx} {Γ : Gm} {Z : WXk}

/-! ### x is True, x is not False -/
def plB : W → Option (Option Bool)
  | .bl b => some (some b)
  | .op _ => none
  | _ => some none
def fIsB (neg : Bool) : F2 := fun a b G => match plB a, b with
  | some o, .bl k => .ok (.bl (if neg then !decide (o = some k) else decide (o = some k))) G
  | _, _ => .no
def rIsF (neg : Bool) : R2 := fun x y H Q => ∃ k o, y = .bl k ∧ ((∃ b, x = .bl b ∧ o = some b) ∨ ((∀ b, x ≠ .bl b) ∧ o = none)) ∧ Q (.bl (if neg then !decide (o = some k) else decide (o = some k))) H
theorem isB_plain {x : V} {k : Bool} {v : Value} (rx : RelV x v) (h : ∀ b, x ≠ .bl b) : plainIs v (.bool k) = true ∧ v ≠ .bool k := by
  cases x with
  | bl b => exact absurd rfl (h b)
  | non => cases rx; exact ⟨rfl, fun e => nomatch e⟩
  | int i => obtain ⟨t, rfl⟩ := rx; exact ⟨rfl, fun e => nomatch e⟩
  | str i => obtain ⟨t, rfl⟩ := rx; exact ⟨rfl, fun e => nomatch e⟩
  | byt i => obtain ⟨t, rfl⟩ := rx; exact ⟨rfl, fun e => nomatch e⟩
  | flt i => obtain ⟨t, rfl⟩ := rx; exact ⟨rfl, fun e => nomatch e⟩
  | ref a => cases rx; exact ⟨rfl, fun e => nomatch e⟩
  | ty n => cases rx; exact ⟨rfl, fun e => nomatch e⟩
theorem op_isF : OpR X (compareOp .Is) (rIsF false) := by
  intro pins s σ H x y v u Q I rx ry h
  obtain ⟨k, o, rfl, hx, q⟩ := h
  cases (show u = Value.bool k from ry)
  rcases hx with ⟨b, rfl, rfl⟩ | ⟨hx, rfl⟩
  · exact op_isBl pins s σ H _ (.bl k) v _ Q I rx rfl ⟨b, k, rfl, rfl, by simpa using q⟩
  · obtain ⟨p, n⟩ := isB_plain (k := k) rx hx
    exact wpAny_is_other p n ⟨.bl false, H, I, rfl, by simpa using q⟩
theorem op_isnotF : OpR X (compareOp .IsNot) (rIsF true) := by
  intro pins s σ H x y v u Q I rx ry h
  obtain ⟨k, o, rfl, hx, q⟩ := h
  cases (show u = Value.bool k from ry)
  rcases hx with ⟨b, rfl, rfl⟩ | ⟨hx, rfl⟩
  · exact op_notBl pins s σ H _ (.bl k) v _ Q I rx rfl ⟨b, k, rfl, rfl, by simpa using q⟩
  · obtain ⟨p, n⟩ := isB_plain (k := k) rx hx
    exact wpAny_isNot_other p n ⟨.bl true, H, I, rfl, by simpa using q⟩
theorem plB_ok {c : Cf} {x : V} {a : W} {o : Option Bool} (ra : c.Rp Γ x a) (h : plB a = some o) : (∃ b, x = .bl b ∧ o = some b) ∨ ((∀ b, x ≠ .bl b) ∧ o = none) := by
  cases ra with
  | bl b => cases h; exact .inl ⟨_, rfl, rfl⟩
  | op v => cases h
  | _ => cases h; exact .inr ⟨fun _ e => (by cases e), rfl⟩
theorem isB_ok {neg : Bool} (c : Cf) (x y : V) (a b : W) (Q : VK) (E : XK) (s : SR Γ c) (ra : c.Rp Γ x a) (rb : c.Rp Γ y b) (h : Th Γ E (Cf.Rp Γ) c Q (fIsB neg a b c.G)) : rIsF neg x y c.H Q := by
  unfold fIsB at h
  cases e : plB a with
  | none => simp only [e] at h; exact h.elim
  | some o =>
    simp only [e] at h
    cases rb with
    | bl k => exact ⟨k, o, rfl, plB_ok ra e, h.pure s (.bl _)⟩
    | _ => exact h.elim
theorem of_isB : OpF X Γ (compareOp .Is) (fIsB false) := ⟨_, op_isF, isB_ok⟩
theorem of_isnotB : OpF X Γ (compareOp .IsNot) (fIsB true) := ⟨_, op_isnotF, isB_ok⟩

/-! ### a + b -/
def rCatL (K : PySem.W.Frag) : R2 := fun x y H Q => ∃ l b xs zs, x = .ref l ∧ y = .ref b ∧ SqL K H l xs ∧ SqL K H b zs ∧ xs.length + zs.length ≤ sizeLine ∧ ∀ p, H p = none → Q (.ref p) (upd H p (.lst (xs ++ zs)))
theorem op_catL : OpR X (binaryOp .Add) (rCatL X.K) := by
  intro pins s σ H x y v u Q I rx ry h
  obtain ⟨l, b, xs, zs, rfl, rfl, hH, hB, hz, q⟩ := h
  cases rx
  cases ry
  obtain ⟨its, r, pl, _⟩ := I.list hH
  obtain ⟨its2, r2, pl2, _⟩ := I.list hB
  obtain ⟨⟨cls, dd, data, sl⟩, n, ho, hc, _, hd⟩ := pl
  obtain ⟨⟨cls2, dd2, data2, sl2⟩, n2, ho2, hc2, _, hd2⟩ := pl2
  simp only at hc hd hc2 hd2
  subst hc hd hc2 hd2
  have l1 := r.length
  have l2 := r2.length
  have ea : its.toArray ++ its2.toArray = (its ++ its2).toArray := by simp
  refine concat_meets ⟨_, ho, rfl⟩ ⟨_, ho2, rfl⟩ noFill_list_add seq_list_add PySem.F.slot_list_add PySem.F.entry_list_add (PySem.F.args_list_add_2 _ _) (list_addW l b its.toArray its2.toArray n n2 dd dd2 sl sl2 (by simp; omega)) ⟨ho, ho2, ?_⟩
  rw [ea]
  exact ⟨.ref _, _, I.lnew (t' := s.toks) (r.append r2) (by rw [List.length_append]; omega), rfl, q _ I.fresh⟩
def fAddL (own : Bool) : F2 := fun a b G => match a, b with
  | .int i, .int j => .ok (.int (i + j)) G
  | .str i, .str j => if i.length + j.length ≤ sizeLine then .ok (.str (i ++ j)) G else .no
  | .tup i, .tup j => if i.length + j.length ≤ sizeLine then .ok (.tup (i ++ j)) G else .no
  | a, b => match lsq G a, lsq G b with
    | some i, some j => if i.length + j.length ≤ sizeLine then mkL own (i ++ j) G else .no
    | _, _ => .no
def rAddF (K : PySem.W.Frag) : R2 := fun x y H Q => rI0 (fun i j => .int (i + j)) x y H Q ∨ (∃ i j, x = .str i ∧ y = .str j ∧ i.length + j.length ≤ sizeLine ∧ Q (.str (i ++ j)) H) ∨ rCatA K x y H Q ∨ rCatL K x y H Q
theorem op_addF : OpR X (binaryOp .Add) (rAddF X.K) := op_add.or (op_add_str.or (op_catA.or op_catL))
theorem addL_ok {own : Bool} {c : Cf} {x y : V} {a b : W} {i j : List W} {Q : VK} {E : XK} (s : SR Γ c) (ra : c.Rp Γ x a) (rb : c.Rp Γ y b) (e1 : lsq c.G a = some i) (e2 : lsq c.G b = some j)
    (h : Th Γ E (Cf.Rp Γ) c Q (if i.length + j.length ≤ sizeLine then mkL own (i ++ j) c.G else .no)) : rCatL Γ.K x y c.H Q := by
  by_cases k : i.length + j.length ≤ sizeLine
  · rw [if_pos k] at h
    obtain ⟨p, xs, rfl, h1, r1⟩ := lsq_ok s e1 ra
    obtain ⟨q, ys, rfl, h2, r2⟩ := lsq_ok s e2 rb
    exact ⟨p, q, xs, ys, rfl, rfl, h1, h2, by rw [r1.length, r2.length]; exact k, fun d hd => mkL_ok s (r1.append r2) h hd⟩
  · rw [if_neg k] at h
    exact h.elim
theorem addT_ok {c : Cf} {x y : V} {i j : List W} {Q : VK} {E : XK} (s : SR Γ c) (ra : c.Rp Γ x (.tup i)) (rb : c.Rp Γ y (.tup j)) (h : Th Γ E (Cf.Rp Γ) c Q (if i.length + j.length ≤ sizeLine then .ok (.tup (i ++ j)) c.G else .no)) : rCatA Γ.K x y c.H Q := by
  by_cases k : i.length + j.length ≤ sizeLine
  · rw [if_pos k] at h
    obtain ⟨p, xs, rfl, h1, r1⟩ := tsq_ok (Γ := Γ) (c := c) rfl ra
    obtain ⟨q, ys, rfl, h2, r2⟩ := tsq_ok (Γ := Γ) (c := c) rfl rb
    refine ⟨p, q, xs, ys, rfl, rfl, h1, h2, by rw [r1.length, r2.length]; exact k, fun e => ?_, fun _ e => ?_, fun _ _ d hd => mkT_ok s (r1.append r2) h hd⟩
    · subst e
      cases r1
      exact h.pure s rb
    · subst e
      cases r2
      rw [List.append_nil] at h
      exact h.pure s ra
  · rw [if_neg k] at h
    exact h.elim
theorem of_add {own : Bool} (hK : Γ.K = X.K := by rfl) : OpF X Γ (binaryOp .Add) (fAddL own) := ⟨_, op_addF, fun c x y a b Q E s ra rb h => by
  unfold fAddL at h
  split at h
  · exact .inl (rI0_int (g := fun i j => i + j) c x y _ _ Q E s ra rb h)
  · rename_i i j
    cases ra
    cases rb
    refine .inr (.inl ⟨i, j, rfl, rfl, ?_⟩)
    by_cases k : i.length + j.length ≤ sizeLine
    · rw [if_pos k] at h
      exact ⟨k, h.pure s (.str _)⟩
    · rw [if_neg k] at h
      exact h.elim
  · exact .inr (.inr (.inl (hK ▸ addT_ok s ra rb h)))
  · split at h
    · exact .inr (.inr (.inr (hK ▸ addL_ok s ra rb (by assumption) (by assumption) h)))
    · exact h.elim⟩

/-! ### truth -/
def truW (G : GH) (w : W) : Option Bool := match w with
  | .non => some false
  | .bl b => some b
  | .int i => some (i != 0)
  | .str y => if y.length ≤ sizeLine then some ((y.length : Int) != 0) else none
  | .tup ws => some (!ws.isEmpty)
  | .lst ws => some (!ws.isEmpty)
  | .ref n => match G.at_ n with
    | some (.lst ws) => some (!ws.isEmpty)
    | some (.dic ks _) => some (!ks.isEmpty)
    | _ => none
  | _ => none
theorem RpAll.empty {O : Addr → Prop} {ι : List Addr} {H : Hp} {vs : List V} {ws : List W} (r : RpAll Γ O ι H vs ws) : vs.isEmpty = ws.isEmpty := by
  cases r <;> rfl
theorem tru_okF {c : Cf} {x : V} {w : W} {k : Bool} (s : SR Γ c) (r : c.Rp Γ x w) (h : truW c.G w = some k) : TruV Γ.K x c.H k := by
  unfold truW at h
  cases r with
  | non => cases h; rfl
  | bl b => cases h; rfl
  | int i => cases h; rfl
  | str y =>
    simp only at h
    by_cases q : y.length ≤ sizeLine
    · rw [if_pos q] at h; cases h; exact ⟨q, rfl⟩
    · rw [if_neg q] at h; cases h
  | tup h1 r => cases h; exact .inr (.inl ⟨_, h1, by rw [r.empty]⟩)
  | lst h1 _ r => cases h; exact .inl ⟨_, .inl h1, by rw [r.empty]⟩
  | lstK h1 h2 h3 h4 h5 h6 r => cases h; exact .inl ⟨_, .inr ⟨_, _, _, h1, h2, h3, h4, h5, h6⟩, by rw [r.empty]⟩
  | @ref n a h1 =>
    simp only at h
    cases e : c.G.at_ n with
    | none => simp [e] at h
    | some o =>
      obtain ⟨b, ho, e1, e2, r⟩ := s.obj n o e
      rw [h1] at e1; cases e1
      cases r with
      | lst r => simp only [e, Option.some.injEq] at h; subst h; exact .inl ⟨_, .inl (.inl e2), by rw [r.empty]⟩
      | @dic ks xs ws l r =>
        simp only [e, Option.some.injEq] at h; subst h
        refine .inr (.inr ⟨_, e2, ?_⟩)
        cases ks with
        | nil => rfl
        | cons k ks =>
          cases xs with
          | nil => simp at l
          | cons x xs => rfl
      | ins _ _ => simp [e] at h
  | dic _ _ _ _ => simp at h
  | dicK _ _ _ => simp at h
  | ins _ _ _ _ => simp at h
  | op _ => simp at h
def asTru (w : W) (G : GH) : R Bool := match truW G w with
  | some b => .ok b G
  | none => .no
def gTru (g : FE) : FT := fun ρ G => (g ρ G).bind asTru
theorem gTru_ok {g : FE} {σ : L2.St} {H : Hp} {Q : Bool → Hp → Prop} (h : absT Γ Z (gTru g) σ H Q) : absE Γ Z g σ H (fun x H' => ∃ k, TruV Γ.K x H' k ∧ Q k H') := by
  obtain ⟨c, ρ, e, s, en, th⟩ := absG.bind h
  refine ⟨c, ρ, e, s, en, Th.mono th fun v c1 st ⟨c2, ρ2, a, e2, s2, en2, ra, q⟩ => ?_⟩
  unfold asTru at q
  cases k : truW c2.G a with
  | none => rw [k] at q; exact q.elim
  | some b =>
    rw [k] at q
    rw [← e2]
    exact ⟨b, tru_okF s2 ra k, q.pure s2 rfl⟩
theorem ft_tru {e : Expr} {g : FE} (h : PE X e (absE Γ Z g)) (hK : Γ.K = X.K := by rfl) (he : ∀ whole, isTrue e X.env whole = (do let v ← whole; standAt e.pos; holding [v] (truthy v)) := by intro _; rfl) : PT X e (absT Γ Z (gTru g)) :=
  PT.imp (pt_truth h he) fun σ H Q q => hK ▸ gTru_ok q

/-! ### and, or, not, if -/
def gNotT (g : FT) : FT := fun ρ G => (g ρ G).bind fun b G => .ok (!b) G
theorem ft_not {a : Expr} {g : FT} {pos : Pos} (h : PT X a (absT Γ Z g)) : PT X (.UnaryOp .Not a pos) (absT Γ Z (gNotT g)) := PT.imp (pt_not h) fun σ H Q q => by
  obtain ⟨c, ρ, e, s, en, th⟩ := absG.bind q
  exact ⟨c, ρ, e, s, en, Th.mono th fun v c1 st ⟨c2, ρ2, a, e2, s2, en2, ra, q⟩ => by subst ra; rw [← e2]; exact q.pure s2 rfl⟩
def gAndT (g1 g2 : FT) : FT := fun ρ G => (g1 ρ G).bind fun b G => if b then g2 ρ G else .ok false G
def gOrT (g1 g2 : FT) : FT := fun ρ G => (g1 ρ G).bind fun b G => if b then .ok true G else g2 ρ G
theorem andT_ok {g1 g2 : FT} {σ : L2.St} {H : Hp} {Q : Bool → Hp → Prop} (q : absT Γ Z (gAndT g1 g2) σ H Q) : tAnd (absT Γ Z g1) (absT Γ Z g2) σ H Q := by
  obtain ⟨c, ρ, e, s, en, th⟩ := absG.bind q
  refine ⟨c, ρ, e, s, en, Th.mono th fun v c1 st ⟨c2, ρ2, a, e2, s2, en2, ra, q⟩ => ?_⟩
  subst ra
  cases v with
  | true => exact ⟨c2, ρ2, e2, s2, en2, q⟩
  | false => rw [← e2]; exact q.pure s2 rfl
theorem orT_ok {g1 g2 : FT} {σ : L2.St} {H : Hp} {Q : Bool → Hp → Prop} (q : absT Γ Z (gOrT g1 g2) σ H Q) : tOr (absT Γ Z g1) (absT Γ Z g2) σ H Q := by
  obtain ⟨c, ρ, e, s, en, th⟩ := absG.bind q
  refine ⟨c, ρ, e, s, en, Th.mono th fun v c1 st ⟨c2, ρ2, a, e2, s2, en2, ra, q⟩ => ?_⟩
  subst ra
  cases v with
  | false => exact ⟨c2, ρ2, e2, s2, en2, q⟩
  | true => rw [← e2]; exact q.pure s2 rfl
theorem PW.imp {e : Expr} {t t' : TT} (h : PW X e t) (m : ∀ σ H Q, t' σ H Q → t σ H Q) : PW X e t' := ⟨fun wh pins s σ H Q I q => h.run wh pins s σ H Q I (m σ H Q q)⟩
theorem fw_and1 {a : Expr} {g : FT} {pos : Pos} (h : PT X a (absT Γ Z g)) : PW X (.BoolOp .And [a] pos) (absT Γ Z g) := pw_and1 h
theorem fw_or1 {a : Expr} {g : FT} {pos : Pos} (h : PT X a (absT Γ Z g)) : PW X (.BoolOp .Or [a] pos) (absT Γ Z g) := pw_or1 h
theorem fw_and {a b : Expr} {rest : List Expr} {g1 g2 : FT} {pos : Pos} (h1 : PT X a (absT Γ Z g1)) (h2 : PW X (.BoolOp .And (b :: rest) pos) (absT Γ Z g2)) : PW X (.BoolOp .And (a :: b :: rest) pos) (absT Γ Z (gAndT g1 g2)) :=
  PW.imp (pw_and h1 h2) fun σ H Q q => andT_ok q
theorem fw_or {a b : Expr} {rest : List Expr} {g1 g2 : FT} {pos : Pos} (h1 : PT X a (absT Γ Z g1)) (h2 : PW X (.BoolOp .Or (b :: rest) pos) (absT Γ Z g2)) : PW X (.BoolOp .Or (a :: b :: rest) pos) (absT Γ Z (gOrT g1 g2)) :=
  PW.imp (pw_or h1 h2) fun σ H Q q => orT_ok q
/-- .. as values -/
def gAnd (g1 g2 : FE) : FE := fun ρ G => (g1 ρ G).bind fun a G1 => match truW G1 a with
  | some true => g2 ρ G1
  | some false => .ok a G1
  | none => .no
def gOr (g1 g2 : FE) : FE := fun ρ G => (g1 ρ G).bind fun a G1 => match truW G1 a with
  | some true => .ok a G1
  | some false => g2 ρ G1
  | none => .no
theorem fe_one {op : BoolOp} {a : Expr} {g : FE} {pos : Pos} (h : PE X a (absE Γ Z g)) : PE X (.BoolOp op [a] pos) (absE Γ Z g) := pe_one h
theorem fe_and {a b : Expr} {rest : List Expr} {g1 g2 : FE} {pos : Pos} (h1 : PE X a (absE Γ Z g1)) (h2 : PE X (.BoolOp .And (b :: rest) pos) (absE Γ Z g2)) (hK : Γ.K = X.K := by rfl) : PE X (.BoolOp .And (a :: b :: rest) pos) (absE Γ Z (gAnd g1 g2)) :=
  PE.imp (pe_andT h1 h2) fun σ H Q q => by
    obtain ⟨c, ρ, e, s, en, th⟩ := absG.bind q
    refine ⟨c, ρ, e, s, en, Th.mono th fun v c1 st ⟨c2, ρ2, a, e2, s2, en2, ra, q⟩ => ?_⟩
    rw [← e2]
    cases k : truW c2.G a with
    | none => simp only [k] at q; exact q.elim
    | some b =>
      refine ⟨b, hK ▸ tru_okF s2 ra k, ?_⟩
      cases b with
      | true => simp only [k] at q; exact ⟨c2, ρ2, rfl, s2, en2, q⟩
      | false => simp only [k] at q; exact q.pure s2 ra
theorem fe_or {a b : Expr} {rest : List Expr} {g1 g2 : FE} {pos : Pos} (h1 : PE X a (absE Γ Z g1)) (h2 : PE X (.BoolOp .Or (b :: rest) pos) (absE Γ Z g2)) (hK : Γ.K = X.K := by rfl) : PE X (.BoolOp .Or (a :: b :: rest) pos) (absE Γ Z (gOr g1 g2)) :=
  PE.imp (pe_orT h1 h2) fun σ H Q q => by
    obtain ⟨c, ρ, e, s, en, th⟩ := absG.bind q
    refine ⟨c, ρ, e, s, en, Th.mono th fun v c1 st ⟨c2, ρ2, a, e2, s2, en2, ra, q⟩ => ?_⟩
    rw [← e2]
    cases k : truW c2.G a with
    | none => simp only [k] at q; exact q.elim
    | some b =>
      refine ⟨b, hK ▸ tru_okF s2 ra k, ?_⟩
      cases b with
      | false => simp only [k] at q; exact ⟨c2, ρ2, rfl, s2, en2, q⟩
      | true => simp only [k] at q; exact q.pure s2 ra
def gNot (g : FE) : FE := fun ρ G => (g ρ G).bind fun a G1 => match truW G1 a with
  | some b => .ok (.bl (!b)) G1
  | none => .no
theorem fe_not {a : Expr} {g : FE} {pos : Pos} (h : PE X a (absE Γ Z g)) (hK : Γ.K = X.K := by rfl) : PE X (.UnaryOp .Not a pos) (absE Γ Z (gNot g)) :=
  PE.imp (pe_notT h) fun σ H Q q => by
    obtain ⟨c, ρ, e, s, en, th⟩ := absG.bind q
    refine ⟨c, ρ, e, s, en, Th.mono th fun v c1 st ⟨c2, ρ2, a, e2, s2, en2, ra, q⟩ => ?_⟩
    rw [← e2]
    cases k : truW c2.G a with
    | none => simp only [k] at q; exact q.elim
    | some b =>
      simp only [k] at q
      exact ⟨b, hK ▸ tru_okF s2 ra k, q.pure s2 (.bl _)⟩
def gIf (t : FT) (a b : FE) : FE := fun ρ G => (t ρ G).bind fun k G => if k then a ρ G else b ρ G
theorem fe_if {t a b : Expr} {gt : FT} {ga gb : FE} {pos : Pos} (ht : PT X t (absT Γ Z gt)) (ha : PE X a (absE Γ Z ga)) (hb : PE X b (absE Γ Z gb)) : PE X (.IfExp t a b pos) (absE Γ Z (gIf gt ga gb)) :=
  PE.imp (pe_ifExp ht ha hb) fun σ H Q q => by
    obtain ⟨c, ρ, e, s, en, th⟩ := absG.bind q
    refine ⟨c, ρ, e, s, en, Th.mono th fun v c1 st ⟨c2, ρ2, a, e2, s2, en2, ra, q⟩ => ?_⟩
    subst ra
    cases v with
    | true => exact ⟨c2, ρ2, e2, s2, en2, q⟩
    | false => exact ⟨c2, ρ2, e2, s2, en2, q⟩
def gNeg (g : FE) : FE := fun ρ G => (g ρ G).bind fun a G1 => match a with
  | .int i => .ok (.int (-i)) G1
  | _ => .no
theorem fe_neg {a : Expr} {g : FE} {pos : Pos} (h : PE X a (absE Γ Z g)) : PE X (.UnaryOp .USub a pos) (absE Γ Z (gNeg g)) :=
  PE.imp (pe_un un_neg h) fun σ H Q q => by
    obtain ⟨c, ρ, e, s, en, th⟩ := absG.bind q
    refine ⟨c, ρ, e, s, en, Th.mono th fun v c1 st ⟨c2, ρ2, a, e2, s2, en2, ra, q⟩ => ?_⟩
    rw [← e2]
    cases ra with
    | int i => exact ⟨i, rfl, q.pure s2 (.int _)⟩
    | _ => exact q.elim

/-! ### argument lists, displays -/
def gNil : FA := fun _ G => .ok [] G
def gCons (g : FE) (r : FA) : FA := fun ρ G => (g ρ G).bind fun w G1 => (r ρ G1).bind fun ws G2 => .ok (w :: ws) G2
theorem fa_nil : PA X [] (absA Γ Z gNil) := PA.imp pa_nil fun σ H Q ⟨c, ρ, e, s, en, th⟩ => by
  subst e
  exact Th.pure s th (.nil)
theorem fa_cons {e : Expr} {es : List Expr} {g : FE} {r : FA} (ha : PE X e (absE Γ Z g)) (hr : PA X es (absA Γ Z r)) (hs : starEach (e :: es) X.env = (false, eval e X.env) :: starEach es X.env := by rfl) : PA X (e :: es) (absA Γ Z (gCons g r)) :=
  PA.imp (pa_cons ha hr hs) fun σ H Q q => by
    obtain ⟨c, ρ, e, s, en, th⟩ := absG.bind q
    refine ⟨c, ρ, e, s, en, Th.mono th fun v c1 st ⟨c2, ρ2, a, e2, s2, en2, ra, q⟩ => ?_⟩
    refine ⟨c2, ρ2, e2, s2, en2, Th.mono (Th.bind q) fun vs c3 st3 ⟨c4, b, e4, st4, s4, rb, q4⟩ => ?_⟩
    rw [← e4]
    exact q4.pure s4 (.cons (st4.rp s2 ra) rb)
def gTup (g : FA) : FE := fun ρ G => (g ρ G).bind fun ws G1 => if ws.length ≤ sizeLine then .ok (.tup ws) G1 else .no
def gLst (own : Bool) (g : FA) : FE := fun ρ G => (g ρ G).bind fun ws G1 => if ws.length ≤ sizeLine then mkL own ws G1 else .no
theorem fe_tup {es : List Expr} {g : FA} {k : Nat} {pos : Pos} (h : PA X es (absA Γ Z g)) : PE X (.Tuple es k pos) (absE Γ Z (gTup g)) := PE.imp (pe_tup h) fun σ H Q q => by
  obtain ⟨c, ρ, e, s, en, th⟩ := absG.bind q
  refine ⟨c, ρ, e, s, en, Th.mono th fun v c1 st ⟨c2, ρ2, a, e2, s2, en2, ra, q⟩ => ?_⟩
  rw [← e2]
  by_cases k : a.length ≤ sizeLine
  · rw [if_pos k] at q
    exact ⟨by rw [ra.length]; exact k, fun p hp => mkT_ok s2 ra q hp⟩
  · rw [if_neg k] at q
    exact q.elim
theorem fe_lst {own : Bool} {es : List Expr} {g : FA} {pos : Pos} (h : PA X es (absA Γ Z g)) : PE X (.List es pos) (absE Γ Z (gLst own g)) := PE.imp (pe_lst h) fun σ H Q q => by
  obtain ⟨c, ρ, e, s, en, th⟩ := absG.bind q
  refine ⟨c, ρ, e, s, en, Th.mono th fun v c1 st ⟨c2, ρ2, a, e2, s2, en2, ra, q⟩ => ?_⟩
  rw [← e2]
  by_cases k : a.length ≤ sizeLine
  · rw [if_pos k] at q
    exact ⟨by rw [ra.length]; exact k, fun p hp => mkL_ok s2 ra q hp⟩
  · rw [if_neg k] at q
    exact q.elim

/-! ### a[i] -/
theorem RpAll.atI {c : Cf} {xs : List V} {ws : List W} {i : Int} {w : W} (r : c.RpAll Γ xs ws) (h : L2.atI ws i = some w) : ∃ v, L2.atI xs i = some v ∧ c.Rp Γ v w := by
  unfold L2.atI at h ⊢
  rw [r.length]
  cases e : ixN ws.length i with
  | none => rw [e] at h; cases h
  | some j => rw [e] at h; exact r.get h
def fIx : F2 := fun a b G => match b with
  | .int i => match a with
    | .str z => if z.length ≤ sizeLine then match L2.atI z.cps.toList i with
        | some c => .ok (.str ⟨#[c]⟩) G
        | none => .no
      else .no
    | a => match sqs G a with
      | some ws => match L2.atI ws i with
        | some w => .ok w G
        | none => .no
      | none => .no
  | _ => .no
theorem ixS_ok {c : Cf} {x y : V} {a : W} {i : Int} {ws : List W} {w : W} {Q : VK} {E : XK} (s : SR Γ c) (ra : c.Rp Γ x a) (e1 : sqs c.G a = some ws) (e2 : L2.atI ws i = some w) (h : Th Γ E (Cf.Rp Γ) c Q (.ok w c.G)) : rIx Γ.K x (.int i) c.H Q := by
  obtain ⟨p, xs, rfl, hq, r⟩ := sqs_ok s e1 ra
  obtain ⟨v, ev, rv⟩ := r.atI e2
  rcases hq with hq | hq
  · exact .inl ⟨p, xs, i, v, rfl, rfl, hq, ev, h.pure s rv⟩
  · exact .inr (.inl ⟨p, xs, i, v, rfl, rfl, hq, ev, h.pure s rv⟩)
theorem ix_ok (c : Cf) (x y : V) (a b : W) (Q : VK) (E : XK) (s : SR Γ c) (ra : c.Rp Γ x a) (rb : c.Rp Γ y b) (h : Th Γ E (Cf.Rp Γ) c Q (fIx a b c.G)) : rIx Γ.K x y c.H Q := by
  unfold fIx at h
  cases rb with
  | int i =>
    simp only at h
    split at h
    · rename_i z
      cases ra
      by_cases k : z.length ≤ sizeLine
      · rw [if_pos k] at h
        split at h
        · rename_i ch e
          exact .inr (.inr ⟨z, i, ch, rfl, rfl, k, e, h.pure s (.str _)⟩)
        · exact h.elim
      · rw [if_neg k] at h
        exact h.elim
    · split at h
      · split at h
        · exact ixS_ok (y := .int i) s ra (by assumption) (by assumption) h
        · exact h.elim
      · exact h.elim
  | _ => exact h.elim
theorem fe_ix {a b : Expr} {ga gb : FE} {pos : Pos} (ha : PE X a (absE Γ Z ga)) (hb : PE X b (absE Γ Z gb)) (hs : PlainIx b := by exact fun _ _ => rfl) (hK : Γ.K = X.K := by rfl) : PE X (.Subscript a b pos) (absE Γ Z (gOp fIx ga gb)) :=
  PE.imp (pe_ix ix_seq ha hb hs) fun σ H Q q => op_ok (fun c x y a b Q E s ra rb h => hK ▸ ix_ok c x y a b Q E s ra rb h) q

/-! ### a[i:j] -/
abbrev FO := En → GH → R (Option Int)
abbrev absO (Γ : Gm) (Z : WXk) (g : FO) : TO := absG Γ Z (fun _ b b' => b = b') g
def gNoPart : FO := fun _ G => .ok none G
def gPart (g : FE) : FO := fun ρ G => (g ρ G).bind fun w G1 => match w with
  | .int i => .ok (some i) G1
  | _ => .no
theorem PO.imp {e : Option Expr} {t t' : TO} (h : PO X e t) (m : ∀ σ H Q, t' σ H Q → t σ H Q) : PO X e t' := ⟨fun pins s σ H Q I q => h.run pins s σ H Q I (m σ H Q q)⟩
theorem fo_none : PO X none (absO Γ Z gNoPart) := PO.imp po_none fun σ H Q ⟨c, ρ, e, s, en, th⟩ => by
  subst e
  exact Th.pure (v := none) s th rfl
theorem fo_some {e : Expr} {g : FE} (h : PE X e (absE Γ Z g)) : PO X (some e) (absO Γ Z (gPart g)) := PO.imp (po_some h) fun σ H Q q => by
  obtain ⟨c, ρ, e, s, en, th⟩ := absG.bind q
  refine ⟨c, ρ, e, s, en, Th.mono th fun v c1 st ⟨c2, ρ2, a, e2, s2, en2, ra, q⟩ => ?_⟩
  rw [← e2]
  cases ra with
  | int i => exact ⟨i, rfl, q.pure s2 rfl⟩
  | _ => exact q.elim
def cutW (ws : List W) (lo hi : Option Int) : List W := (ws.drop (HT.sIx ws.length 0 lo)).take (HT.sIx ws.length ws.length hi - HT.sIx ws.length 0 lo)
theorem RpAll.cut {c : Cf} {xs : List V} {ws : List W} (r : c.RpAll Γ xs ws) (lo hi : Option Int) : c.RpAll Γ (cutV xs lo hi) (cutW ws lo hi) := by
  unfold cutV cutW
  rw [r.length]
  exact (r.drop _).take _
def fSl (own : Bool) (w : W) (lo hi : Option Int) (G : GH) : R W := match w with
  | .tup ws => .ok (.tup (cutW ws lo hi)) G
  | w => match lsq G w with
    | some ws => mkL own (cutW ws lo hi) G
    | none => .no
def gSl (own : Bool) (g : FE) (lo hi : FO) : FE := fun ρ G => (g ρ G).bind fun w G1 => (lo ρ G1).bind fun l G2 => (hi ρ G2).bind fun h G3 => fSl own w l h G3
def rSlF (K : PySem.W.Frag) : V → Option Int → Option Int → Hp → VK → Prop := fun x lo hi H Q => rSlL K x lo hi H Q ∨ rSlA K x lo hi H Q
theorem sl_F : SlR X (rSlF X.K) := sl_list.or sl_tupA
theorem sl_ok {own : Bool} {c : Cf} {x : V} {a : W} {lo hi : Option Int} {Q : VK} {E : XK} (s : SR Γ c) (ra : c.Rp Γ x a) (h : Th Γ E (Cf.Rp Γ) c Q (fSl own a lo hi c.G)) : rSlF Γ.K x lo hi c.H Q := by
  unfold fSl at h
  split at h
  · rename_i ws
    obtain ⟨p, xs, rfl, hq, r⟩ := tsq_ok (Γ := Γ) (c := c) rfl ra
    refine .inr ⟨p, xs, rfl, hq, fun e => ?_, fun _ d hd => mkT_ok s (r.cut lo hi) h hd⟩
    have ec : cutW ws lo hi = ws := by
      unfold cutW
      rw [← r.length, e.1, e.2, List.drop_zero, Nat.sub_zero, r.length]
      exact List.take_length
    rw [ec] at h
    exact h.pure s ra
  · split at h
    · obtain ⟨p, xs, rfl, hq, r⟩ := lsq_ok s (by assumption) ra
      exact .inl ⟨p, xs, rfl, hq, fun d hd => mkL_ok s (r.cut lo hi) h hd⟩
    · exact h.elim
theorem fe_sl {own : Bool} {e : Expr} {lo hi : Option Expr} {g : FE} {gl gh : FO} {p2 pos : Pos} (he : PE X e (absE Γ Z g)) (hl : PO X lo (absO Γ Z gl)) (hu : PO X hi (absO Γ Z gh)) (hK : Γ.K = X.K := by rfl) : PE X (.Subscript e (.Slice lo hi none p2) pos) (absE Γ Z (gSl own g gl gh)) :=
  PE.imp (pe_slice sl_F he hl hu) fun σ H Q q => by
    obtain ⟨c, ρ, e, s, en, th⟩ := absG.bind q
    refine ⟨c, ρ, e, s, en, Th.mono th fun v c1 st ⟨c2, ρ2, a, e2, s2, en2, ra, q⟩ => ?_⟩
    refine ⟨c2, ρ2, e2, s2, en2, Th.mono (Th.bind q) fun l c3 st3 ⟨c4, b, e4, st4, s4, rb, q4⟩ => ?_⟩
    subst rb
    refine ⟨c4, ρ2, e4, s4, st4.en s2 en2, Th.mono (Th.bind q4) fun u c5 st5 ⟨c6, b6, e6, st6, s6, rb6, q6⟩ => ?_⟩
    subst rb6
    rw [← e6]
    exact hK ▸ sl_ok s6 (st6.rp s4 (st4.rp s2 ra)) q6
/-- an owned thing is taken as a value from here on -/
def frz (w : W) (G : GH) : R W := match w with
  | .ref n => match G.at_ n with
    | some (.lst ws) => .ok (.lst ws) (G.del n)
    | some (.dic ks ws) => .ok (.dic ks ws) (G.del n)
    | some (.ins k fs ws) => .ok (.ins k fs ws) (G.del n)
    | none => .no
  | .non => .ok .non G
  | _ => .no
def gFrz (g : FE) : FE := fun ρ G => (g ρ G).bind frz
theorem fe_frz {e : Expr} {g : FE} (h : PE X e (absE Γ Z g)) : PE X e (absE Γ Z (gFrz g)) := PE.imp h fun σ H Q q => by
  obtain ⟨c, ρ, e, s, en, th⟩ := absG.bind q
  refine ⟨c, ρ, e, s, en, Th.mono th fun v c1 st ⟨c2, ρ2, a, e2, s2, en2, ra, q⟩ => ?_⟩
  rw [← e2]
  unfold frz at q
  cases ra with
  | @ref n p hn =>
    simp only at q
    cases e : c2.G.at_ n with
    | none => simp only [e] at q; exact q.elim
    | some o =>
      obtain ⟨b, ho, e1, eb, r⟩ := s2.obj n o e
      rw [hn] at e1; cases e1
      obtain ⟨st', s', no⟩ := del_own s2 hn
      cases r with
      | lst r => simp only [e] at q; exact q ⟨c2.ι, c2.G.del n, c2.H, c2.B⟩ _ st' s' rfl (.lst (.inl eb) no (st'.rpAll s2 r))
      | dic l r => simp only [e] at q; exact q ⟨c2.ι, c2.G.del n, c2.H, c2.B⟩ _ st' s' rfl (.dic (.inl eb) l no (st'.rpAll s2 r))
      | ins l r => simp only [e] at q; exact q ⟨c2.ι, c2.G.del n, c2.H, c2.B⟩ _ st' s' rfl (.ins eb l no (st'.rpAll s2 r))
  | non => exact Th.pure s2 q .non
  | _ => exact q.elim
end
end Fn

set_option Elab.async false
set_option linter.all false
set_option maxRecDepth 100000
namespace Fn
open PySem PySem.Spec PyProof.Rows L2

inductive RS where
  | nx (ρ : En) (G : GH)
  | rt (w : W) (G : GH)
  | bk (ρ : En) (G : GH)
  | ct (ρ : En) (G : GH)
  | ex (x : Xn) (ρ : En) (G : GH)
  | no
abbrev FS := En → GH → RS
def RS.seq (r : RS) (f : En → GH → RS) : RS := match r with
  | .nx ρ G => f ρ G
  | .rt w G => .rt w G
  | .bk ρ G => .bk ρ G
  | .ct ρ G => .ct ρ G
  | .ex x ρ G => .ex x ρ G
  | .no => .no
/-- behind an expression: its value, or its exception -/
def R.thn {α : Type} (r : R α) (ρ : En) (f : α → GH → RS) : RS := match r with
  | .ok a G => f a G
  | .ex x G => .ex x ρ G
  | .no => .no

def ThS (Γ : Gm) (Z : WXk) (D : Ends) (c : Cf) : RS → Prop
  | .nx ρ G => ∀ (c' : Cf) (σ : L2.St), Stp c c' → SR Γ c' → c'.G = G → c'.En Γ ρ σ → D.nx σ c'.H
  | .rt w G => ∀ (c' : Cf) (v : V), Stp c c' → SR Γ c' → c'.G = G → c'.Rp Γ v w → D.rt v c'.H
  | .bk ρ G => ∀ (c' : Cf) (σ : L2.St), Stp c c' → SR Γ c' → c'.G = G → c'.En Γ ρ σ → D.bk σ c'.H
  | .ct ρ G => ∀ (c' : Cf) (σ : L2.St), Stp c c' → SR Γ c' → c'.G = G → c'.En Γ ρ σ → D.ct σ c'.H
  | .ex x ρ G => ∀ (c' : Cf) (σ : L2.St) (cls : Value) (d : Option Addr), Stp c c' → SR Γ c' → c'.G = G → c'.En Γ ρ σ → RX Γ c' x cls d → Z cls d σ c'.H
  | .no => False
theorem ThS.from {Γ : Gm} {Z : WXk} {D : Ends} {c c1 : Cf} {r : RS} (st : Stp c c1) (h : ThS Γ Z D c r) : ThS Γ Z D c1 r := by
  cases r with
  | nx ρ G => exact fun c' σ a b e r => h c' σ (st.trans a) b e r
  | rt w G => exact fun c' v a b e r => h c' v (st.trans a) b e r
  | bk ρ G => exact fun c' σ a b e r => h c' σ (st.trans a) b e r
  | ct ρ G => exact fun c' σ a b e r => h c' σ (st.trans a) b e r
  | ex x ρ G => exact fun c' σ cls d a b e r => h c' σ cls d (st.trans a) b e r
  | no => exact h
def absS (Γ : Gm) (Z : WXk) (g : FS) : TS := fun D σ H => ∃ (c : Cf) (ρ : En), c.H = H ∧ SR Γ c ∧ c.En Γ ρ σ ∧ ThS Γ Z D c (g ρ c.G)
/-- an expression ahead of a rest -/
theorem ThS.bind {α β : Type} {Γ : Gm} {Z : WXk} {rel : Cf → β → α → Prop} {r : R α} {f : α → GH → RS} {D : Ends} {c : Cf} {ρ : En} {σ : L2.St} (s : SR Γ c) (en : c.En Γ ρ σ) (th : ThS Γ Z D c (r.thn ρ f)) :
    Th Γ (fun cls d H' => Z cls d σ H') rel c (fun v H1 => ∃ (c' : Cf) (a : α), c'.H = H1 ∧ Stp c c' ∧ SR Γ c' ∧ c'.En Γ ρ σ ∧ rel c' v a ∧ ThS Γ Z D c' (f a c'.G)) r := by
  cases r with
  | ok a G =>
    intro c1 v s1 s2 e1 r
    subst e1
    exact ⟨c1, a, rfl, s1, s2, s1.en s en, r, ThS.from s1 th⟩
  | ex x G => exact fun c1 cls d s1 s2 e1 r => th c1 σ cls d s1 s2 e1 (s1.en s en) r
  | no => exact th.elim
theorem absS.bind {α β : Type} {Γ : Gm} {Z : WXk} {rel : Cf → β → α → Prop} {g : En → GH → R α} {f : En → α → GH → RS} {D : Ends} {σ : L2.St} {H : Hp}
    (h : absS Γ Z (fun ρ G => (g ρ G).thn ρ (f ρ)) D σ H) :
    absG Γ Z rel g σ H (fun v H1 => ∃ (c : Cf) (ρ : En) (a : α), c.H = H1 ∧ SR Γ c ∧ c.En Γ ρ σ ∧ rel c v a ∧ ThS Γ Z D c (f ρ a c.G)) := by
  obtain ⟨c, ρ, e, s, en, th⟩ := h
  exact ⟨c, ρ, e, s, en, Th.mono (ThS.bind s en th) fun v c1 st ⟨c2, a, e2, st2, s2, en2, ra, q⟩ => ⟨c2, ρ, a, e2, s2, en2, ra, q⟩⟩

section
variable {X : Cx} {Γ : Gm} {Z : WXk}
def gNext : FS := fun ρ G => .nx ρ G
@[irreducible] def gSeq (a b : FS) : FS := fun ρ G => (a ρ G).seq b
theorem fss_nil : PSs X [] (absS Γ Z gNext) := PSs.imp pss_nil fun D σ H ⟨c, ρ, e, s, en, th⟩ => by
  subst e
  exact th c σ (Stp.refl c) s rfl en
theorem fss_one {st : Stmt} {g : FS} (h : PS X st (absS Γ Z g)) : PSs X [st] (absS Γ Z g) := pss_one h
theorem seq_ok {a b : FS} {D : Ends} {σ : L2.St} {H : Hp} (h : absS Γ Z (gSeq a b) D σ H) : absS Γ Z a { D with nx := absS Γ Z b D } σ H := by
  obtain ⟨c, ρ, e, s, en, th⟩ := h
  refine ⟨c, ρ, e, s, en, ?_⟩
  unfold gSeq at th
  cases k : a ρ c.G with
  | nx ρ1 G1 =>
    rw [k] at th
    intro c1 σ1 s1 s2 e1 en1
    subst e1
    exact ⟨c1, ρ1, rfl, s2, en1, ThS.from s1 th⟩
  | rt w G => rw [k] at th; exact th
  | bk ρ1 G => rw [k] at th; exact th
  | ct ρ1 G => rw [k] at th; exact th
  | ex x ρ1 G => rw [k] at th; exact th
  | no => rw [k] at th; exact th
theorem fss_cons {st : Stmt} {rest : List Stmt} {a b : FS} (h1 : PS X st (absS Γ Z a)) (h2 : PSs X rest (absS Γ Z b)) : PSs X (st :: rest) (absS Γ Z (gSeq a b)) := PSs.imp (pss_cons h1 h2) fun D σ H q => seq_ok q
def gBrk : FS := fun ρ G => .bk ρ G
def gCnt : FS := fun ρ G => .ct ρ G
theorem fs_pass {pos : Pos} : PS X (.Pass pos) (absS Γ Z gNext) := PS.imp ps_pass fun D σ H ⟨c, ρ, e, s, en, th⟩ => by
  subst e
  exact th c σ (Stp.refl c) s rfl en
theorem fs_brk {pos : Pos} : PS X (.Break pos) (absS Γ Z gBrk) := PS.imp ps_break fun D σ H ⟨c, ρ, e, s, en, th⟩ => by
  subst e
  exact th c σ (Stp.refl c) s rfl en
theorem fs_cnt {pos : Pos} : PS X (.Continue pos) (absS Γ Z gCnt) := PS.imp ps_continue fun D σ H ⟨c, ρ, e, s, en, th⟩ => by
  subst e
  exact th c σ (Stp.refl c) s rfl en
def gRet (g : FE) : FS := fun ρ G => (g ρ G).thn ρ fun w G1 => .rt w G1
theorem fs_ret {e : Expr} {g : FE} {pos : Pos} (h : PE X e (absE Γ Z g)) : PS X (.Return (some e) pos) (absS Γ Z (gRet g)) := PS.imp (ps_ret h) fun D σ H q => by
  obtain ⟨c, ρ, e, s, en, th⟩ := absS.bind (rel := Cf.Rp Γ) q
  exact ⟨c, ρ, e, s, en, Th.mono th fun v c1 st ⟨c2, ρ2, a, e2, s2, en2, ra, q⟩ => by rw [← e2]; exact q c2 v (Stp.refl c2) s2 rfl ra⟩
def gRetN : FS := fun ρ G => .rt .non G
theorem fs_retN {pos : Pos} : PS X (.Return none pos) (absS Γ Z gRetN) := PS.imp ps_retN fun D σ H ⟨c, ρ, e, s, en, th⟩ => by
  subst e
  exact th c .non (Stp.refl c) s rfl .non
def gDrop (g : FE) : FS := fun ρ G => (g ρ G).thn ρ fun _ G1 => .nx ρ G1
theorem fs_expr {e : Expr} {g : FE} {pos : Pos} (h : PE X e (absE Γ Z g)) (hs : swapsWith e none pos.line X.env = pure false := by rfl) : PS X (.Expr e pos) (absS Γ Z (gDrop g)) := PS.imp (ps_expr h hs) fun D σ H q => by
  obtain ⟨c, ρ, e, s, en, th⟩ := absS.bind (rel := Cf.Rp Γ) q
  exact ⟨c, ρ, e, s, en, Th.mono th fun v c1 st ⟨c2, ρ2, a, e2, s2, en2, ra, q⟩ => by rw [← e2]; exact q c2 σ (Stp.refl c2) s2 rfl en2⟩
def gIfS (t : FT) (a b : FS) : FS := fun ρ G => (t ρ G).thn ρ fun k G1 => if k then a ρ G1 else b ρ G1
theorem fs_if {t : Expr} {a b : List Stmt} {gt : FT} {ga gb : FS} {pos : Pos} (ht : PT X t (absT Γ Z gt)) (ha : PSs X a (absS Γ Z ga)) (hb : PSs X b (absS Γ Z gb)) : PS X (.If t a b pos) (absS Γ Z (gIfS gt ga gb)) := PS.imp (ps_if ht ha hb) fun D σ H q => by
  obtain ⟨c, ρ, e, s, en, th⟩ := absS.bind (rel := fun _ b b' => b = b') q
  refine ⟨c, ρ, e, s, en, Th.mono th fun v c1 st ⟨c2, ρ2, a, e2, s2, en2, ra, q⟩ => ?_⟩
  subst ra
  cases v with
  | true => exact ⟨c2, ρ2, e2, s2, en2, q⟩
  | false => exact ⟨c2, ρ2, e2, s2, en2, q⟩

/-! ### targets -/
abbrev FG := W → En → GH → RS
/-- a target's reading: only nx comes of it -/
def Agr (sl : List Nat) (σ σ' : L2.St) : Prop := σ'.length = σ.length ∧ ∀ i, i ∉ sl → σ'[i]? = σ[i]?
theorem Agr.refl (sl : List Nat) (σ : L2.St) : Agr sl σ σ := ⟨rfl, fun _ _ => rfl⟩
theorem Agr.trans {a b : List Nat} {σ σ1 σ2 : L2.St} (x : Agr a σ σ1) (y : Agr b σ1 σ2) : Agr (a ++ b) σ σ2 := ⟨y.1.trans x.1, fun i h => by
  rw [List.mem_append, not_or] at h
  rw [y.2 i h.2, x.2 i h.1]⟩
def absG1 (Γ : Gm) (sl : List Nat) (g : W → En → GH → Option (En × GH)) : TG := fun v σ H Q => ∃ (c : Cf) (ρ : En) (w : W), c.H = H ∧ SR Γ c ∧ c.En Γ ρ σ ∧ c.Rp Γ v w ∧
  match g w ρ c.G with
  | some (ρ', G') => ∀ (c' : Cf) (σ' : L2.St), Stp c c' → SR Γ c' → c'.G = G' → c'.En Γ ρ' σ' → Agr sl σ σ' → Q σ' c'.H
  | none => False
abbrev FG1 := W → En → GH → Option (En × GH)
abbrev FGs := List W → En → GH → Option (En × GH)
def absGs (Γ : Gm) (sl : List Nat) (g : FGs) : TGs := fun vs σ H Q => ∃ (c : Cf) (ρ : En) (ws : List W), c.H = H ∧ SR Γ c ∧ c.En Γ ρ σ ∧ c.RpAll Γ vs ws ∧
  match g ws ρ c.G with
  | some (ρ', G') => ∀ (c' : Cf) (σ' : L2.St), Stp c c' → SR Γ c' → c'.G = G' → c'.En Γ ρ' σ' → Agr sl σ σ' → Q σ' c'.H
  | none => False
theorem PG.imp {e : Expr} {t t' : TG} (h : PG X e t) (m : ∀ v σ H Q, t' v σ H Q → t v σ H Q) : PG X e t' := ⟨fun pins s σ H v u Q I r q => h.run pins s σ H v u Q I r (m v σ H Q q)⟩
theorem PGs.imp {e : List Expr} {t t' : TGs} (h : PGs X e t) (m : ∀ v σ H Q, t' v σ H Q → t v σ H Q) : PGs X e t' := ⟨fun pins s σ H v u Q I r q => h.run pins s σ H v u Q I r (m v σ H Q q)⟩
def tgName (i : Nat) : FG1 := fun w ρ G => some (ρ.set i (some w), G)
theorem fg_name {i : Nat} {e : Expr} (h : PG X e (gName i)) : PG X e (absG1 Γ [i] (tgName i)) := PG.imp h fun v σ H Q ⟨c, ρ, w, e, s, en, r, q⟩ => by
  subst e
  exact q c _ (Stp.refl c) s rfl (en.set r i) ⟨List.length_set, fun j h => List.getElem?_set_ne (fun z => h (by simp [z]))⟩
def tgNil : FGs := fun ws ρ G => match ws with
  | [] => some (ρ, G)
  | _ => none
def tgCons (g : FG1) (r : FGs) : FGs := fun ws ρ G => match ws with
  | [] => none
  | w :: ws => match g w ρ G with
    | some (ρ', G') => r ws ρ' G'
    | none => none
theorem fgs_nil : PGs X [] (absGs Γ [] tgNil) := PGs.imp pgs_nil fun vs σ H Q ⟨c, ρ, ws, e, s, en, r, q⟩ => by
  subst e
  cases r with
  | nil => exact ⟨rfl, q c _ (Stp.refl c) s rfl en (Agr.refl _ _)⟩
  | cons _ _ => exact q.elim
theorem fgs_cons {e : Expr} {es : List Expr} {g : FG1} {r : FGs} {sl sl' : List Nat} (h1 : PG X e (absG1 Γ sl g)) (h2 : PGs X es (absGs Γ sl' r)) (hs : (assignEach (e :: es) X.env).map (·.2) = assign e X.env :: (assignEach es X.env).map (·.2) := by rfl) :
    PGs X (e :: es) (absGs Γ (sl ++ sl') (tgCons g r)) := PGs.imp (pgs_cons h1 h2 hs) fun vs σ H Q ⟨c, ρ, ws, e, s, en, rr, q⟩ => by
  cases rr with
  | nil => exact q.elim
  | @cons v w vs ws h t =>
    refine ⟨v, vs, rfl, c, ρ, w, e, s, en, h, ?_⟩
    simp only [tgCons] at q
    cases k : g w ρ c.G with
    | none => rw [k] at q; exact q.elim
    | some p =>
      obtain ⟨ρ', G'⟩ := p
      rw [k] at q
      simp only at q ⊢
      intro c1 σ1 s1 s2 e1 en1 ag1
      subst e1
      refine ⟨c1, ρ', ws, rfl, s2, en1, s1.rpAll s t, ?_⟩
      cases k2 : r ws ρ' c1.G with
      | none => rw [k2] at q; exact q.elim
      | some p2 =>
        obtain ⟨ρ2, G2⟩ := p2
        rw [k2] at q
        exact fun c' σ' a b e d ag => q c' σ' (s1.trans a) b e d (ag1.trans ag)
def tgTup (n : Nat) (r : FGs) : FG1 := fun w ρ G => match w with
  | .tup ws => if ws.length = n then r ws ρ G else none
  | _ => none
theorem fg_tup {es : List Expr} {k : Nat} {r : FGs} {n : Nat} {pos : Pos} {sl : List Nat} (hc : X.calm = true) (h : PGs X es (absGs Γ sl r)) (hn : (assignEach es X.env).length = n := by rfl) (hst : (assignEach es X.env).findIdx? (·.1) = none := by rfl) (hK : Γ.K = X.K := by rfl) :
    PG X (.Tuple es k pos) (absG1 Γ sl (tgTup n r)) := PG.imp (pg_tup hc h hn hst) fun v σ H Q ⟨c, ρ, w, e, s, en, rr, q⟩ => by
  cases rr with
  | @tup a xs ws h1 r1 =>
    simp only [tgTup] at q
    by_cases k : ws.length = n
    · rw [if_pos k] at q
      subst e
      exact ⟨a, xs, rfl, hK ▸ h1, by rw [r1.length]; exact k, c, ρ, ws, rfl, s, en, r1, q⟩
    · rw [if_neg k] at q
      exact q.elim
  | _ => exact q.elim
def gAsg (g : FE) (t : FG1) : FS := fun ρ G => (g ρ G).thn ρ fun w G1 => match t w ρ G1 with
  | some (ρ', G') => .nx ρ' G'
  | none => .no
theorem asg_ok {g : FE} {t : FG1} {sl : List Nat} {D : Ends} {σ : L2.St} {H : Hp} (q : absS Γ Z (gAsg g t) D σ H) : absE Γ Z g σ H (fun v H1 => absG1 Γ sl t v σ H1 D.nx) := by
  obtain ⟨c, ρ, e, s, en, th⟩ := absS.bind (rel := Cf.Rp Γ) q
  refine ⟨c, ρ, e, s, en, Th.mono th fun v c1 st ⟨c2, ρ2, a, e2, s2, en2, ra, q⟩ => ?_⟩
  refine ⟨c2, ρ2, a, e2, s2, en2, ra, ?_⟩
  cases k : t a ρ2 c2.G with
  | none => rw [k] at q; exact q.elim
  | some p => rw [k] at q; exact fun c' σ' a b e d _ => q c' σ' a b e d
theorem fs_asg {tg e : Expr} {g : FE} {t : FG1} {sl : List Nat} {pos : Pos} (he : PE X e (absE Γ Z g)) (hg : PG X tg (absG1 Γ sl t)) (hs : swapsWithSole [tg] e pos.line X.env = pure false := by rfl) (hw : swappedStores [tg] e X.env = pure none := by rfl)
    (h1 : (assignEach [tg] X.env).map (·.2) = [assign tg X.env] := by rfl) : PS X (.Assign [tg] e pos) (absS Γ Z (gAsg g t)) := PS.imp (ps_asg he hg hs hw h1) fun D σ H q => asg_ok q
/-- o[i] = .. of a list -/
def fSet (o i v : W) (G : GH) : Option GH := match o, i with
  | .ref n, .int k => match G.at_ n with
    | some (.lst ws) => match ixN ws.length k with
      | some j => some (G.set n (.lst (ws.set j v)))
      | none => none
    | _ => none
  | _, _ => none
def gSet (gv go gi : FE) : FS := fun ρ G => (gv ρ G).thn ρ fun v G1 => (go ρ G1).thn ρ fun o G2 => (gi ρ G2).thn ρ fun i G3 => match fSet o i v G3 with
  | some G4 => .nx ρ G4
  | none => .no
theorem set_ok {c : Cf} {o i v : V} {wo wi wv : W} {G4 : GH} (s : SR Γ c) (ro : c.Rp Γ o wo) (ri : c.Rp Γ i wi) (rv : c.Rp Γ v wv) (e : fSet wo wi wv c.G = some G4) {Q : Hp → Prop}
    (h : ∀ c', Stp c c' → SR Γ c' → c'.G = G4 → Q c'.H) : rSetL o i v c.H Q := by
  unfold fSet at e
  cases ro with
  | @ref n a hn =>
    cases ri with
    | int k =>
      simp only at e
      cases q : c.G.at_ n with
      | none => simp [q] at e
      | some ob =>
        obtain ⟨b, ho, e1, e2, r⟩ := s.obj n ob q
        rw [hn] at e1; cases e1
        cases r with
        | @lst xs ws r =>
          simp only [q] at e
          cases j : ixN ws.length k with
          | none => simp [j] at e
          | some m =>
            simp only [j, Option.some.injEq] at e
            subst e
            obtain ⟨st, s'⟩ := upd_own (ho := .lst (xs.set m v)) s q hn (.lst (r.set rv m))
            exact ⟨a, xs, k, m, rfl, rfl, e2, by rw [r.length]; exact j, h _ st s' rfl⟩
        | dic _ _ => simp [q] at e
        | ins _ _ => simp [q] at e
    | _ => cases e
  | _ => cases e
theorem fs_set {o i e : Expr} {gv go gi : FE} {p2 pos : Pos} (he : PE X e (absE Γ Z gv)) (ho : PE X o (absE Γ Z go)) (hi : PE X i (absE Γ Z gi))
    (ha : ∀ v, assign (.Subscript o i p2) X.env v = (do
      let ov ← holding [v] (eval o X.env)
      let iv ← holding [v, ov] (eval i X.env)
      standAt p2
      holding [v, ov, iv] (setItem ov iv v)
      release [v, ov, iv] []) := by intro _; rfl) (hs : swapsWithSole [.Subscript o i p2] e pos.line X.env = pure false := by rfl) (hw : swappedStores [.Subscript o i p2] e X.env = pure none := by rfl)
    (h1 : (assignEach [.Subscript o i p2] X.env).map (·.2) = [assign (.Subscript o i p2) X.env] := by rfl) : PS X (.Assign [.Subscript o i p2] e pos) (absS Γ Z (gSet gv go gi)) :=
  PS.imp (ps_asg he (pg_sub ho hi set_list ha) hs hw h1) fun D σ H q => by
    obtain ⟨c, ρ, e, s, en, th⟩ := absS.bind (rel := Cf.Rp Γ) q
    refine ⟨c, ρ, e, s, en, Th.mono th fun v c1 st ⟨c2, ρ2, a, e2, s2, en2, ra, q⟩ => ?_⟩
    refine ⟨c2, ρ2, e2, s2, en2, Th.mono (ThS.bind s2 en2 q) fun ov c3 st3 ⟨c4, b, e4, st4, s4, en4, rb, q4⟩ => ?_⟩
    refine ⟨c4, ρ2, e4, s4, en4, Th.mono (ThS.bind s4 en4 q4) fun iv c5 st5 ⟨c6, b6, e6, st6, s6, en6, rb6, q6⟩ => ?_⟩
    rw [← e6]
    cases k : fSet b b6 a c6.G with
    | none => simp only [k] at q6; exact q6.elim
    | some G4 =>
      simp only [k] at q6
      exact set_ok s6 (st6.rp s4 rb) rb6 (st6.rp s4 (st4.rp s2 ra)) k fun c' st' s' e' => q6 c' σ st' s' e' (st'.en s6 en6)
end
end Fn

set_option Elab.async false
set_option linter.all false
set_option maxRecDepth 100000
namespace Fn
open PySem PySem.Spec PyProof.Rows L2

/-! ### while -/
def whileF (t : FT) (b : FS) : Nat → FS
  | 0 => fun _ _ => .no
  | n + 1 => fun ρ G => (t ρ G).thn ρ fun k G1 => if k then (match b ρ G1 with
      | .nx ρ' G' => whileF t b n ρ' G'
      | .ct ρ' G' => whileF t b n ρ' G'
      | .bk ρ' G' => .nx ρ' G'
      | .rt w G' => .rt w G'
      | .ex x ρ' G' => .ex x ρ' G'
      | .no => .no) else .nx ρ G1
theorem whileF_more (t : FT) (b : FS) : ∀ (n : Nat) (ρ : En) (G : GH), whileF t b n ρ G ≠ .no → ∀ m, n ≤ m → whileF t b m ρ G = whileF t b n ρ G
  | 0, _, _, h, _, _ => absurd rfl h
  | n + 1, ρ, G, h, 0, hm => absurd hm (by omega)
  | n + 1, ρ, G, h, m + 1, hm => by
    unfold whileF at h ⊢
    cases k : t ρ G with
    | ex x G1 => rfl
    | no => rfl
    | ok c G1 =>
      rw [k] at h
      cases c with
      | false => rfl
      | true =>
        simp only [R.thn, if_true] at h ⊢
        cases q : b ρ G1 with
        | nx ρ' G' => rw [q] at h; exact whileF_more t b n ρ' G' h m (by omega)
        | ct ρ' G' => rw [q] at h; exact whileF_more t b n ρ' G' h m (by omega)
        | bk ρ' G' => rfl
        | rt w G' => rfl
        | ex x ρ' G' => rfl
        | no => rfl
open Classical in
noncomputable def gWhile (t : FT) (b : FS) : FS := fun ρ G => if h : ∃ n, whileF t b n ρ G ≠ .no then whileF t b h.choose ρ G else .no
theorem gWhile_of {t : FT} {b : FS} {n : Nat} {ρ : En} {G : GH} (h : whileF t b n ρ G ≠ .no) : gWhile t b ρ G = whileF t b n ρ G := by
  have e : ∃ n, whileF t b n ρ G ≠ .no := ⟨n, h⟩
  unfold gWhile
  rw [dif_pos e]
  rcases Nat.le_total n e.choose with l | l
  · exact whileF_more t b n ρ G h _ l
  · exact (whileF_more t b _ ρ G e.choose_spec _ l).symm
theorem gWhile_eq (t : FT) (b : FS) (ρ : En) (G : GH) : gWhile t b ρ G = (t ρ G).thn ρ fun k G1 => if k then (match b ρ G1 with
      | .nx ρ' G' => gWhile t b ρ' G'
      | .ct ρ' G' => gWhile t b ρ' G'
      | .bk ρ' G' => .nx ρ' G'
      | .rt w G' => .rt w G'
      | .ex x ρ' G' => .ex x ρ' G'
      | .no => .no) else .nx ρ G1 := by
  by_cases e : ∃ n, whileF t b n ρ G ≠ .no
  · obtain ⟨n, h⟩ := e
    rw [gWhile_of h]
    cases n with
    | zero => exact absurd rfl h
    | succ n =>
      unfold whileF at h ⊢
      cases k : t ρ G with
      | ex x G1 => rfl
      | no => rfl
      | ok c G1 =>
        rw [k] at h
        cases c with
        | false => rfl
        | true =>
          simp only [R.thn, if_true] at h ⊢
          cases q : b ρ G1 with
          | nx ρ' G' => rw [q] at h; exact (gWhile_of h).symm
          | ct ρ' G' => rw [q] at h; exact (gWhile_of h).symm
          | bk ρ' G' => rfl
          | rt w G' => rfl
          | ex x ρ' G' => rfl
          | no => rfl
  · have e1 : gWhile t b ρ G = .no := by unfold gWhile; rw [dif_neg e]
    rw [e1]
    have none : ∀ n, whileF t b n ρ G = .no := fun n => Classical.byContradiction fun h => e ⟨n, h⟩
    have n1 := none 1
    unfold whileF at n1
    cases k : t ρ G with
    | ex x G1 => rw [k] at n1; cases n1
    | no => rfl
    | ok c G1 =>
      cases c with
      | false => rw [k] at n1; cases n1
      | true =>
        simp only [R.thn, if_true]
        have step : ∀ n, (match b ρ G1 with
            | .nx ρ' G' => whileF t b n ρ' G'
            | .ct ρ' G' => whileF t b n ρ' G'
            | .bk ρ' G' => .nx ρ' G'
            | .rt w G' => .rt w G'
            | .ex x ρ' G' => .ex x ρ' G'
            | .no => .no) = RS.no := fun n => by
          have := none (n + 1)
          unfold whileF at this
          rw [k] at this
          simpa only [R.thn, if_true] using this
        cases q : b ρ G1 with
        | nx ρ' G' =>
          have z : ¬ ∃ n, whileF t b n ρ' G' ≠ .no := fun ⟨n, h⟩ => h (by have := step n; rwa [q] at this)
          unfold gWhile; simp only; rw [dif_neg z]
        | ct ρ' G' =>
          have z : ¬ ∃ n, whileF t b n ρ' G' ≠ .no := fun ⟨n, h⟩ => h (by have := step n; rwa [q] at this)
          unfold gWhile; simp only; rw [dif_neg z]
        | bk ρ' G' => have := step 0; rw [q] at this; cases this
        | rt w G' => have := step 0; rw [q] at this; cases this
        | ex x ρ' G' => have := step 0; rw [q] at this; cases this
        | no => rfl
section
variable {X : Cx} {Γ : Gm} {Z : WXk}
theorem fs_while {t : Expr} {b : List Stmt} {gt : FT} {gb : FS} {pos : Pos} (hp : PassesOwn (model X.prog X.w) X.A X.env X.xe) (ht : PT X t (absT Γ Z gt)) (hb : PSs X b (absS Γ Z gb)) : PS X (.While t b [] pos) (absS Γ Z (gWhile gt gb)) :=
  PS.imp (ps_while hp ht hb) fun D σ H ⟨c, ρ, e, s, en, th⟩ => by
    have hn : ∃ n, whileF gt gb n ρ c.G ≠ .no := Classical.byContradiction fun q => by
      unfold gWhile at th
      rw [dif_neg q] at th
      exact th
    obtain ⟨n, hn⟩ := hn
    rw [gWhile_of hn] at th
    refine ⟨fun m σ H => ∃ (c : Cf) (ρ : En), c.H = H ∧ SR Γ c ∧ c.En Γ ρ σ ∧ ThS Γ Z D c (whileF gt gb m ρ c.G), ⟨n, c, ρ, e, s, en, th⟩, ?_⟩
    rintro m σ H ⟨c, ρ, e, s, en, th⟩
    cases m with
    | zero => exact th.elim
    | succ m =>
      unfold whileF at th
      refine ⟨c, ρ, e, s, en, Th.mono (ThS.bind (rel := fun _ b b' => b = b') s en th) fun v c1 st ⟨c2, a, e2, st2, s2, en2, ra, q⟩ => ?_⟩
      subst ra
      cases v with
      | false => rw [← e2]; exact q c2 σ (Stp.refl c2) s2 rfl en2
      | true =>
        simp only [if_true] at q ⊢
        refine ⟨fun σ H => ∃ (c : Cf) (ρ : En), c.H = H ∧ SR Γ c ∧ c.En Γ ρ σ ∧ ThS Γ Z D c (whileF gt gb m ρ c.G), fun σ' H' h => ⟨m, Nat.lt_succ_self m, h⟩, c2, ρ, e2, s2, en2, ?_⟩
        cases k : gb ρ c2.G with
        | nx ρ' G' => rw [k] at q; exact fun c' σ' a b e' en' => ⟨c', ρ', rfl, b, en', by subst e'; exact ThS.from a q⟩
        | ct ρ' G' => rw [k] at q; exact fun c' σ' a b e' en' => ⟨c', ρ', rfl, b, en', by subst e'; exact ThS.from a q⟩
        | bk ρ' G' => rw [k] at q; exact q
        | rt w G' => rw [k] at q; exact q
        | ex x ρ' G' => rw [k] at q; exact q
        | no => rw [k] at q; exact q.elim
end

/-! ### for over items that are known -/
structure Walks (Γ : Gm) (c0 : Cf) (J : It) (ws : List W) : Prop where
  go : ∀ c, StpW c0 c → SR Γ c → ∀ i, i < ws.length → J.go i c.H
  stop : ∀ c, StpW c0 c → SR Γ c → ∀ i, ws.length ≤ i → J.stop i c.H
  yld : ∀ c, StpW c0 c → SR Γ c → ∀ i x H', i < ws.length → J.yld i c.H x H' → ∃ (w : W) (c' : Cf), ws[i]? = some w ∧ c'.H = H' ∧ Stp c c' ∧ SR Γ c' ∧ c'.G = c.G ∧ c'.Rp Γ x w
/-- what is walked: items that are known, or an owned list -/
inductive Wk where
  | vals (ws : List W)
  | own (n : Nat)
def RWk (Γ : Gm) (c : Cf) (J : It) : Wk → Prop
  | .vals ws => Walks Γ c J ws
  | .own n => ∃ a, c.ι[n]? = some a ∧ J = Itl Γ.K a
abbrev FI := En → GH → R Wk
abbrev absI (Γ : Gm) (Z : WXk) (g : FI) : TI := absG Γ Z (fun c J k => RWk Γ c J k) g
def lenO (G : GH) (n : Nat) : Nat := match G.at_ n with
  | some (.lst us) => us.length
  | _ => 0
def turnF (t : FG1) (b : FS) (w : W) (ρ : En) (G : GH) (k : En → GH → RS) : RS := match t w ρ G with
  | none => .no
  | some (ρ1, G1) => match b ρ1 G1 with
    | .nx ρ' G' => k ρ' G'
    | .ct ρ' G' => k ρ' G'
    | .bk ρ' G' => .nx ρ' G'
    | .rt w G' => .rt w G'
    | .ex x ρ' G' => .ex x ρ' G'
    | .no => .no
def forF (t : FG1) (b : FS) : List W → FS
  | [] => fun ρ G => .nx ρ G
  | w :: ws => fun ρ G => turnF t b w ρ G (forF t b ws)
/-- over an owned list: what it holds at each turn -/
def forO (n : Nat) (t : FG1) (b : FS) : Nat → Nat → FS
  | 0, i => fun ρ G => match G.at_ n with
    | some (.lst us) => if us.length ≤ i then .nx ρ G else .no
    | _ => .no
  | k + 1, i => fun ρ G => match G.at_ n with
    | some (.lst us) => match us[i]? with
      | some w => turnF t b w ρ G (forO n t b k (i + 1))
      | none => .nx ρ G
    | _ => .no
def forW (t : FG1) (b : FS) (k : Wk) : FS := match k with
  | .vals ws => forF t b ws
  | .own n => fun ρ G => forO n t b (lenO G n) 0 ρ G
def gFor (gi : FI) (t : FG1) (b : FS) : FS := fun ρ G => (gi ρ G).thn ρ fun k G1 => forW t b k ρ G1
section
variable {X : Cx} {Γ : Gm} {Z : WXk}
theorem for_ok {t : FG1} {sl : List Nat} {gb : FS} {D : Ends} {J : It} {ws : List W} {c0 : Cf} {ρ0 : En} {σ0 : L2.St} (s0 : SR Γ c0) (wk : Walks Γ c0 J ws) (en0 : c0.En Γ ρ0 σ0) (th0 : ThS Γ Z D c0 (forF t gb ws ρ0 c0.G)) :
    ∃ Wd : Nat → Nat → L2.St → Hp → Prop, (∃ m, Wd 0 m σ0 c0.H) ∧ ∀ i m σ H, Wd i m σ H →
      (J.stop i H ∧ D.nx σ H) ∨ (J.go i H ∧ ∃ N : L2.St → Hp → Prop, (∀ σ' H', N σ' H' → ∃ m', m' < m ∧ Wd (i + 1) m' σ' H') ∧ ∀ x H', J.yld i H x H' → absG1 Γ sl t x σ H' fun σ2 H2 => absS Γ Z gb { D with nx := N, ct := N, bk := D.nx } σ2 H2) := by
  refine ⟨fun i m σ H => m = ws.length - i ∧ i ≤ ws.length ∧ ∃ (c : Cf) (ρ : En), c.H = H ∧ Stp c0 c ∧ SR Γ c ∧ c.En Γ ρ σ ∧ ThS Γ Z D c (forF t gb (ws.drop i) ρ c.G), ⟨_, rfl, Nat.zero_le _, c0, ρ0, rfl, Stp.refl c0, s0, en0, th0⟩, ?_⟩
  rintro i m σ H ⟨rfl, hi, c, ρ, rfl, st, s, en, th⟩
  by_cases hlt : i < ws.length
  · have ed : ws.drop i = ws[i] :: ws.drop (i + 1) := (List.drop_eq_getElem_cons hlt)
    rw [ed] at th
    refine .inr ⟨wk.go c st.w s i hlt, fun σ H => ∃ (c : Cf) (ρ : En), c.H = H ∧ Stp c0 c ∧ SR Γ c ∧ c.En Γ ρ σ ∧ ThS Γ Z D c (forF t gb (ws.drop (i + 1)) ρ c.G), fun σ' H' h => ⟨_, by omega, rfl, hlt, h⟩, fun x H' y => ?_⟩
    obtain ⟨w, c1, ew, e1, st1, s1, eG, rw1⟩ := wk.yld c st.w s i x H' hlt y
    have ew : ws[i] = w := by rw [List.getElem?_eq_getElem hlt] at ew; exact Option.some.inj ew
    rw [ew] at th
    refine ⟨c1, ρ, w, e1, s1, st1.en s en, rw1, ?_⟩
    unfold forF turnF at th
    rw [eG]
    cases k : t w ρ c.G with
    | none => rw [k] at th; exact th.elim
    | some p =>
      obtain ⟨ρ1, G1⟩ := p
      rw [k] at th
      simp only at th ⊢
      intro c2 σ2 st2 s2 e2 en2 _
      refine ⟨c2, ρ1, rfl, s2, en2, ?_⟩
      rw [e2]
      cases q : gb ρ1 G1 with
      | nx ρ' G' => rw [q] at th; exact fun c' σ' a b e' en' => ⟨c', ρ', rfl, st.trans (st1.trans (st2.trans a)), b, en', by subst e'; exact ThS.from (st1.trans (st2.trans a)) th⟩
      | ct ρ' G' => rw [q] at th; exact fun c' σ' a b e' en' => ⟨c', ρ', rfl, st.trans (st1.trans (st2.trans a)), b, en', by subst e'; exact ThS.from (st1.trans (st2.trans a)) th⟩
      | bk ρ' G' => rw [q] at th; exact ThS.from (r := .nx ρ' G') (D := D) (Z := Z) (st1.trans st2) th
      | rt w G' => rw [q] at th; exact ThS.from (r := .rt w G') (D := D) (Z := Z) (st1.trans st2) th
      | ex x ρ' G' => rw [q] at th; exact ThS.from (r := .ex x ρ' G') (D := D) (Z := Z) (st1.trans st2) th
      | no => rw [q] at th; exact th.elim
  · have e : i = ws.length := by omega
    subst e
    rw [List.drop_length] at th
    exact .inl ⟨wk.stop c st.w s _ (Nat.le_refl _), th c σ (Stp.refl c) s rfl en⟩
theorem forO_ok {t : FG1} {sl : List Nat} {gb : FS} {D : Ends} {n k0 : Nat} {a : Addr} {c0 : Cf} {ρ0 : En} {σ0 : L2.St} (s0 : SR Γ c0) (ha : c0.ι[n]? = some a) (en0 : c0.En Γ ρ0 σ0) (th0 : ThS Γ Z D c0 (forO n t gb k0 0 ρ0 c0.G)) :
    ∃ Wd : Nat → Nat → L2.St → Hp → Prop, (∃ m, Wd 0 m σ0 c0.H) ∧ ∀ i m σ H, Wd i m σ H →
      ((Itl Γ.K a).stop i H ∧ D.nx σ H) ∨ ((Itl Γ.K a).go i H ∧ ∃ N : L2.St → Hp → Prop, (∀ σ' H', N σ' H' → ∃ m', m' < m ∧ Wd (i + 1) m' σ' H') ∧ ∀ x H', (Itl Γ.K a).yld i H x H' → absG1 Γ sl t x σ H' fun σ2 H2 => absS Γ Z gb { D with nx := N, ct := N, bk := D.nx } σ2 H2) := by
  refine ⟨fun i m σ H => ∃ (c : Cf) (ρ : En), c.H = H ∧ Stp c0 c ∧ SR Γ c ∧ c.En Γ ρ σ ∧ ThS Γ Z D c (forO n t gb m i ρ c.G), ⟨_, c0, ρ0, rfl, Stp.refl c0, s0, en0, th0⟩, ?_⟩
  rintro i m σ H ⟨c, ρ, rfl, st, s, en, th⟩
  have hn : c.ι[n]? = some a := st.pre n a ha
  have at_ : ∀ us, c.G.at_ n = some (.lst us) → ∃ xs, SqL Γ.K c.H a xs ∧ c.RpAll Γ xs us := fun us e => by
    obtain ⟨b, ho, e1, e2, r⟩ := s.obj n _ e
    rw [hn] at e1; cases e1
    cases r with
    | lst r => exact ⟨_, .inl (.inl e2), r⟩
  cases m with
  | zero =>
    unfold forO at th
    split at th
    · rename_i us e
      obtain ⟨xs, hq, r⟩ := at_ us e
      by_cases k : us.length ≤ i
      · rw [if_pos k] at th
        exact .inl ⟨⟨xs, hq, by rw [r.length]; exact k⟩, th c σ (Stp.refl c) s rfl en⟩
      · rw [if_neg k] at th; exact th.elim
    · exact th.elim
  | succ m =>
    unfold forO at th
    split at th
    · rename_i us e
      obtain ⟨xs, hq, r⟩ := at_ us e
      split at th
      · rename_i w ew
        obtain ⟨v, ev, rw1⟩ := r.get ew
        refine .inr ⟨⟨xs, v, hq, ev⟩, fun σ H => ∃ (c : Cf) (ρ : En), c.H = H ∧ Stp c0 c ∧ SR Γ c ∧ c.En Γ ρ σ ∧ ThS Γ Z D c (forO n t gb m (i + 1) ρ c.G), fun σ' H' h => ⟨m, Nat.lt_succ_self m, h⟩, fun x H' y => ?_⟩
        obtain ⟨rfl, y⟩ := y
        have := y xs hq
        rw [ev] at this
        cases this
        refine ⟨c, ρ, w, rfl, s, en, rw1, ?_⟩
        unfold turnF at th
        cases k : t w ρ c.G with
        | none => rw [k] at th; exact th.elim
        | some p =>
          obtain ⟨ρ1, G1⟩ := p
          rw [k] at th
          simp only at th ⊢
          intro c2 σ2 st2 s2 e2 en2 _
          refine ⟨c2, ρ1, rfl, s2, en2, ?_⟩
          rw [e2]
          cases q : gb ρ1 G1 with
          | nx ρ' G' => rw [q] at th; exact fun c' σ' a b e' en' => ⟨c', ρ', rfl, st.trans (st2.trans a), b, en', by subst e'; exact ThS.from (st2.trans a) th⟩
          | ct ρ' G' => rw [q] at th; exact fun c' σ' a b e' en' => ⟨c', ρ', rfl, st.trans (st2.trans a), b, en', by subst e'; exact ThS.from (st2.trans a) th⟩
          | bk ρ' G' => rw [q] at th; exact ThS.from (r := .nx ρ' G') (D := D) (Z := Z) st2 th
          | rt w G' => rw [q] at th; exact ThS.from (r := .rt w G') (D := D) (Z := Z) st2 th
          | ex x ρ' G' => rw [q] at th; exact ThS.from (r := .ex x ρ' G') (D := D) (Z := Z) st2 th
          | no => rw [q] at th; exact th.elim
      · rename_i ew
        have hl : us.length ≤ i := List.getElem?_eq_none_iff.mp ew
        exact .inl ⟨⟨xs, hq, by rw [r.length]; exact hl⟩, th c σ (Stp.refl c) s rfl en⟩
    · exact th.elim
theorem fs_for {tg iter : Expr} {b : List Stmt} {gi : FI} {t : FG1} {sl : List Nat} {gb : FS} {pos : Pos} (hp : PassesOwn (model X.prog X.w) X.A X.env X.xe) (hc : X.calm = true) (hi : PI X tg iter (absI Γ Z gi)) (ht : PG X tg (absG1 Γ sl t)) (hb : PSs X b (absS Γ Z gb))
    (hs : ∀ x, foldedSetIterable iter X.env x = pure x := by intro _; rfl) : PS X (.For tg iter b [] pos) (absS Γ Z (gFor gi t gb)) :=
  PS.imp (ps_for hp hc hi ht hb hs) fun D σ H q => by
    obtain ⟨c, ρ, e, s, en, th⟩ := absS.bind (rel := fun c J k => RWk Γ c J k) q
    refine ⟨c, ρ, e, s, en, Th.mono th fun J c1 st ⟨c2, ρ2, k, e2, s2, en2, wk, q⟩ => ?_⟩
    rw [← e2]
    cases k with
    | vals ws => exact for_ok s2 wk en2 q
    | own n =>
      obtain ⟨a, ha, rfl⟩ := wk
      exact forO_ok s2 ha en2 q

/-! ### what is walked -/
theorem PI.imp {tg e : Expr} {t t' : TI} (h : PI X tg e t) (m : ∀ σ H R, t' σ H R → t σ H R) : PI X tg e t' := ⟨fun pins s σ H R I q => h.run pins s σ H R I (m σ H R q)⟩
theorem lstWalks {c : Cf} {a : Addr} {xs : List V} {ws : List W} (k : ∀ c', StpW c c' → SR Γ c' → SqL Γ.K c'.H a xs) (r : c.RpAll Γ xs ws) (s : SR Γ c) : Walks Γ c (Itl Γ.K a) ws where
  go := fun c' st s' i hi => ⟨xs, xs[i]'(by rw [r.length]; exact hi), k c' st s', List.getElem?_eq_getElem _⟩
  stop := fun c' st s' i hi => ⟨xs, k c' st s', by rw [r.length]; exact hi⟩
  yld := fun c' st s' i x H' hi ⟨e, y⟩ => by
    subst e
    obtain ⟨w, ew, rw1⟩ := r.getV (y xs (k c' st s'))
    exact ⟨w, c', ew, rfl, Stp.refl c', s', rfl, st.rp s rw1⟩
theorem tupWalks {c : Cf} {a : Addr} {xs : List V} {ws : List W} (h : SqT Γ.K c.H a xs) (r : c.RpAll Γ xs ws) (s : SR Γ c) : Walks Γ c (Itt Γ.K a) ws where
  go := fun c' st s' i hi => ⟨xs, xs[i]'(by rw [r.length]; exact hi), st.sqT s h, List.getElem?_eq_getElem _⟩
  stop := fun c' st s' i hi => ⟨xs, st.sqT s h, by rw [r.length]; exact hi⟩
  yld := fun c' st s' i x H' hi ⟨e, y⟩ => by
    subst e
    obtain ⟨w, ew, rw1⟩ := r.getV (y xs (st.sqT s h))
    exact ⟨w, c', ew, rfl, Stp.refl c', s', rfl, st.rp s rw1⟩
def iSeqA (K : PySem.W.Frag) (tl : TE) : TI := fun σ H R => tl σ H fun x H1 => ∃ a, x = .ref a ∧ ((∃ xs, SqL K H1 a xs) ∧ R (Itl K a) H1 ∨ (∃ xs, SqT K H1 a xs) ∧ R (Itt K a) H1)
theorem pi_seqA {tg l : Expr} {tl : TE} (hl : PE X l tl) : PI X tg l (iSeqA X.K tl) := by
  refine ⟨fun pins s σ H R I h => ?_⟩
  refine thn (hl.run pins s σ H _ I h) fun v s1 ⟨x, H1, I1, r1, q1⟩ => ?_
  obtain ⟨a, e, q⟩ := q1
  subst e
  cases r1
  rcases q with ⟨⟨xs, hq⟩, q⟩ | ⟨⟨xs, hq⟩, q⟩
  · obtain ⟨its, rv, p, hz⟩ := I1.list hq
    refine wpAny_pyIter_list p.isList ?_
    refine ⟨s1.heap.objs.size, [s1.heap.objs.size], _, _, H1, rfl, I1.kept (t' := s1.toks) fun b o e => Heap.get?_push_of_some _ e, turn_list a _, ⟨_, Heap.get?_push_size _ rfl, rfl, rfl⟩, fun b hb => ?_, q⟩
    have e : b = s1.heap.objs.size := by simpa using hb
    subst e
    exact I1.fpOk (Nat.le_refl _) (I1.hok.fresh (Nat.le_refl _))
  · obtain ⟨its, rv, p, hz⟩ := I1.tuple hq
    refine wpAny_pyIter_tuple (show s1.heap.IsTuple a its.toArray from p) ?_
    refine ⟨s1.heap.objs.size, [s1.heap.objs.size], _, _, H1, rfl, I1.kept (t' := s1.toks) fun b o e => Heap.get?_push_of_some _ e, turn_tuple a _, ⟨_, Heap.get?_push_size _ rfl, rfl, rfl⟩, fun b hb => ?_, q⟩
    have e : b = s1.heap.objs.size := by simpa using hb
    subst e
    exact I1.fpOk (Nat.le_refl _) (I1.hok.fresh (Nat.le_refl _))
/-- a list or a tuple, or an owned list -/
def asSeq (w : W) (G : GH) : R Wk := match w with
  | .lst ws => .ok (.vals ws) G
  | .tup ws => .ok (.vals ws) G
  | .ref n => match G.at_ n with
    | some (.lst _) => .ok (.own n) G
    | _ => .no
  | _ => .no
def iSeq (g : FE) : FI := fun ρ G => (g ρ G).bind asSeq
theorem fi_seq {tg e : Expr} {g : FE} (h : PE X e (absE Γ Z g)) (hK : Γ.K = X.K := by rfl) : PI X tg e (absI Γ Z (iSeq g)) := PI.imp (pi_seqA h) fun σ H R q => by
  obtain ⟨c, ρ, e, s, en, th⟩ := absG.bind q
  refine ⟨c, ρ, e, s, en, Th.mono th fun v c1 st ⟨c2, ρ2, a, e2, s2, en2, ra, q⟩ => ?_⟩
  rw [← e2]
  cases ra with
  | tup h r => exact ⟨_, rfl, .inr ⟨⟨_, hK ▸ h⟩, hK ▸ q c2 _ (Stp.refl c2) s2 rfl (tupWalks h r s2)⟩⟩
  | lst h n r => exact ⟨_, rfl, .inl ⟨⟨_, by rw [← hK]; exact .inl h⟩, hK ▸ q c2 _ (Stp.refl c2) s2 rfl (lstWalks (fun c' st' s' => .inl (st'.rd n h)) r s2)⟩⟩
  | lstK h1 h2 h3 h4 h5 h6 r => exact ⟨_, rfl, .inl ⟨⟨_, by rw [← hK]; exact .inr ⟨_, _, _, h1, h2, h3, h4, h5, h6⟩⟩, hK ▸ q c2 _ (Stp.refl c2) s2 rfl (lstWalks (fun c' st' s' => .inr ⟨_, _, _, h1, h2, h3, h4, h5, h6⟩) r s2)⟩⟩
  | @ref n a h1 =>
    unfold asSeq at q
    simp only at q
    split at q
    · rename_i us e
      obtain ⟨b, ho, e1, e2, r⟩ := s2.obj n _ e
      rw [h1] at e1; cases e1
      cases r with
      | lst r => exact ⟨_, rfl, .inl ⟨⟨_, by rw [← hK]; exact .inl (.inl e2)⟩, hK ▸ q c2 _ (Stp.refl c2) s2 rfl ⟨_, h1, rfl⟩⟩⟩
    · exact q.elim
  | _ => exact q.elim
/-- lo, lo + 1, .. -/
def rngW (lo : Int) : Nat → List W
  | 0 => []
  | n + 1 => .int lo :: rngW (lo + 1) n
theorem rngW_length : ∀ (n : Nat) (lo : Int), (rngW lo n).length = n
  | 0, _ => rfl
  | n + 1, lo => by rw [rngW, List.length_cons, rngW_length n]
theorem rngW_get : ∀ (n : Nat) (lo : Int) (i : Nat), i < n → (rngW lo n)[i]? = some (.int (lo + i))
  | 0, _, _, h => absurd h (by omega)
  | n + 1, lo, 0, _ => by simp [rngW]
  | n + 1, lo, i + 1, h => by
    rw [rngW, List.getElem?_cons_succ, rngW_get n (lo + 1) i (by omega)]
    congr 2
    omega
theorem rngWalks {c : Cf} {lo : Int} {n : Nat} : Walks Γ c (Itr lo n) (rngW lo n) where
  go := fun c' st s' i hi => by rw [rngW_length] at hi; exact hi
  stop := fun c' st s' i hi => by rw [rngW_length] at hi; exact hi
  yld := fun c' st s' i x H' hi ⟨e, y⟩ => by
    subst e y
    rw [rngW_length] at hi
    exact ⟨_, c', rngW_get n lo i hi, rfl, Stp.refl c', s', rfl, .int _⟩
def small62 (i : Int) : Bool := decide (-(2 ^ 62) ≤ i) && decide (i < 2 ^ 62)
def asRng1 (ws : List W) (G : GH) : R Wk := match ws with
  | [.int j] => if small62 j then .ok (.vals (rngW 0 j.toNat)) G else .no
  | _ => .no
def asRng2 (ws : List W) (G : GH) : R Wk := match ws with
  | [.int i, .int j] => if small62 i && small62 j then .ok (.vals (rngW i (j - i).toNat)) G else .no
  | _ => .no
def iRng (f : List W → GH → R Wk) (g : FA) : FI := fun ρ G => (g ρ G).bind f
theorem small62_ok {i : Int} (h : small62 i = true) : -(2 ^ 62) ≤ i ∧ i < 2 ^ 62 := by
  unfold small62 at h
  simpa only [Bool.and_eq_true, decide_eq_true_eq] using h
theorem RpAll.one {c : Cf} {vs : List V} {w : W} (r : c.RpAll Γ vs [w]) : ∃ v, vs = [v] ∧ c.Rp Γ v w := by
  cases r with
  | cons h t => cases t; exact ⟨_, rfl, h⟩
theorem RpAll.two {c : Cf} {vs : List V} {w u : W} (r : c.RpAll Γ vs [w, u]) : ∃ v x, vs = [v, x] ∧ c.Rp Γ v w ∧ c.Rp Γ x u := by
  cases r with
  | cons h t => obtain ⟨x, e, h2⟩ := RpAll.one (c := c) t; subst e; exact ⟨_, _, rfl, h, h2⟩
theorem Rp.int_of {c : Cf} {v : V} {i : Int} (r : c.Rp Γ v (.int i)) : v = .int i := by cases r; rfl
theorem Rp.str_of {c : Cf} {v : V} {i : Str} (r : c.Rp Γ v (.str i)) : v = .str i := by cases r; rfl
theorem Rp.bl_of {c : Cf} {v : V} {i : Bool} (r : c.Rp Γ v (.bl i)) : v = .bl i := by cases r; rfl
theorem Rp.non_of {c : Cf} {v : V} (r : c.Rp Γ v .non) : v = .non := by cases r; rfl
theorem fi_rng1 {tg a : Expr} {g : FA} {p pos : Pos} (hg : Gl X "range") (hm : X.mg "range" = none) (ha : PA X [a] (absA Γ Z g)) (hs : starEach [a] X.env = [(false, eval a X.env)] := by rfl) : PI X tg (.Call (.Name "range" p) [a] [] pos) (absI Γ Z (iRng asRng1 g)) :=
  PI.imp (pi_range1 hg hm ha hs) fun σ H R q => by
    obtain ⟨c, ρ, e, s, en, th⟩ := absG.bind q
    refine ⟨c, ρ, e, s, en, Th.mono th fun v c1 st ⟨c2, ρ2, ws, e2, s2, en2, ra, q⟩ => ?_⟩
    rw [← e2]
    unfold asRng1 at q
    split at q
    · rename_i j
      obtain ⟨v, rfl, r1⟩ := RpAll.one (c := c2) ra
      cases Rp.int_of (c := c2) r1
      by_cases k : small62 j = true
      · rw [if_pos k] at q
        exact ⟨j, rfl, (small62_ok k).1, (small62_ok k).2, q c2 _ (Stp.refl c2) s2 rfl rngWalks⟩
      · rw [if_neg k] at q
        exact q.elim
    · exact q.elim
theorem fi_rng2 {tg a b : Expr} {g : FA} {p pos : Pos} (hg : Gl X "range") (hm : X.mg "range" = none) (ha : PA X [a, b] (absA Γ Z g)) (hs : starEach [a, b] X.env = [(false, eval a X.env), (false, eval b X.env)] := by rfl) (hs2 : starEach [b] X.env = [(false, eval b X.env)] := by rfl) :
    PI X tg (.Call (.Name "range" p) [a, b] [] pos) (absI Γ Z (iRng asRng2 g)) :=
  PI.imp (pi_range2 hg hm ha hs hs2) fun σ H R q => by
    obtain ⟨c, ρ, e, s, en, th⟩ := absG.bind q
    refine ⟨c, ρ, e, s, en, Th.mono th fun v c1 st ⟨c2, ρ2, ws, e2, s2, en2, ra, q⟩ => ?_⟩
    rw [← e2]
    unfold asRng2 at q
    split at q
    · rename_i i j
      obtain ⟨v, x, rfl, r1, r2⟩ := RpAll.two (c := c2) ra
      cases Rp.int_of (c := c2) r1
      cases Rp.int_of (c := c2) r2
      by_cases k : (small62 i && small62 j) = true
      · rw [if_pos k] at q
        simp only [Bool.and_eq_true] at k
        exact ⟨i, j, rfl, ⟨(small62_ok k.1).1, (small62_ok k.1).2, (small62_ok k.2).1, (small62_ok k.2).2⟩, q c2 _ (Stp.refl c2) s2 rfl rngWalks⟩
      · rw [if_neg k] at q
        exact q.elim
    · exact q.elim
end
end Fn

set_option Elab.async false
set_option linter.all false
set_option maxRecDepth 100000
namespace Fn
open PySem PySem.Spec PyProof.Rows L2

abbrev Z0 : WXk := fun _ _ _ _ => False
def R.calm {α : Type} (r : R α) : R α := match r with
  | .ok a G => .ok a G
  | _ => .no
theorem R.calm_th {α β : Type} {Γ : Gm} {E E' : XK} {rel : Cf → β → α → Prop} {c : Cf} {Q : β → Hp → Prop} {r : R α} (h : Th Γ E rel c Q r.calm) : Th Γ E' rel c Q r := by
  cases r with
  | ok a G => exact h
  | ex x G => exact h.elim
  | no => exact h.elim
def wipeW (ρ : En) : List Nat → En
  | [] => ρ
  | v :: vs => (wipeW ρ vs).set v none
theorem wipeW_en {Γ : Gm} {c : Cf} {ρ : En} {σ : L2.St} (h : c.En Γ ρ σ) : ∀ vs, c.En Γ (wipeW ρ vs) (wipe σ vs)
  | [] => h
  | v :: vs => by
    have ih := wipeW_en h vs
    refine ⟨by rw [wipeW, wipe, List.length_set, List.length_set]; exact ih.1, fun i w e => ?_⟩
    rw [wipeW] at e
    rw [wipe]
    by_cases hi : v = i
    · subst hi
      by_cases hv : v < (wipeW ρ vs).length
      · rw [List.getElem?_set_self hv] at e; cases e
      · rw [List.getElem?_eq_none (by rw [List.length_set]; omega)] at e; cases e
    · rw [List.getElem?_set_ne hi] at e
      rw [List.getElem?_set_ne hi]
      exact ih.2 i w e
theorem wipe_none {σ : L2.St} {i : Nat} : ∀ {vs : List Nat}, i ∈ vs → i < σ.length → (wipe σ vs)[i]? = some none
  | v :: vs, h, hl => by
    rw [wipe]
    by_cases e : v = i
    · subst e
      exact List.getElem?_set_self (by rw [wipe_length]; exact hl)
    · rw [List.getElem?_set_ne e]
      exact wipe_none (by rcases List.mem_cons.mp h with z | z; exact absurd z.symm e; exact z) hl
theorem wipe_agr {σ σ' : L2.St} {vs sl : List Nat} (h : Agr sl (wipe σ vs) σ') (hs : ∀ i ∈ sl, i ∈ vs) : wipe σ' vs = wipe σ vs := by
  have hl : σ'.length = σ.length := by rw [h.1, wipe_length]
  apply List.ext_getElem?
  intro i
  by_cases hi : i ∈ vs
  · by_cases hb : i < σ.length
    · rw [wipe_none hi (by rw [hl]; exact hb), wipe_none hi hb]
    · rw [List.getElem?_eq_none (by rw [wipe_length]; omega), List.getElem?_eq_none (by rw [wipe_length]; omega)]
  · rw [wipe_out hi, h.2 i fun z => hi (hs i z)]

/-- one turn: the item, its test, its element -/
def lcTurn (t : FG1) (tt : FT) (te : FE) (ρw : En) (w : W) (G : GH) : R (Option W) := match t w ρw G with
  | none => .no
  | some (ρ1, G1) => (tt ρ1 G1).calm.bind fun b G2 => if b then (te ρ1 G2).calm.bind fun y G3 => .ok (some y) G3 else .ok none G2
def addO : Option W → List W → List W
  | some y, r => y :: r
  | none, r => r
def lcF (t : FG1) (tt : FT) (te : FE) (ρw : En) : List W → GH → R (List W)
  | [], G => .ok [] G
  | w :: ws, G => (lcTurn t tt te ρw w G).bind fun o G1 => (lcF t tt te ρw ws G1).bind fun rest G2 => .ok (addO o rest) G2
/-- over an owned list -/
def lcO (n : Nat) (t : FG1) (tt : FT) (te : FE) (ρw : En) : Nat → Nat → GH → R (List W)
  | 0, i, G => match G.at_ n with
    | some (.lst us) => if us.length ≤ i then .ok [] G else .no
    | _ => .no
  | k + 1, i, G => match G.at_ n with
    | some (.lst us) => match us[i]? with
      | some w => (lcTurn t tt te ρw w G).bind fun o G1 => (lcO n t tt te ρw k (i + 1) G1).bind fun rest G2 => .ok (addO o rest) G2
      | none => .ok [] G
    | _ => .no
def lcW (t : FG1) (tt : FT) (te : FE) (ρw : En) (k : Wk) (G : GH) : R (List W) := match k with
  | .vals ws => lcF t tt te ρw ws G
  | .own n => lcO n t tt te ρw (lenO G n) 0 G
def gLc (own : Bool) (gi : FI) (t : FG1) (tt : FT) (te : FE) (vs : List Nat) : FE := fun ρ G => (gi ρ G).bind fun k G1 => (lcW t tt te (wipeW ρ vs) k G1).calm.bind fun r G2 => if r.length ≤ sizeLine then mkL own r G2 else .no

section
variable {X : Cx} {Γ : Gm} {Z : WXk}
/-- a list is hidden -/
theorem hide {c : Cf} (s : SR Γ c) {p : Addr} (hp : c.H p = none) (x : Hd) : StpW c ⟨c.ι, c.G, upd c.H p x.ho, fun a => c.B a ∨ a = p⟩ ∧ SR Γ ⟨c.ι, c.G, upd c.H p x.ho, fun a => c.B a ∨ a = p⟩ := by
  have np : p ∉ c.ι := fun h => s.all p h hp
  have st : StpW c ⟨c.ι, c.G, upd c.H p x.ho, fun a => c.B a ∨ a = p⟩ := ⟨fun _ _ h => h, fun a o h _ => by
      show upd c.H p _ a = some o
      rw [upd_ne (ne_of_none h hp)]; exact h, fun a h => by
      show upd c.H p _ a ≠ none
      by_cases e : a = p
      · subst e; rw [upd_same]; simp
      · rw [upd_ne e]; exact h, fun a h => by
      rcases h with h | h | h
      · exact .inl (.inl h)
      · exact .inl (.inr h)
      · exact .inr (h ▸ hp)⟩
  refine ⟨st, ⟨s.len, s.nd, fun a h => st.there a (s.all a h), fun n o h => ?_, fun a h => ?_⟩⟩
  · obtain ⟨a, q, e1, e2, r⟩ := s.obj n o h
    exact ⟨a, q, e1, by show upd c.H p _ a = some q; rw [upd_ne (ne_of_none e2 hp)]; exact e2, r.stpW s st⟩
  · rcases h with h | h
    · obtain ⟨⟨ys, e⟩, na⟩ := s.hid a h
      exact ⟨⟨ys, by show upd c.H p _ a = _; rw [upd_ne (ne_of_none e hp)]; exact e⟩, na⟩
    · subst h
      exact ⟨⟨x, upd_same⟩, np⟩
/-- a hidden list is written -/
theorem hidSet {c : Cf} (s : SR Γ c) {p : Addr} (hp : c.B p) (x : Hd) : StpW c ⟨c.ι, c.G, upd c.H p x.ho, c.B⟩ ∧ SR Γ ⟨c.ι, c.G, upd c.H p x.ho, c.B⟩ := by
  obtain ⟨⟨xs, ep⟩, np⟩ := s.hid p hp
  have st : StpW c ⟨c.ι, c.G, upd c.H p x.ho, c.B⟩ := ⟨fun _ _ h => h, fun a o h n => by
      show upd c.H p _ a = some o
      rw [upd_ne (show a ≠ p from fun e => n (.inr (e ▸ hp)))]; exact h, fun a h => by
      show upd c.H p _ a ≠ none
      by_cases e : a = p
      · subst e; rw [upd_same]; simp
      · rw [upd_ne e]; exact h, fun a h => .inl h⟩
  refine ⟨st, ⟨s.len, s.nd, fun a h => st.there a (s.all a h), fun n o h => ?_, fun a h => ?_⟩⟩
  · obtain ⟨a, q, e1, e2, r⟩ := s.obj n o h
    refine ⟨a, q, e1, ?_, r.stpW s st⟩
    show upd c.H p _ a = some q
    rw [upd_ne (show a ≠ p from fun e => np (e ▸ List.mem_of_getElem? e1))]; exact e2
  · by_cases e : a = p
    · subst e; exact ⟨⟨x, upd_same⟩, np⟩
    · obtain ⟨⟨zs, e1⟩, na⟩ := s.hid a h
      exact ⟨⟨zs, by show upd c.H p _ a = _; rw [upd_ne e]; exact e1⟩, na⟩
/-- a hidden list is a value, or owned -/
theorem unhide {c0 c : Cf} {p : Addr} {xs : List V} {ws : List W} {own : Bool} {E : XK} {Q : V → Hp → Prop} (s0 : SR Γ c0) (hp : c0.H p = none) (s : SR Γ c) (st : StpW c0 c) (kp : ∀ a o, c0.H a = some o → ¬ c0.Ow a → c.H a = some o) (hB : c.B = fun a => c0.B a ∨ a = p) (hx : c.H p = some (.lst xs)) (r : c.RpAll Γ xs ws)
    (h : Th Γ E (Cf.Rp Γ) c0 Q (mkL own ws c.G)) : Q (.ref p) c.H := by
  have np : p ∉ c.ι := (s.hid p (by rw [hB]; exact .inr rfl)).2
  have nB0 : ¬ c0.B p := fun z => by
    obtain ⟨⟨xs, e⟩, _⟩ := s0.hid p z
    rw [hp] at e; cases e
  have owS : ∀ a, c.Ow a → c0.Ow a ∨ c0.H a = none := fun a z => by
    rcases st.own a (.inl z) with (q | q) | q
    · exact .inl q
    · exact absurd (show a ∈ c.ι from by obtain ⟨n, o, _, e⟩ := z; exact List.mem_of_getElem? e) (s.hid a (by rw [hB]; exact .inl q)).2
    · exact .inr q
  cases own with
  | false =>
    -- the list is a value
    have st1 : Stp c0 ⟨c.ι, c.G, c.H, c0.B⟩ := ⟨st.pre, kp, st.there, owS, rfl⟩
    have wk : StpW c ⟨c.ι, c.G, c.H, c0.B⟩ := ⟨fun _ _ h => h, fun _ _ h _ => h, fun _ h => h, fun a z => by
      rcases z with z | z
      · exact .inl (.inl z)
      · exact .inl (.inr (by rw [hB]; exact .inl z))⟩
    have s1 : SR Γ ⟨c.ι, c.G, c.H, c0.B⟩ := ⟨s.len, s.nd, s.all, fun n o e => by
      obtain ⟨a, q, e1, e2, r⟩ := s.obj n o e
      exact ⟨a, q, e1, e2, r.stpW s wk⟩, fun a z => s.hid a (by rw [hB]; exact .inl z)⟩
    refine h ⟨c.ι, c.G, c.H, c0.B⟩ _ st1 s1 rfl (.lst (.inl hx) (fun z => ?_) (wk.rpAll s r))
    rcases z with ⟨n, o, _, e⟩ | z
    · exact np (List.mem_of_getElem? e)
    · exact nB0 z
  | true =>
    have pre : ∀ (n : Nat) (a : Addr), c.ι[n]? = some a → (c.ι ++ [p])[n]? = some a := fun n a h => by
      rw [List.getElem?_append_left (List.getElem?_eq_some_iff.mp h).1]; exact h
    have owN : ∀ a, Own (c.ι ++ [p]) (c.G.push (.lst ws)) a → c.Ow a ∨ a = p := fun a ⟨n, u, h1, h2⟩ => by
      have h1 : (if n = c.G.n then some (AO.lst ws) else c.G.at_ n) = some u := h1
      by_cases e : n = c.G.n
      · subst e
        rw [← s.len, List.getElem?_append_right (Nat.le_refl _), Nat.sub_self] at h2
        cases h2
        exact .inr rfl
      · rw [if_neg e] at h1
        obtain ⟨b, _, e1, _, _⟩ := s.obj n u h1
        rw [pre n b e1] at h2
        cases h2
        exact .inl ⟨n, u, h1, e1⟩
    have st1 : Stp c0 ⟨c.ι ++ [p], c.G.push (.lst ws), c.H, c0.B⟩ := ⟨fun n a e => pre n a (st.pre n a e), kp, st.there, fun a z => by
      rcases owN a z with z | z
      · exact owS a z
      · exact .inr (z ▸ hp), rfl⟩
    have wk : StpW c ⟨c.ι ++ [p], c.G.push (.lst ws), c.H, c0.B⟩ := ⟨pre, fun _ _ h _ => h, fun _ h => h, fun a z => by
      rcases z with z | z
      · rcases owN a z with z | z
        · exact .inl (.inl z)
        · exact .inl (.inr (by rw [hB]; exact .inr z))
      · exact .inl (.inr (by rw [hB]; exact .inl z))⟩
    have s1 : SR Γ ⟨c.ι ++ [p], c.G.push (.lst ws), c.H, c0.B⟩ := by
      refine ⟨by show (c.ι ++ [p]).length = c.G.n + 1; rw [List.length_append, s.len]; rfl, ?_, fun a z => ?_, fun n u e => ?_, fun a z => ?_⟩
      · refine List.nodup_append.mpr ⟨s.nd, by simp, fun a ha b hb => ?_⟩
        have : b = p := by simpa using hb
        subst this
        exact fun e => np (e ▸ ha)
      · rcases List.mem_append.mp z with z | z
        · exact s.all a z
        · have : a = p := by simpa using z
          subst this
          show c.H a ≠ none
          rw [hx]; simp
      · have e : (if n = c.G.n then some (AO.lst ws) else c.G.at_ n) = some u := e
        by_cases k : n = c.G.n
        · subst k
          rw [if_pos rfl] at e
          cases e
          exact ⟨p, _, new_own_at s p, hx, .lst (wk.rpAll s r)⟩
        · rw [if_neg k] at e
          obtain ⟨a, q, e1, e2, r'⟩ := s.obj n u e
          exact ⟨a, q, pre n a e1, e2, r'.stpW s wk⟩
      · obtain ⟨e, na⟩ := s.hid a (by rw [hB]; exact .inl z)
        refine ⟨e, fun m => ?_⟩
        rcases List.mem_append.mp m with m | m
        · exact na m
        · have : a = p := by simpa using m
          exact nB0 (this ▸ z)
    exact h ⟨c.ι ++ [p], c.G.push (.lst ws), c.H, c0.B⟩ _ st1 s1 rfl (.ref (new_own_at s p))

theorem lc_ok {own : Bool} {t : FG1} {sl vs : List Nat} {tt : FT} {te : FE} {J : It} {ws : List W} {c0 : Cf} {ρ0 : En} {σ0 : L2.St} {E : XK} {Q : V → Hp → Prop} (hsl : ∀ i ∈ sl, i ∈ vs) (s0 : SR Γ c0) (wk : Walks Γ c0 J ws) (en0 : c0.En Γ ρ0 σ0)
    (th0 : Th Γ E (Cf.Rp Γ) c0 Q ((lcF t tt te (wipeW ρ0 vs) ws c0.G).calm.bind fun r G2 => if r.length ≤ sizeLine then mkL own r G2 else .no)) {D : Addr} (hD : c0.H D = none) :
    ∃ Wd : Nat → Nat → Hp → Prop, (∃ m, Wd 0 m (upd c0.H D (.lst []))) ∧ ∀ i m H, Wd i m H →
      (J.stop i H ∧ Q (.ref D) H) ∨ (J.go i H ∧ ∃ Nx : Hp → Prop, (∀ H', Nx H' → ∃ m', m' < m ∧ Wd (i + 1) m' H') ∧ ∀ x H', J.yld i H x H' → absG1 Γ sl t x (wipe σ0 vs) H' fun σ2 H2 => wipe σ2 vs = wipe σ0 vs ∧ absT Γ Z0 tt σ2 H2 fun b H3 =>
        if b = true then absE Γ Z0 te σ2 H3 fun y H4 => ∃ acc, H4 D = some (.lst acc) ∧ acc.length < sizeLine ∧ Nx (upd H4 D (.lst (acc ++ [y]))) else Nx H3) := by
  -- what holds ahead of turn i
  refine ⟨fun i m H => m = ws.length - i ∧ i ≤ ws.length ∧ ∃ (c : Cf) (xs : List V) (acc : List W), c.H = H ∧ SR Γ c ∧ StpW c0 c ∧ (∀ a o, c0.H a = some o → ¬ c0.Ow a → c.H a = some o) ∧ (c.B = fun a => c0.B a ∨ a = D) ∧ c.H D = some (.lst xs) ∧ c.RpAll Γ xs acc ∧
    Th Γ E (Cf.Rp Γ) c0 Q ((lcF t tt te (wipeW ρ0 vs) (ws.drop i) c.G).calm.bind fun r G2 => if (acc ++ r).length ≤ sizeLine then mkL own (acc ++ r) G2 else .no), ?_, ?_⟩
  · obtain ⟨st1, s1⟩ := hide s0 hD (.l [])
    refine ⟨_, rfl, Nat.zero_le _, ⟨c0.ι, c0.G, upd c0.H D (.lst []), fun a => c0.B a ∨ a = D⟩, [], [], rfl, s1, st1, fun a o e _ => ?_, rfl, upd_same, .nil, by simpa using th0⟩
    show upd c0.H D _ a = some o
    rw [upd_ne (ne_of_none e hD)]; exact e
  · rintro i m H ⟨rfl, hi, c, xs, acc, rfl, s, st, kp, hB, hx, rx, th⟩
    by_cases hlt : i < ws.length
    · have ed : ws.drop i = ws[i] :: ws.drop (i + 1) := (List.drop_eq_getElem_cons hlt)
      rw [ed] at th
      refine .inr ⟨wk.go c st s i hlt, fun H => ∃ (c : Cf) (xs : List V) (acc : List W), c.H = H ∧ SR Γ c ∧ StpW c0 c ∧ (∀ a o, c0.H a = some o → ¬ c0.Ow a → c.H a = some o) ∧ (c.B = fun a => c0.B a ∨ a = D) ∧ c.H D = some (.lst xs) ∧ c.RpAll Γ xs acc ∧
        Th Γ E (Cf.Rp Γ) c0 Q ((lcF t tt te (wipeW ρ0 vs) (ws.drop (i + 1)) c.G).calm.bind fun r G2 => if (acc ++ r).length ≤ sizeLine then mkL own (acc ++ r) G2 else .no), fun H' h => ⟨_, by omega, rfl, hlt, h⟩, fun x H' y => ?_⟩
      obtain ⟨w, c1, ew, e1, st1, s1, eG, rw1⟩ := wk.yld c st s i x H' hlt y
      have ew : ws[i] = w := by rw [List.getElem?_eq_getElem hlt] at ew; exact Option.some.inj ew
      rw [ew] at th
      have oB : ¬ c.Ow D := fun ⟨n, o, _, e⟩ => (s.hid D (by rw [hB]; exact .inr rfl)).2 (List.mem_of_getElem? e)
      -- a state that is a step on keeps all this
      have on : ∀ c', Stp c c' → SR Γ c' → StpW c0 c' ∧ (∀ a o, c0.H a = some o → ¬ c0.Ow a → c'.H a = some o) ∧ (c'.B = fun a => c0.B a ∨ a = D) ∧ c'.H D = some (.lst xs) ∧ c'.RpAll Γ xs acc := fun c' st' s' =>
        ⟨st.trans st'.w, (fun a o e n => by
          refine st'.keep a o (kp a o e n) fun z => ?_
          rcases st.own a (.inl z) with (q | q) | q
          · exact n q
          · exact (s.hid a (by rw [hB]; exact .inl q)).2 (by obtain ⟨n, o, _, e⟩ := z; exact List.mem_of_getElem? e)
          · rw [q] at e; cases e), st'.bl.trans hB, st'.keep D _ hx oB, st'.rpAll s rx⟩
      refine ⟨c1, wipeW ρ0 vs, w, e1, s1, wipeW_en (st1.en s (st.en s0 en0)) vs, rw1, ?_⟩
      unfold lcF lcTurn at th
      rw [eG]
      cases k : t w (wipeW ρ0 vs) c.G with
      | none => rw [k] at th; exact th.elim
      | some p =>
        obtain ⟨ρ1, G1⟩ := p
        rw [k] at th
        simp only at th ⊢
        intro c2 σ2 st2 s2 e2 en2 ag
        refine ⟨wipe_agr ag hsl, c2, ρ1, rfl, s2, en2, ?_⟩
        rw [e2]
        cases kt : tt ρ1 G1 with
        | ex x G2 => rw [kt] at th; exact th.elim
        | no => rw [kt] at th; exact th.elim
        | ok b G2 =>
          rw [kt] at th
          intro c3 b' st3 s3 e3 eb
          subst eb
          have st13 : Stp c c3 := st1.trans (st2.trans st3)
          cases b' with
          | false =>
            rw [if_neg Bool.false_ne_true]
            obtain ⟨a1, a2, a3, a4, a5⟩ := on c3 st13 s3
            refine ⟨c3, xs, acc, rfl, s3, a1, a2, a3, a4, a5, ?_⟩
            rw [e3]
            simp only [R.calm, R.bind, Bool.false_eq_true, if_false] at th
            cases q : lcF t tt te (wipeW ρ0 vs) (ws.drop (i + 1)) G2 with
            | ok r G3 => rw [q] at th; exact th
            | ex x G3 => rw [q] at th; exact th.elim
            | no => rw [q] at th; exact th.elim
          | true =>
            rw [if_pos rfl]
            refine ⟨c3, ρ1, rfl, s3, st3.en s2 en2, ?_⟩
            rw [e3]
            simp only [R.calm, R.bind, if_true] at th
            cases kv : te ρ1 G2 with
            | ex x G3 => rw [kv] at th; exact th.elim
            | no => rw [kv] at th; exact th.elim
            | ok y G3 =>
              rw [kv] at th
              simp only at th
              intro c4 v st4 s4 e4 rv
              have st14 : Stp c c4 := st13.trans st4
              obtain ⟨a1, a2, a3, a4, a5⟩ := on c4 st14 s4
              have hBD : c4.B D := by rw [a3]; exact .inr rfl
              obtain ⟨st5, s5⟩ := hidSet s4 hBD (.l (xs ++ [v]))
              cases q : lcF t tt te (wipeW ρ0 vs) (ws.drop (i + 1)) G3 with
              | ex x G3 => rw [q] at th; exact th.elim
              | no => rw [q] at th; exact th.elim
              | ok r G4 =>
                rw [q] at th
                have th : Th Γ E (Cf.Rp Γ) c0 Q (if (acc ++ (y :: r)).length ≤ sizeLine then mkL own (acc ++ (y :: r)) G4 else .no) := th
                have hz : acc.length < sizeLine := by
                  by_cases z : (acc ++ (y :: r)).length ≤ sizeLine
                  · rw [List.length_append, List.length_cons] at z
                    omega
                  · rw [if_neg z] at th; exact th.elim
                refine ⟨xs, a4, by rw [a5.length]; exact hz, ⟨c4.ι, c4.G, upd c4.H D (.lst (xs ++ [v])), c4.B⟩, xs ++ [v], acc ++ [y], rfl, s5, a1.trans st5, fun a o e n => ?_, a3, upd_same, st5.rpAll s4 (a5.append (.cons rv .nil)), ?_⟩
                · show upd c4.H D _ a = some o
                  rw [upd_ne (ne_of_none e hD)]
                  exact a2 a o e n
                · show Th Γ E (Cf.Rp Γ) c0 Q ((lcF t tt te (wipeW ρ0 vs) (ws.drop (i + 1)) c4.G).calm.bind _)
                  rw [e4, q]
                  have ea : acc ++ [y] ++ r = acc ++ (y :: r) := by simp
                  show Th Γ E (Cf.Rp Γ) c0 Q (if (acc ++ [y] ++ r).length ≤ sizeLine then mkL own (acc ++ [y] ++ r) G4 else .no)
                  rw [ea]
                  exact th
    · have e : i = ws.length := by omega
      subst e
      rw [List.drop_length] at th
      simp only [lcF, R.calm, R.bind, List.append_nil] at th
      by_cases z : acc.length ≤ sizeLine
      · rw [if_pos z] at th
        exact .inl ⟨wk.stop c st s _ (Nat.le_refl _), unhide s0 hD s st kp hB hx rx th⟩
      · rw [if_neg z] at th
        exact th.elim

theorem lcO_ok {own : Bool} {t : FG1} {sl vs : List Nat} {tt : FT} {te : FE} {n k0 : Nat} {a0 : Addr} {c0 : Cf} {ρ0 : En} {σ0 : L2.St} {E : XK} {Q : V → Hp → Prop} (hsl : ∀ i ∈ sl, i ∈ vs) (s0 : SR Γ c0) (ha : c0.ι[n]? = some a0) (en0 : c0.En Γ ρ0 σ0)
    (th0 : Th Γ E (Cf.Rp Γ) c0 Q ((lcO n t tt te (wipeW ρ0 vs) k0 0 c0.G).calm.bind fun r G2 => if r.length ≤ sizeLine then mkL own r G2 else .no)) {D : Addr} (hD : c0.H D = none) :
    ∃ Wd : Nat → Nat → Hp → Prop, (∃ m, Wd 0 m (upd c0.H D (.lst []))) ∧ ∀ i m H, Wd i m H →
      ((Itl Γ.K a0).stop i H ∧ Q (.ref D) H) ∨ ((Itl Γ.K a0).go i H ∧ ∃ Nx : Hp → Prop, (∀ H', Nx H' → ∃ m', m' < m ∧ Wd (i + 1) m' H') ∧ ∀ x H', (Itl Γ.K a0).yld i H x H' → absG1 Γ sl t x (wipe σ0 vs) H' fun σ2 H2 => wipe σ2 vs = wipe σ0 vs ∧ absT Γ Z0 tt σ2 H2 fun b H3 =>
        if b = true then absE Γ Z0 te σ2 H3 fun y H4 => ∃ acc, H4 D = some (.lst acc) ∧ acc.length < sizeLine ∧ Nx (upd H4 D (.lst (acc ++ [y]))) else Nx H3) := by
  -- what holds ahead of turn i
  refine ⟨fun i m H => ∃ (c : Cf) (xs : List V) (acc : List W), c.H = H ∧ SR Γ c ∧ StpW c0 c ∧ (∀ a o, c0.H a = some o → ¬ c0.Ow a → c.H a = some o) ∧ (c.B = fun a => c0.B a ∨ a = D) ∧ c.H D = some (.lst xs) ∧ c.RpAll Γ xs acc ∧
    Th Γ E (Cf.Rp Γ) c0 Q ((lcO n t tt te (wipeW ρ0 vs) m i c.G).calm.bind fun r G2 => if (acc ++ r).length ≤ sizeLine then mkL own (acc ++ r) G2 else .no), ?_, ?_⟩
  · obtain ⟨st1, s1⟩ := hide s0 hD (.l [])
    refine ⟨_, ⟨c0.ι, c0.G, upd c0.H D (.lst []), fun a => c0.B a ∨ a = D⟩, [], [], rfl, s1, st1, fun a o e _ => ?_, rfl, upd_same, .nil, by simpa using th0⟩
    show upd c0.H D _ a = some o
    rw [upd_ne (ne_of_none e hD)]; exact e
  · rintro i m H ⟨c, xs, acc, rfl, s, st, kp, hB, hx, rx, th⟩
    have hn : c.ι[n]? = some a0 := st.pre n a0 ha
    have at_ : ∀ us, c.G.at_ n = some (.lst us) → ∃ xs, SqL Γ.K c.H a0 xs ∧ c.RpAll Γ xs us := fun us e => by
      obtain ⟨b, ho, e1, e2, r⟩ := s.obj n _ e
      rw [hn] at e1; cases e1
      cases r with
      | lst r => exact ⟨_, .inl (.inl e2), r⟩
    have ends : Th Γ E (Cf.Rp Γ) c0 Q (if acc.length ≤ sizeLine then mkL own acc c.G else .no) → Q (.ref D) c.H := fun th => by
      by_cases z : acc.length ≤ sizeLine
      · rw [if_pos z] at th
        exact unhide s0 hD s st kp hB hx rx th
      · rw [if_neg z] at th
        exact th.elim
    cases m with
    | zero =>
      unfold lcO at th
      split at th
      · rename_i us e
        obtain ⟨ys, hq, r⟩ := at_ us e
        by_cases k : us.length ≤ i
        · rw [if_pos k] at th
          simp only [R.calm, R.bind, List.append_nil] at th
          exact .inl ⟨⟨ys, hq, by rw [r.length]; exact k⟩, ends th⟩
        · rw [if_neg k] at th; exact th.elim
      · exact th.elim
    | succ m =>
      unfold lcO at th
      split at th
      rotate_left
      · exact th.elim
      rename_i us e
      obtain ⟨ys, hq, r⟩ := at_ us e
      split at th
      rotate_left
      · rename_i ew
        have hl : us.length ≤ i := List.getElem?_eq_none_iff.mp ew
        simp only [R.calm, R.bind, List.append_nil] at th
        exact .inl ⟨⟨ys, hq, by rw [r.length]; exact hl⟩, ends th⟩
      rename_i w ew
      obtain ⟨v, ev, rw1⟩ := r.get ew
      refine .inr ⟨⟨ys, v, hq, ev⟩, fun H => ∃ (c : Cf) (xs : List V) (acc : List W), c.H = H ∧ SR Γ c ∧ StpW c0 c ∧ (∀ a o, c0.H a = some o → ¬ c0.Ow a → c.H a = some o) ∧ (c.B = fun a => c0.B a ∨ a = D) ∧ c.H D = some (.lst xs) ∧ c.RpAll Γ xs acc ∧
        Th Γ E (Cf.Rp Γ) c0 Q ((lcO n t tt te (wipeW ρ0 vs) m (i + 1) c.G).calm.bind fun r G2 => if (acc ++ r).length ≤ sizeLine then mkL own (acc ++ r) G2 else .no), fun H' h => ⟨m, Nat.lt_succ_self m, h⟩, fun x H' y => ?_⟩
      obtain ⟨rfl, y⟩ := y
      have := y ys hq
      rw [ev] at this
      cases this
      have oB : ¬ c.Ow D := fun ⟨n, o, _, e⟩ => (s.hid D (by rw [hB]; exact .inr rfl)).2 (List.mem_of_getElem? e)
      -- a state that is a step on keeps all this
      have on : ∀ c', Stp c c' → SR Γ c' → StpW c0 c' ∧ (∀ a o, c0.H a = some o → ¬ c0.Ow a → c'.H a = some o) ∧ (c'.B = fun a => c0.B a ∨ a = D) ∧ c'.H D = some (.lst xs) ∧ c'.RpAll Γ xs acc := fun c' st' s' =>
        ⟨st.trans st'.w, (fun a o e n => by
          refine st'.keep a o (kp a o e n) fun z => ?_
          rcases st.own a (.inl z) with (q | q) | q
          · exact n q
          · exact (s.hid a (by rw [hB]; exact .inl q)).2 (by obtain ⟨n, o, _, e⟩ := z; exact List.mem_of_getElem? e)
          · rw [q] at e; cases e), st'.bl.trans hB, st'.keep D _ hx oB, st'.rpAll s rx⟩
      refine ⟨c, wipeW ρ0 vs, w, rfl, s, wipeW_en (st.en s0 en0) vs, rw1, ?_⟩
      unfold lcTurn at th
      cases k : t w (wipeW ρ0 vs) c.G with
      | none => rw [k] at th; exact th.elim
      | some p =>
        obtain ⟨ρ1, G1⟩ := p
        rw [k] at th
        simp only at th ⊢
        intro c2 σ2 st2 s2 e2 en2 ag
        refine ⟨wipe_agr ag hsl, c2, ρ1, rfl, s2, en2, ?_⟩
        rw [e2]
        cases kt : tt ρ1 G1 with
        | ex x G2 => rw [kt] at th; exact th.elim
        | no => rw [kt] at th; exact th.elim
        | ok b G2 =>
          rw [kt] at th
          intro c3 b' st3 s3 e3 eb
          subst eb
          have st13 : Stp c c3 := st2.trans st3
          cases b' with
          | false =>
            rw [if_neg Bool.false_ne_true]
            obtain ⟨a1, a2, a3, a4, a5⟩ := on c3 st13 s3
            refine ⟨c3, xs, acc, rfl, s3, a1, a2, a3, a4, a5, ?_⟩
            rw [e3]
            simp only [R.calm, R.bind, Bool.false_eq_true, if_false] at th
            cases q : lcO n t tt te (wipeW ρ0 vs) m (i + 1) G2 with
            | ok r G3 => rw [q] at th; exact th
            | ex x G3 => rw [q] at th; exact th.elim
            | no => rw [q] at th; exact th.elim
          | true =>
            rw [if_pos rfl]
            refine ⟨c3, ρ1, rfl, s3, st3.en s2 en2, ?_⟩
            rw [e3]
            simp only [R.calm, R.bind, if_true] at th
            cases kv : te ρ1 G2 with
            | ex x G3 => rw [kv] at th; exact th.elim
            | no => rw [kv] at th; exact th.elim
            | ok y G3 =>
              rw [kv] at th
              simp only at th
              intro c4 v st4 s4 e4 rv
              have st14 : Stp c c4 := st13.trans st4
              obtain ⟨a1, a2, a3, a4, a5⟩ := on c4 st14 s4
              have hBD : c4.B D := by rw [a3]; exact .inr rfl
              obtain ⟨st5, s5⟩ := hidSet s4 hBD (.l (xs ++ [v]))
              cases q : lcO n t tt te (wipeW ρ0 vs) m (i + 1) G3 with
              | ex x G3 => rw [q] at th; exact th.elim
              | no => rw [q] at th; exact th.elim
              | ok r G4 =>
                rw [q] at th
                have th : Th Γ E (Cf.Rp Γ) c0 Q (if (acc ++ (y :: r)).length ≤ sizeLine then mkL own (acc ++ (y :: r)) G4 else .no) := th
                have hz : acc.length < sizeLine := by
                  by_cases z : (acc ++ (y :: r)).length ≤ sizeLine
                  · rw [List.length_append, List.length_cons] at z
                    omega
                  · rw [if_neg z] at th; exact th.elim
                refine ⟨xs, a4, by rw [a5.length]; exact hz, ⟨c4.ι, c4.G, upd c4.H D (.lst (xs ++ [v])), c4.B⟩, xs ++ [v], acc ++ [y], rfl, s5, a1.trans st5, fun a o e n => ?_, a3, upd_same, st5.rpAll s4 (a5.append (.cons rv .nil)), ?_⟩
                · show upd c4.H D _ a = some o
                  rw [upd_ne (ne_of_none e hD)]
                  exact a2 a o e n
                · show Th Γ E (Cf.Rp Γ) c0 Q ((lcO n t tt te (wipeW ρ0 vs) m (i + 1) c4.G).calm.bind _)
                  rw [e4, q]
                  have ea : acc ++ [y] ++ r = acc ++ (y :: r) := by simp
                  show Th Γ E (Cf.Rp Γ) c0 Q (if (acc ++ [y] ++ r).length ≤ sizeLine then mkL own (acc ++ [y] ++ r) G4 else .no)
                  rw [ea]
                  exact th
theorem PTs.imp {e : List Expr} {t t' : TT} (h : PTs X e t) (m : ∀ σ H Q, t' σ H Q → t σ H Q) : PTs X e t' := ⟨fun pins s σ H Q I q => h.run pins s σ H Q I (m σ H Q q)⟩
def gYes : FT := fun _ G => .ok true G
theorem fts_nil : PTs X [] (absT Γ Z gYes) := PTs.imp pts_nil fun σ H Q ⟨c, ρ, e, s, en, th⟩ => by
  subst e
  exact Th.pure (v := true) s th rfl
theorem fts_one {a : Expr} {g : FT} (h : PT X a (absT Γ Z g)) : PTs X [a] (absT Γ Z g) := pts_one h
theorem lc_imp {own : Bool} {gi : FI} {t : FG1} {sl vs : List Nat} {tt : FT} {te : FE} {σ : L2.St} {H : Hp} {Q : V → Hp → Prop} (hsl : ∀ i ∈ sl, i ∈ vs) (q : absE Γ Z (gLc own gi t tt te vs) σ H Q) : tLc (absI Γ Z gi) (absG1 Γ sl t) (absT Γ Z0 tt) (absE Γ Z0 te) vs σ H Q := by
  obtain ⟨c, ρ, e, s, en, th⟩ := absG.bind q
  refine ⟨c, ρ, e, s, en, Th.mono th fun J c1 st ⟨c2, ρ2, k, e2, s2, en2, wk, q⟩ => ?_⟩
  rw [← e2]
  cases k with
  | vals ws => exact fun D hD => lc_ok hsl s2 wk en2 q hD
  | own n =>
    obtain ⟨a, ha, rfl⟩ := wk
    exact fun D hD => lcO_ok hsl s2 ha en2 q hD
theorem fe_lc {own : Bool} {elt tg iter : Expr} {ifs : List Expr} {scope : Scope} {onames : List (Str × Nat)} {pos : Pos} {gi : FI} {t : FG1} {sl : List Nat} {tt : FT} {te : FE} (hc : X.calm = true) (hN : X.N.Nodup) (hi : PI X tg iter (absI Γ Z gi)) (ok : BlkOk X.N X.env.scope scope onames)
    (hg : ∀ (s : Shared) (H : Hp) (C : Addr) (cl : List (Str × Addr)) (fp : List Addr), PG (X.blk s H scope (compEnvC scope cl C X.env) fp) tg (absG1 Γ sl t))
    (ht : ∀ (s : Shared) (H : Hp) (C : Addr) (cl : List (Str × Addr)) (fp : List Addr), PTs (X.blk s H scope (compEnvC scope cl C X.env) fp) ifs (absT Γ Z0 tt))
    (he : ∀ (s : Shared) (H : Hp) (C : Addr) (cl : List (Str × Addr)) (fp : List Addr), PE (X.blk s H scope (compEnvC scope cl C X.env) fp) elt (absE Γ Z0 te)) (hsl : ∀ i ∈ sl, i ∈ onames.map (·.2) := by decide) (hs : ∀ x, foldedSetIterable iter X.env x = pure x := by intro _; rfl) :
    PE X (.ListComp elt [⟨tg, iter, ifs, 0⟩] scope pos) (absE Γ Z (gLc own gi t tt te (onames.map (·.2)))) :=
  PE.imp (pe_lc hc hN hi ok hg ht he hs) fun σ H Q q => lc_imp hsl q
/-- y = [..] -/
theorem fs_lc {own : Bool} {i : Nat} {y : Str} {py : Pos} {elt tg iter : Expr} {ifs : List Expr} {scope : Scope} {onames : List (Str × Nat)} {pos spos : Pos} {gi : FI} {t : FG1} {sl : List Nat} {tt : FT} {te : FE} (hc : X.calm = true) (hN : X.N.Nodup) (hy : X.N[i]? = some y) (hyl : X.env.scope.names.lookup y = some .local)
    (hsw : swapsWith (.ListComp elt [⟨tg, iter, ifs, 0⟩] scope pos) (some (.Name y py)) spos.line X.env = pure true) (hi : PI X tg iter (absI Γ Z gi)) (ok : BlkOk X.N X.env.scope scope onames)
    (hg : ∀ (s : Shared) (H : Hp) (C : Addr) (cl : List (Str × Addr)) (fp : List Addr), PG (X.blk s H scope (compEnvC scope cl C X.env) fp) tg (absG1 Γ sl t))
    (ht : ∀ (s : Shared) (H : Hp) (C : Addr) (cl : List (Str × Addr)) (fp : List Addr), PTs (X.blk s H scope (compEnvC scope cl C X.env) fp) ifs (absT Γ Z0 tt))
    (he : ∀ (s : Shared) (H : Hp) (C : Addr) (cl : List (Str × Addr)) (fp : List Addr), PE (X.blk s H scope (compEnvC scope cl C X.env) fp) elt (absE Γ Z0 te)) (hsl : ∀ i ∈ sl, i ∈ onames.map (·.2) := by decide) (hs : ∀ x, foldedSetIterable iter X.env x = pure x := by intro _; rfl) :
    PS X (.Assign [.Name y py] (.ListComp elt [⟨tg, iter, ifs, 0⟩] scope pos) spos) (absS Γ Z (gAsg (gLc own gi t tt te (onames.map (·.2))) (tgName i))) :=
  PS.imp (ps_setLc hc hN hy hyl hsw hi ok hg ht he hs) fun D σ H q => by
    have z := asg_ok (sl := [i]) q
    have z2 : absE Γ Z (gLc own gi t tt te (onames.map (·.2))) σ H (fun v H1 => gName i v σ H1 D.nx) := absE.mono z fun v H' ⟨c, ρ, w, e, s, en, r, q⟩ => by
      subst e
      exact q c _ (Stp.refl c) s rfl (en.set r i) ⟨List.length_set, fun j h => List.getElem?_set_ne (fun z => h (by simp [z]))⟩
    exact lc_imp hsl z2
end
end Fn

set_option Elab.async false
set_option linter.all false
set_option maxRecDepth 100000
namespace Fn
open PySem PySem.Spec PyProof.Rows L2
section
variable {X : Cx} {Γ : Gm} {Z : WXk}

/-! ### a call of a built-in -/
abbrev FC := List W → GH → R W
def CallF (X : Cx) (Γ : Gm) (f : Value) (g : FC) : Prop :=
  ∃ r, CallR X f r ∧ ∀ (c : Cf) (vs : List V) (ws : List W) (Q : VK) (E : XK), SR Γ c → c.RpAll Γ vs ws → Th Γ E (Cf.Rp Γ) c Q (g ws c.G) → r vs c.H Q
def gCall (g : FC) (ga : FA) : FE := fun ρ G => (ga ρ G).bind g
theorem call_imp {r : List V → Hp → VK → Prop} {g : FC} {ga : FA} {σ : L2.St} {H : Hp} {Q : VK} (h : ∀ (c : Cf) (vs : List V) (ws : List W) (Q : VK) (E : XK), SR Γ c → c.RpAll Γ vs ws → Th Γ E (Cf.Rp Γ) c Q (g ws c.G) → r vs c.H Q)
    (q : absE Γ Z (gCall g ga) σ H Q) : tCB r (absA Γ Z ga) σ H Q := by
  obtain ⟨c, ρ, e, s, en, th⟩ := absG.bind q
  refine ⟨c, ρ, e, s, en, Th.mono th fun vs c1 st ⟨c2, ρ2, ws, e2, s2, en2, ra, q⟩ => ?_⟩
  rw [← e2]
  exact h c2 vs ws Q _ s2 ra q
theorem fe_callB {id : String} {g : FC} {ga : FA} {x : Str} {p pos : Pos} {e : Expr} {es : List Expr} (hc : CallF X Γ (.builtin id) g) (hg : Gl X x) (hm : X.mg x = none) (hv : bootBuiltins x = some (.builtin id)) (ha : PA X (e :: es) (absA Γ Z ga)) (hn : x ≠ "__name__" := by decide) (hdb : (x == ("__debug__" : Str)) = false := by decide)
    (he : starEach (e :: es) X.env = (false, eval e X.env) :: starEach es X.env := by rfl) (hpl : (backTo pos (starEach es X.env)).any (·.1) = false := by rfl) : PE X (.Call (.Name x p) (e :: es) [] pos) (absE Γ Z (gCall g ga)) := by
  obtain ⟨r, hr, h⟩ := hc
  exact PE.imp (pe_callB hr hg hm hv ha hn hdb he hpl) fun σ H Q q => call_imp h q
theorem fe_callTy {T : String} {g : FC} {ga : FA} {x : Str} {p pos : Pos} {e : Expr} {es : List Expr} (hc : CallF X Γ (.type T) g) (hg : Gl X x) (hm : X.mg x = none) (hv : bootBuiltins x = some (.type T)) (ha : PA X (e :: es) (absA Γ Z ga)) (hn : x ≠ "__name__" := by decide) (hdb : (x == ("__debug__" : Str)) = false := by decide)
    (he : starEach (e :: es) X.env = (false, eval e X.env) :: starEach es X.env := by rfl) (hpl : (backTo pos (starEach es X.env)).any (·.1) = false := by rfl) : PE X (.Call (.Name x p) (e :: es) [] pos) (absE Γ Z (gCall g ga)) := by
  obtain ⟨r, hr, h⟩ := hc
  exact PE.imp (pe_callTy hr hg hm hv ha hn hdb he hpl) fun σ H Q q => call_imp h q
/-- a type as a value -/
theorem fe_ty {x : Str} {T : String} {pos : Pos} (hg : Gl X x) (hm : X.mg x = none) (hv : bootBuiltins x = some (.type T)) (hn : x ≠ "__name__" := by decide) (hd : (x == ("__debug__" : Str)) = false := by decide) : PE X (.Name x pos) (absE Γ Z (gC (.op (.ty T)))) :=
  fe_c (pe_bltn (v := .ty T) hg hm hv rfl hn hd) fun _ => .op _

/-! ### len, int, str, list, tuple, isinstance -/
def cLen : FC := fun ws G => match ws with
  | [.str y] => if y.length ≤ sizeLine then .ok (.int y.length) G else .no
  | [w] => match sqs G w with
    | some ws => .ok (.int ws.length) G
    | none => .no
  | _ => .no
theorem cf_len (hK : Γ.K = X.K := by rfl) : CallF X Γ (.builtin "len") cLen := ⟨_, call_len, fun c vs ws Q E s ra h => by
  unfold cLen at h
  split at h
  · rename_i y
    obtain ⟨v, rfl, r⟩ := RpAll.one (c := c) ra
    cases Rp.str_of (c := c) r
    by_cases k : y.length ≤ sizeLine
    · rw [if_pos k] at h
      exact ⟨_, _, rfl, ⟨k, rfl⟩, h.pure s (.int _)⟩
    · rw [if_neg k] at h; exact h.elim
  · obtain ⟨v, rfl, r⟩ := RpAll.one (c := c) ra
    split at h
    · obtain ⟨p, xs, rfl, hq, rr⟩ := sqs_ok s (by assumption) r
      refine ⟨_, xs.length, rfl, ?_, ?_⟩
      · rcases hq with hq | hq
        · exact .inl ⟨xs, hK ▸ hq, rfl⟩
        · exact .inr ⟨xs, hK ▸ hq, rfl⟩
      · rw [rr.length]
        exact h.pure s (.int _)
    · exact h.elim
  · exact h.elim⟩
def cInt : FC := fun ws G => match ws with
  | [.int i] => .ok (.int i) G
  | [.bl k] => .ok (.int (if k then 1 else 0)) G
  | _ => .no
theorem cf_int : CallF X Γ (.type "int") cInt := ⟨_, call_int1, fun c vs ws Q E s ra h => by
  unfold cInt at h
  split at h
  · obtain ⟨v, rfl, r⟩ := RpAll.one (c := c) ra
    cases Rp.int_of (c := c) r
    exact .inl ⟨_, rfl, h.pure s (.int _)⟩
  · obtain ⟨v, rfl, r⟩ := RpAll.one (c := c) ra
    cases Rp.bl_of (c := c) r
    exact .inr ⟨_, rfl, h.pure s (.int _)⟩
  · exact h.elim⟩
def cStr : FC := fun ws G => match ws with
  | [.int i] => if i.natAbs.log2 < 1920 then .ok (.str (toString i)) G else .no
  | _ => .no
theorem cf_str : CallF X Γ (.type "str") cStr := ⟨_, call_str_int, fun c vs ws Q E s ra h => by
  unfold cStr at h
  split at h
  · rename_i i
    obtain ⟨v, rfl, r⟩ := RpAll.one (c := c) ra
    cases Rp.int_of (c := c) r
    by_cases k : i.natAbs.log2 < 1920
    · rw [if_pos k] at h
      exact ⟨_, rfl, k, h.pure s (.str _)⟩
    · rw [if_neg k] at h; exact h.elim
  · exact h.elim⟩
def cList (own : Bool) : FC := fun ws G => match ws with
  | [w] => match sqs G w with
    | some ws => mkL own ws G
    | none => .no
  | _ => .no
theorem cf_list {own : Bool} (hK : Γ.K = X.K := by rfl) : CallF X Γ (.type "list") (cList own) := ⟨_, call_list_of, fun c vs ws Q E s ra h => by
  unfold cList at h
  split at h
  · obtain ⟨v, rfl, r⟩ := RpAll.one (c := c) ra
    split at h
    · obtain ⟨p, xs, rfl, hq, rr⟩ := sqs_ok s (by assumption) r
      exact ⟨p, xs, rfl, hK ▸ hq, fun l hl => mkL_ok s rr h hl⟩
    · exact h.elim
  · exact h.elim⟩
def cTuple : FC := fun ws G => match ws with
  | [w] => match sqs G w with
    | some ws => .ok (.tup ws) G
    | none => .no
  | _ => .no
theorem cf_tuple (hK : Γ.K = X.K := by rfl) : CallF X Γ (.type "tuple") cTuple := ⟨_, call_tuple_of, fun c vs ws Q E s ra h => by
  unfold cTuple at h
  split at h
  · obtain ⟨v, rfl, r⟩ := RpAll.one (c := c) ra
    split at h
    · rename_i w _ us e
      unfold sqs at e
      split at e
      · cases e
        obtain ⟨p, xs, rfl, hq, rr⟩ := tsq_ok (by assumption) r
        refine ⟨p, xs, rfl, .inr ⟨hK ▸ hq, ?_⟩⟩
        rename_i e
        have ew : w = .tup us := by
          unfold tsq at e
          split at e
          · cases e; rfl
          · cases e
        subst ew
        exact h.pure s r
      · obtain ⟨p, xs, rfl, hq, rr⟩ := lsq_ok s e r
        exact ⟨p, xs, rfl, .inl ⟨hK ▸ hq, fun l hl => mkT_ok s rr h hl⟩⟩
    · exact h.elim
  · exact h.elim⟩
/-- isinstance of data -/
def isaD (T : String) (d : PyData) : Option Bool :=
  if T = "tuple" then some d.isTuple else if T = "bool" then some d.isBool else if T = "int" then some d.isInt else if T = "str" then some d.isStr else if T = "list" then some d.isList else none
def rIsaD (K : PySem.W.Frag) : List V → Hp → VK → Prop := fun xs H Q => ∃ x T d b, xs = [x, .ty T] ∧ Dp K H x d ∧ isaD T d = some b ∧ Q (.bl b) H
theorem call_isaD : CallR X (.builtin "isinstance") (rIsaD X.K) := by
  intro pins s σ H xs us Q I r h
  obtain ⟨x, T, d, b, rfl, hd, e, q⟩ := h
  obtain ⟨u1, u2, rfl, r1, r2⟩ := vals2 r
  cases (show u2 = Value.type T from r2)
  obtain ⟨as, rr⟩ := Dp.reads I d x u1 hd r1
  have fin : ∀ tk, EP X pins σ Q (.bool b) { s with toks := tk } := fun tk => ⟨.bl b, H, I.tok tk, rfl, q⟩
  unfold isaD at e
  split at e
  · subst T; cases e; exact PySem.W.isinstance_tuple_data rr fun tk _ => fin tk
  · split at e
    · subst T; cases e; exact PySem.W.isinstance_bool_data rr fun tk _ => fin tk
    · split at e
      · subst T; cases e; exact PySem.W.isinstance_int_data rr fun tk _ => fin tk
      · split at e
        · subst T; cases e; exact PySem.W.isinstance_str_data rr fun tk _ => fin tk
        · split at e
          · subst T; cases e; exact PySem.W.isinstance_list_data rr fun tk _ => fin tk
          · cases e
/-- .. by values: nothing within is looked at -/
def isaW (T : String) (w : W) : Option Bool := match w with
  | .non => isaD T .none
  | .bl b => isaD T (.bool b)
  | .int i => isaD T (.int i)
  | .str x => isaD T (.str x)
  | .tup _ => isaD T (.tuple [])
  | .lst _ => isaD T (.list [])
  | _ => none
def cIsa : FC := fun ws G => match ws with
  | [w, .op (.ty T)] => if (res G w).pl then match isaW T (res G w) with
      | some b => .ok (.bl b) G
      | none => .no
    else .no
  | _ => .no
theorem isaW_toD {T : String} {w : W} {b : Bool} (h : isaW T w = some b) : isaD T w.toD = some b := by
  cases w with
  | tup ws => exact h
  | lst ws => exact h
  | dic _ _ => cases h
  | ins _ _ _ => cases h
  | ref _ => cases h
  | op _ => cases h
  | _ => exact h
theorem cf_isa (hK : Γ.K = X.K := by rfl) : CallF X Γ (.builtin "isinstance") cIsa := ⟨_, call_isaD, fun c vs ws Q E s ra h => by
  unfold cIsa at h
  split at h
  · rename_i w T
    obtain ⟨v, x, rfl, r1, r2⟩ := RpAll.two (c := c) ra
    cases r2
    by_cases k : (res c.G w).pl = true
    · rw [if_pos k] at h
      split at h
      · exact ⟨v, T, _, _, rfl, hK ▸ res_dp s r1 k, isaW_toD (by assumption), h.pure s (.bl _)⟩
      · exact h.elim
    · rw [if_neg k] at h; exact h.elim
  · exact h.elim⟩

/-! ### a def -/
/-- a def's promise, by the function that it computes -/
def absF (Γ : Gm) (n : Nat) (F : FC) : Sp := fun vs H Q E => vs.length = n ∧ ∃ (c : Cf) (ws : List W), c.H = H ∧ SR Γ c ∧ c.RpAll Γ vs ws ∧ Th Γ E (Cf.Rp Γ) c Q (F ws c.G)
def RS.fin (r : RS) : R W := match r with
  | .nx _ G => .ok .non G
  | .rt w G => .ok w G
  | .ex x _ G => .ex x G
  | _ => .no
def startW (n : Nat) (ws : List W) : En := ws.map some ++ List.replicate (n - ws.length) none
def fnF (n : Nat) (g : FS) : FC := fun ws G => (g (startW n ws) G).fin
theorem startW_en {c : Cf} {N : List Str} {vs : List V} {ws : List W} (r : c.RpAll Γ vs ws) : c.En Γ (startW N.length ws) (L2.start N vs) := by
  have hl := r.length
  unfold startW L2.start
  refine ⟨by simp [hl], fun i w e => ?_⟩
  by_cases hi : i < ws.length
  · rw [List.getElem?_append_left (by simpa using hi), List.getElem?_map] at e
    cases k : ws[i]? with
    | none => rw [k] at e; cases e
    | some u =>
      rw [k] at e
      cases e
      obtain ⟨v, e1, rv⟩ := r.get k
      refine ⟨v, ?_, rv⟩
      rw [List.getElem?_append_left (by rw [List.length_map, hl]; exact hi), List.getElem?_map, e1]
      rfl
  · rw [List.getElem?_append_right (by simpa using hi), List.getElem?_replicate] at e
    split at e <;> cases e
theorem fn_end {E : XK} {Q : VK} {c : Cf} {N : List Str} {vs : List V} {ws : List W} {g : FS} (s : SR Γ c) (r : c.RpAll Γ vs ws) (h : Th Γ E (Cf.Rp Γ) c Q (fnF N.length g ws c.G)) :
    absS Γ (fun cls d _ H => E cls d H) g { nx := fun _ H' => Q .non H', rt := Q } (L2.start N vs) c.H := by
  refine ⟨c, startW N.length ws, rfl, s, startW_en r, ?_⟩
  unfold fnF at h
  cases k : g (startW N.length ws) c.G with
  | nx ρ G => rw [k] at h; exact fun c' σ a b e en => h c' .non a b e .non
  | rt w G => rw [k] at h; exact fun c' v a b e rv => h c' v a b e rv
  | ex x ρ G => rw [k] at h; exact fun c' σ cls d a b e en rx => h c' cls d a b e rx
  | bk ρ G => rw [k] at h; exact h.elim
  | ct ρ G => rw [k] at h; exact h.elim
  | no => rw [k] at h; exact h.elim
def fnC (n : Nat) (g : FS) : FC := fun ws G => (fnF n g ws G).calm
/-- THE RULE for a def that raises nothing -/
theorem fn0 {P : Program} {w : World} {mg : Str → Option Value} {base : Heap} {x qual : Str} {st : Stmt} {f : Addr} {fd : FuncData} {N ps : List Str} {k : Nat} {g : FS} (F : Fun Γ.K x qual st f fd) (S : FnScope N ps (defScope st))
    (hbody : ∀ (cdv : Value) (A : Around) (outer : List Env) (s : Shared) (H : Hp) (E : XK), Room k (A.deeper (envOfC qual (defScope st) s.heap.objs.size f cdv)) →
      PSs (cxOf CX0 P w Γ.K mg base N qual (defScope st) f cdv A outer s H E).nox (defBody st) (absS Γ Z0 g)) : FnOk P w Γ.K mg base CX0 (k + 1) f fd ps (absF Γ ps.length (fnC N.length g)) := by
  refine F.ok S (fun vs H Q E h => h.1) (fun cdv A outer s H vs Q E hr h => ?_)
  obtain ⟨hl, c, ws, rfl, sr, r, th⟩ := h
  exact ⟨_, hbody cdv A outer s c.H E hr, fn_end (E := E0) sr r (R.calm_th th)⟩
def cFn (n : Nat) (F : FC) : FC := fun ws G => if ws.length = n then (F ws G).calm else .no
/-- a call of such a def -/
theorem fe_call {k : Nat} {f : Addr} {fd : FuncData} {ps : List Str} {n : Nat} {F : FC} {ga : FA} {x : Str} {p pos : Pos} {e : Expr} {es : List Expr} (F0 : FnOk X.prog X.w X.K X.mg X.base CX0 k f fd ps (absF Γ n F)) (hr : Room k X.A) (hg : Gl X x) (hm : X.mg x = some (.ref f)) (hk : PySem.W.keepIn X.K (.ref f) = true)
    (hb : Binds X.K fd ps []) (ha : PA X (e :: es) (absA Γ Z ga)) (hdb : (x == ("__debug__" : Str)) = false := by decide) (he : starEach (e :: es) X.env = (false, eval e X.env) :: starEach es X.env := by rfl) (hpl : (backTo pos (starEach es X.env)).any (·.1) = false := by rfl) :
    PE X (.Call (.Name x p) (e :: es) [] pos) (absE Γ Z (gCall (cFn n F) ga)) := PE.imp (pe_call F0 hr hg hm hk hb .nil pass0 ha hdb he hpl) fun σ H Q q => by
  obtain ⟨c, ρ, e, s, en, th⟩ := absG.bind q
  refine ⟨c, ρ, e, s, en, Th.mono th fun vs c1 st ⟨c2, ρ2, ws, e2, s2, en2, ra, q⟩ => ?_⟩
  unfold cFn at q
  by_cases hl : ws.length = n
  · rw [if_pos hl] at q
    rw [List.append_nil]
    exact ⟨ra.length.trans hl, c2, ws, e2, s2, ra, R.calm_th q⟩
  · rw [if_neg hl] at q
    exact q.elim
theorem fe_call0 {k : Nat} {f : Addr} {fd : FuncData} {F : FC} {x : Str} {p pos : Pos} {ps : List Str} (F0 : FnOk X.prog X.w X.K X.mg X.base CX0 k f fd ps (absF Γ 0 F)) (hr : Room k X.A) (hg : Gl X x) (hm : X.mg x = some (.ref f)) (hk : PySem.W.keepIn X.K (.ref f) = true)
    (hb : Binds X.K fd ps []) (hdb : (x == ("__debug__" : Str)) = false := by decide) : PE X (.Call (.Name x p) [] [] pos) (absE Γ Z (gCall (cFn 0 F) gNil)) := PE.imp (pe_call0 F0 hr hg hm hk hb .nil pass0 hdb) fun σ H Q q => by
  obtain ⟨c, ρ, e, s, en, th⟩ := q
  subst e
  exact ⟨rfl, c, [], rfl, s, .nil, R.calm_th th⟩
end
end Fn

set_option Elab.async false
set_option linter.all false
set_option maxRecDepth 100000
namespace Fn
open PySem PySem.Spec PyProof.Rows L2
section
variable {X : Cx} {Γ : Gm} {Z : WXk}
/-- a, b = x, y: stored from the right -/
def gPar (i j : Nat) (ga : FA) : FS := fun ρ G => (ga ρ G).thn ρ fun ws G1 => match ws with
  | [a, b] => .nx ((ρ.set i (some a)).set j (some b)) G1
  | _ => .no
theorem fs_par {i j : Nat} {x y : Str} {a b : Expr} {ga : FA} {px py pt pos : Pos} {kt k2 : Nat} {pt2 : Pos} (hc : X.calm = true) (hN : X.N.Nodup) (hi : X.N[i]? = some x) (hj : X.N[j]? = some y) (hij : i ≠ j)
    (hx : X.env.scope.names.lookup x = some .local) (hy : X.env.scope.names.lookup y = some .local) (ha : PA X [a, b] (absA Γ Z ga))
    (hw : swappedStores [.Tuple [.Name x px, .Name y py] kt pt] (.Tuple [a, b] k2 pt2) X.env = pure (some [x, y]))
    (hs : swapsWithSole [.Tuple [.Name x px, .Name y py] kt pt] (.Tuple [a, b] k2 pt2) pos.line X.env = pure false := by rfl) :
    PS X (.Assign [.Tuple [.Name x px, .Name y py] kt pt] (.Tuple [a, b] k2 pt2) pos) (absS Γ Z (gPar i j ga)) :=
  PS.imp (ps_par hc hN hi hj hij hx hy ha hw hs) fun D σ H q => by
    obtain ⟨c, ρ, e, s, en, th⟩ := absS.bind (rel := Cf.RpAll Γ) q
    refine ⟨c, ρ, e, s, en, Th.mono th fun vs c1 st ⟨c2, ρ2, ws, e2, s2, en2, ra, q⟩ => ?_⟩
    rw [← e2]
    split at q
    · obtain ⟨v, u, rfl, r1, r2⟩ := RpAll.two (c := c2) ra
      exact ⟨v, u, rfl, q c2 _ (Stp.refl c2) s2 rfl ((en2.set r1 i).set r2 j)⟩
    · exact q.elim
/-- name op= e -/
def gAug (i : Nat) (f : F2) (g : FE) : FS := fun ρ G => match ρ[i]? with
  | some (some a) => (g ρ G).thn ρ fun b G1 => (f a b G1).thn ρ fun w G2 => .nx (ρ.set i (some w)) G2
  | _ => .no
theorem fs_aug {i : Nat} {x : Str} {e : Expr} {op : Operator} {f : F2} {g : FE} {pos pos' : Pos} (hN : X.N.Nodup) (hi : X.N[i]? = some x) (hx : Loc X.env.scope x) (ho : OpF X Γ (inplaceOp op) f) (he : PE X e (absE Γ Z g)) (hf : X.fn x = true ∨ X.env.scope.names.lookup x = some .local := by first | exact .inl rfl | exact .inr rfl | assumption) :
    PS X (.AugAssign (.Name x pos') op e pos) (absS Γ Z (gAug i f g)) := by
  obtain ⟨r, hr, h⟩ := ho
  have ip : PIp X op r := fun pins s σ H x y v u Q I r1 r2 q => augR hr I r1 r2 q
  refine PS.imp (ps_aug hN hi hx he ip hf) fun D σ H q => ?_
  obtain ⟨c, ρ, e, s, en, th⟩ := q
  subst e
  unfold gAug at th
  split at th
  · rename_i a ea
    obtain ⟨v, e1, rv⟩ := en.2 _ _ ea
    refine ⟨v, e1, c, ρ, rfl, s, en, Th.mono (ThS.bind (rel := Cf.Rp Γ) s en th) fun u c1 st ⟨c2, b, e2, st2, s2, en2, rb, q⟩ => ?_⟩
    rw [← e2]
    refine h c2 v u a b _ (fun cls d H' => Z cls d σ H') s2 (st2.rp s rv) rb ?_
    exact Th.mono (ThS.bind (rel := Cf.Rp Γ) s2 en2 q) fun z c3 st3 ⟨c4, w, e4, st4, s4, en4, rw4, q4⟩ => by rw [← e4]; exact q4 c4 _ (Stp.refl c4) s4 rfl (en4.set rw4 i)
  · exact th.elim
def fIadd : F2 := fun a b G => match a, b with
  | .int i, .int j => .ok (.int (i + j)) G
  | .str i, .str j => if i.length + j.length ≤ sizeLine then .ok (.str (i ++ j)) G else .no
  | _, _ => .no
theorem of_iadd : OpF X Γ (inplaceOp .Add) fIadd := ⟨_, iop_add.or iop_add_str, fun c x y a b Q E s ra rb h => by
  unfold fIadd at h
  split at h
  · exact .inl (rI0_int (g := fun i j => i + j) c x y _ _ Q E s ra rb h)
  · rename_i i j
    cases ra
    cases rb
    refine .inr ⟨i, j, rfl, rfl, ?_⟩
    by_cases k : i.length + j.length ≤ sizeLine
    · rw [if_pos k] at h
      exact ⟨k, h.pure s (.str _)⟩
    · rw [if_neg k] at h
      exact h.elim
  · exact h.elim⟩
theorem of_isub : OpF X Γ (inplaceOp .Sub) fSub := ⟨_, iop_sub, rI0_int⟩

/-! ### methods of lists -/
def lw (G : GH) : W → Option (Nat × List W)
  | .ref n => match G.at_ n with
    | some (.lst ws) => some (n, ws)
    | _ => none
  | _ => none
theorem lw_ok {c : Cf} (s : SR Γ c) {v : V} {w : W} {n : Nat} {ws : List W} (h : lw c.G w = some (n, ws)) (r : c.Rp Γ v w) : ∃ a xs, v = .ref a ∧ c.H a = some (.lst xs) ∧ c.RpAll Γ xs ws ∧ c.ι[n]? = some a ∧ c.G.at_ n = some (.lst ws) := by
  unfold lw at h
  cases r with
  | @ref m a h1 =>
    simp only at h
    cases e : c.G.at_ m with
    | none => simp [e] at h
    | some o =>
      obtain ⟨b, ho, e1, e2, r⟩ := s.obj m o e
      rw [h1] at e1; cases e1
      cases r with
      | lst r => simp only [e, Option.some.injEq, Prod.mk.injEq] at h; obtain ⟨rfl, rfl⟩ := h; exact ⟨a, _, rfl, e2, r, h1, e⟩
      | dic _ _ => simp [e] at h
      | ins _ _ => simp [e] at h
  | _ => cases h
/-- o.m(e ..), o a list that is owned -/
def gMth (g : W → List W → GH → R W) (go : FE) (ga : FA) : FE := fun ρ G => (go ρ G).bind fun o G1 => (ga ρ G1).bind fun ws G2 => g o ws G2
def MthF (X : Cx) (Γ : Gm) (T id : String) (g : W → List W → GH → R W) : Prop :=
  ∃ r, MtR X id r ∧ ∀ (c : Cf) (o : V) (vs : List V) (wo : W) (ws : List W) (Q : VK) (E : XK), SR Γ c → c.Rp Γ o wo → c.RpAll Γ vs ws → Th Γ E (Cf.Rp Γ) c Q (g wo ws c.G) → r o vs c.H Q
/-- of what type a value surely is -/
def isTy (T : String) (G : GH) (w : W) : Bool := match w with
  | .str _ => T == "str"
  | .lst _ => T == "list"
  | .ref n => match G.at_ n with
    | some (.lst _) => T == "list"
    | some (.dic _ _) => T == "dict"
    | _ => false
  | _ => false
theorem isTy_ok {c : Cf} (s : SR Γ c) {v : V} {w : W} {T : String} (h : isTy T c.G w = true) (r : c.Rp Γ v w) : tyV Γ.K T v c.H := by
  unfold isTy at h
  cases r with
  | str x => exact beq_iff_eq.mp h
  | lst h1 n r => exact .inl ⟨beq_iff_eq.mp h, _, .inl h1⟩
  | lstK h1 h2 h3 h4 h5 h6 r => exact .inl ⟨beq_iff_eq.mp h, _, .inr ⟨_, _, _, h1, h2, h3, h4, h5, h6⟩⟩
  | @ref n a h1 =>
    simp only at h
    cases e : c.G.at_ n with
    | none => simp [e] at h
    | some o =>
      obtain ⟨b, ho, e1, e2, r⟩ := s.obj n o e
      rw [h1] at e1; cases e1
      cases r with
      | lst r => simp only [e] at h; exact .inl ⟨beq_iff_eq.mp h, _, .inl (.inl e2)⟩
      | dic l r => simp only [e] at h; exact .inr (.inr (.inl ⟨beq_iff_eq.mp h, .inl ⟨_, e2⟩⟩))
      | ins _ _ => simp [e] at h
  | _ => cases h
def gMt (T : String) (g : W → List W → GH → R W) (go : FE) (ga : FA) : FE := fun ρ G => (go ρ G).bind fun o G1 => if isTy T G1 o then (ga ρ G1).bind fun ws G2 => g o ws G2 else .no
theorem fe_mt {T id : String} {name : Str} {g : W → List W → GH → R W} {o e : Expr} {es : List Expr} {go : FE} {ga : FA} {apos cpos : Pos} (pa : PlainAttrs T) (slot : Slot T name id) (hty : typeOf (.builtin id) = pure (.type "method_descriptor")) (hm : MthF X Γ T id g) (ho : PE X o (absE Γ Z go)) (ha : PA X (e :: es) (absA Γ Z ga)) (hK : Γ.K = X.K := by rfl)
    (hbase : attributeBase o name X.env (eval o X.env) = eval o X.env := by rfl)
    (hfew : ((backTo cpos (starEach (e :: es) X.env)).all (fun x => !x.1) && (backToKw cpos (keywordEach [] X.env)).all (fun x => x.1.isSome)
      && decide ((e :: es).length + ([] : List Keyword).length + (if ([] : List Keyword).isEmpty then 0 else 1) < 30)) = true := by rfl)
    (hline : (apos.endLine == cpos.line) = true := by rfl) (hs : starEach (e :: es) X.env = (false, eval e X.env) :: starEach es X.env := by rfl) (hplain : (backTo cpos (starEach es X.env)).any (·.1) = false := by rfl) :
    PE X (.Call (.Attribute o name apos) (e :: es) [] cpos) (absE Γ Z (gMt T g go ga)) := by
  obtain ⟨r, hr, h⟩ := hm
  refine PE.imp (pe_bm pa slot hty hr ho ha hbase hfew hline hs hplain) fun σ H Q q => ?_
  obtain ⟨c, ρ, e, s, en, th⟩ := absG.bind q
  refine ⟨c, ρ, e, s, en, Th.mono th fun v c1 st ⟨c2, ρ2, wo, e2, s2, en2, ra, q⟩ => ?_⟩
  by_cases k : isTy T c2.G wo = true
  · rw [if_pos k] at q
    refine ⟨by rw [← e2, ← hK]; exact isTy_ok s2 k ra, c2, ρ2, e2, s2, en2, Th.mono (Th.bind q) fun vs c3 st3 ⟨c4, ws, e4, st4, s4, rb, q4⟩ => ?_⟩
    rw [← e4]
    exact h c4 v vs wo ws Q _ s4 (st4.rp s2 ra) rb q4
  · rw [if_neg k] at q
    exact q.elim
theorem fe_mt0 {T id : String} {name : Str} {g : W → List W → GH → R W} {o : Expr} {go : FE} {apos cpos : Pos} (pa : PlainAttrs T) (slot : Slot T name id) (hty : typeOf (.builtin id) = pure (.type "method_descriptor")) (hm : MthF X Γ T id g) (ho : PE X o (absE Γ Z go)) (hK : Γ.K = X.K := by rfl)
    (hbase : attributeBase o name X.env (eval o X.env) = eval o X.env := by rfl) (hline : (apos.endLine == cpos.line) = true := by rfl) : PE X (.Call (.Attribute o name apos) [] [] cpos) (absE Γ Z (gMt T g go gNil)) := by
  obtain ⟨r, hr, h⟩ := hm
  refine PE.imp (pe_bm0 pa slot hty hr ho hbase hline) fun σ H Q q => ?_
  obtain ⟨c, ρ, e, s, en, th⟩ := absG.bind q
  refine ⟨c, ρ, e, s, en, Th.mono th fun v c1 st ⟨c2, ρ2, wo, e2, s2, en2, ra, q⟩ => ?_⟩
  by_cases k : isTy T c2.G wo = true
  · rw [if_pos k] at q
    rw [← e2]
    exact ⟨hK ▸ isTy_ok s2 k ra, h c2 v [] wo [] Q _ s2 ra .nil q⟩
  · rw [if_neg k] at q
    exact q.elim
def mAppend : W → List W → GH → R W := fun o ws G => match lw G o, ws with
  | some (n, xs), [w] => if xs.length < sizeLine then .ok .non (G.set n (.lst (xs ++ [w]))) else .no
  | _, _ => .no
theorem mf_append : MthF X Γ "list" "list.append" mAppend := ⟨_, mt_append, fun c o vs wo ws Q E s ro rv h => by
  unfold mAppend at h
  split at h
  · rename_i n xs w e
    obtain ⟨a, ys, rfl, hH, r, hn, hG⟩ := lw_ok s e ro
    obtain ⟨v, rfl, r1⟩ := RpAll.one (c := c) rv
    by_cases k : xs.length < sizeLine
    · rw [if_pos k] at h
      obtain ⟨st, s'⟩ := upd_own (ho := .lst (ys ++ [v])) s hG hn (.lst (r.append (.cons r1 .nil)))
      exact ⟨a, ys, v, rfl, rfl, hH, by rw [r.length]; exact k, h _ _ st s' rfl .non⟩
    · rw [if_neg k] at h; exact h.elim
  · exact h.elim⟩
theorem RpAll.dropLast {c : Cf} {vs : List V} {ws : List W} (r : c.RpAll Γ vs ws) : c.RpAll Γ vs.dropLast ws.dropLast := by
  rw [List.dropLast_eq_take, List.dropLast_eq_take, r.length]
  exact r.take _
def mPop : W → List W → GH → R W := fun o ws G => match lw G o, ws with
  | some (n, xs), [] => match xs[xs.length - 1]? with
    | some w => .ok w (G.set n (.lst xs.dropLast))
    | none => .no
  | _, _ => .no
theorem mf_pop : MthF X Γ "list" "list.pop" mPop := ⟨_, mt_pop, fun c o vs wo ws Q E s ro rv h => by
  unfold mPop at h
  split at h
  · rename_i n xs e
    obtain ⟨a, ys, rfl, hH, r, hn, hG⟩ := lw_ok s e ro
    cases rv
    split at h
    · rename_i w ew
      obtain ⟨v, ev, rv⟩ := r.get ew
      obtain ⟨st, s'⟩ := upd_own (ho := .lst ys.dropLast) s hG hn (.lst (RpAll.dropLast (c := c) r))
      exact ⟨a, ys, v, rfl, rfl, hH, by rw [r.length]; exact ev, h _ _ st s' rfl (st.rp s rv)⟩
    · exact h.elim
  · exact h.elim⟩
def mReverse : W → List W → GH → R W := fun o ws G => match lw G o, ws with
  | some (n, xs), [] => .ok .non (G.set n (.lst xs.reverse))
  | _, _ => .no
theorem RpAll.reverse {c : Cf} : ∀ {vs : List V} {ws : List W}, c.RpAll Γ vs ws → c.RpAll Γ vs.reverse ws.reverse
  | _, _, .nil => .nil
  | _, _, .cons h t => by
    rw [List.reverse_cons, List.reverse_cons]
    exact RpAll.append (RpAll.reverse t) (.cons h .nil)
theorem mf_reverse : MthF X Γ "list" "list.reverse" mReverse := ⟨_, mt_reverse, fun c o vs wo ws Q E s ro rv h => by
  unfold mReverse at h
  split at h
  · rename_i n xs e
    obtain ⟨a, ys, rfl, hH, r, hn, hG⟩ := lw_ok s e ro
    cases rv
    obtain ⟨st, s'⟩ := upd_own (ho := .lst ys.reverse) s hG hn (.lst (RpAll.reverse (c := c) r))
    exact ⟨a, ys, rfl, rfl, hH, h _ _ st s' rfl .non⟩
  · exact h.elim⟩
end
end Fn

set_option Elab.async false
set_option linter.all false
set_option maxRecDepth 100000
namespace Fn
open PySem PySem.Spec PyProof.Rows L2
section
variable {X : Cx} {Γ : Gm} {Z : WXk}
/-! ### any, all, of truth values -/
def blsOf : List W → Option (List Bool)
  | [] => some []
  | .bl b :: ws => match blsOf ws with
    | some bs => some (b :: bs)
    | none => none
  | _ :: _ => none
def intsOf : List W → Option (List Int)
  | [] => some []
  | .int b :: ws => match intsOf ws with
    | some bs => some (b :: bs)
    | none => none
  | _ :: _ => none
theorem blsOf_eq : ∀ {ws : List W} {bs : List Bool}, blsOf ws = some bs → ws = bs.map W.bl
  | [], _, h => by cases h; rfl
  | .bl b :: ws, bs, h => by
    unfold blsOf at h
    cases e : blsOf ws with
    | none => rw [e] at h; cases h
    | some cs => rw [e] at h; cases h; rw [List.map_cons, ← blsOf_eq e]
  | .non :: _, _, h | .int _ :: _, _, h | .str _ :: _, _, h | .tup _ :: _, _, h | .lst _ :: _, _, h | .dic _ _ :: _, _, h | .ins _ _ _ :: _, _, h | .ref _ :: _, _, h | .op _ :: _, _, h => by cases h
theorem intsOf_eq : ∀ {ws : List W} {bs : List Int}, intsOf ws = some bs → ws = bs.map W.int
  | [], _, h => by cases h; rfl
  | .int b :: ws, bs, h => by
    unfold intsOf at h
    cases e : intsOf ws with
    | none => rw [e] at h; cases h
    | some cs => rw [e] at h; cases h; rw [List.map_cons, ← intsOf_eq e]
  | .non :: _, _, h | .bl _ :: _, _, h | .str _ :: _, _, h | .tup _ :: _, _, h | .lst _ :: _, _, h | .dic _ _ :: _, _, h | .ins _ _ _ :: _, _, h | .ref _ :: _, _, h | .op _ :: _, _, h => by cases h
@[simp] theorem blsOf_map : ∀ bs : List Bool, blsOf (bs.map W.bl) = some bs
  | [] => rfl
  | b :: bs => by rw [List.map_cons, blsOf, blsOf_map bs]
@[simp] theorem intsOf_map : ∀ bs : List Int, intsOf (bs.map W.int) = some bs
  | [] => rfl
  | b :: bs => by rw [List.map_cons, intsOf, intsOf_map bs]
theorem RpAll.bls {c : Cf} : ∀ {bs : List Bool} {vs : List V}, c.RpAll Γ vs (bs.map W.bl) → vs = bs.map V.bl
  | [], _, r => by cases r; rfl
  | b :: bs, _, r => by
    cases r with
    | cons h t => cases h; rw [List.map_cons, RpAll.bls (c := c) t]
theorem RpAll.ints {c : Cf} : ∀ {bs : List Int} {vs : List V}, c.RpAll Γ vs (bs.map W.int) → vs = bs.map V.int
  | [], _, r => by cases r; rfl
  | b :: bs, _, r => by
    cases r with
    | cons h t => cases h; rw [List.map_cons, RpAll.ints (c := c) t]
theorem dp_bls {K : PySem.W.Frag} {H : Hp} : ∀ bs : List Bool, DpAll K H (bs.map V.bl) (bs.map PyData.bool)
  | [] => .nil
  | b :: bs => .cons (.bl b) (dp_bls bs)
theorem dp_ints {K : PySem.W.Frag} {H : Hp} : ∀ bs : List Int, DpAll K H (bs.map V.int) (bs.map PyData.int)
  | [] => .nil
  | b :: bs => .cons (.int b) (dp_ints bs)
theorem plain_bls : ∀ bs : List Bool, PyData.plainAll (bs.map PyData.bool) = true
  | [] => rfl
  | b :: bs => by simp only [List.map_cons, PyData.plainAll, plain_bls bs, PyData.plain, Bool.and_self]
theorem any_bls : ∀ bs : List Bool, (bs.map PyData.bool).any PyData.truthy = bs.any id
  | [] => rfl
  | b :: bs => by rw [List.map_cons, List.any_cons, List.any_cons, any_bls bs]; rfl
theorem all_bls : ∀ bs : List Bool, (bs.map PyData.bool).all PyData.truthy = bs.all id
  | [] => rfl
  | b :: bs => by rw [List.map_cons, List.all_cons, List.all_cons, all_bls bs]; rfl
theorem fits_bls (bs : List Bool) : ∀ x ∈ bs.map PyData.bool, x.fits63 := fun x h => by
  obtain ⟨b, _, rfl⟩ := List.mem_map.mp h
  trivial
theorem depth_ints : ∀ bs : List Int, PyData.depthAll (bs.map PyData.int) = 0
  | [] => rfl
  | b :: bs => by simp only [List.map_cons, PyData.depthAll, depth_ints bs, PyData.depth, Nat.max_self]
def rAnyB (K : PySem.W.Frag) : List V → Hp → VK → Prop := fun xs H Q => ∃ (a : Addr) (bs : List Bool), xs = [.ref a] ∧ (SqL K H a (bs.map V.bl) ∨ SqT K H a (bs.map V.bl)) ∧ Q (.bl (bs.any id)) H
def rAllB (K : PySem.W.Frag) : List V → Hp → VK → Prop := fun xs H Q => ∃ (a : Addr) (bs : List Bool), xs = [.ref a] ∧ (SqL K H a (bs.map V.bl) ∨ SqT K H a (bs.map V.bl)) ∧ Q (.bl (bs.all id)) H
theorem call_anyB (hc : X.calm = true) : CallR X (.builtin "any") (rAnyB X.K) := by
  intro pins s σ H xs us Q I r h
  obtain ⟨a, bs, rfl, hq, q⟩ := h
  obtain ⟨u, rfl, r1⟩ := r.one
  cases r1
  rcases hq with hq | hq
  · obtain ⟨its, rv, p, hz⟩ := I.list hq
    obtain ⟨as, hr⟩ := Dp.readsAll I _ _ its (dp_bls bs) rv
    refine PySem.W.any_list_data (I.ok.hd hc) p.isList hr (plain_bls bs) (fits_bls bs) fun h' tk k => ?_
    rw [any_bls]
    exact ⟨.bl _, H, I.kept k, rfl, q⟩
  · obtain ⟨its, rv, p, hz⟩ := I.tuple hq
    obtain ⟨as, hr⟩ := Dp.readsAll I _ _ its (dp_bls bs) rv
    refine PySem.W.any_tuple_data (I.ok.hd hc) (show s.heap.IsTuple a its.toArray from p) hr (plain_bls bs) (fits_bls bs) fun h' tk k => ?_
    rw [any_bls]
    exact ⟨.bl _, H, I.kept k, rfl, q⟩
theorem call_allB (hc : X.calm = true) : CallR X (.builtin "all") (rAllB X.K) := by
  intro pins s σ H xs us Q I r h
  obtain ⟨a, bs, rfl, hq, q⟩ := h
  obtain ⟨u, rfl, r1⟩ := r.one
  cases r1
  rcases hq with hq | hq
  · obtain ⟨its, rv, p, hz⟩ := I.list hq
    obtain ⟨as, hr⟩ := Dp.readsAll I _ _ its (dp_bls bs) rv
    refine PySem.W.all_list_data (I.ok.hd hc) p.isList hr (plain_bls bs) (fits_bls bs) fun h' tk k => ?_
    rw [all_bls]
    exact ⟨.bl _, H, I.kept k, rfl, q⟩
  · obtain ⟨its, rv, p, hz⟩ := I.tuple hq
    obtain ⟨as, hr⟩ := Dp.readsAll I _ _ its (dp_bls bs) rv
    refine PySem.W.all_tuple_data (I.ok.hd hc) (show s.heap.IsTuple a its.toArray from p) hr (plain_bls bs) (fits_bls bs) fun h' tk k => ?_
    rw [all_bls]
    exact ⟨.bl _, H, I.kept k, rfl, q⟩
def cAny : FC := fun ws G => match ws with
  | [w] => match sqs G w with
    | some us => match blsOf us with
      | some bs => .ok (.bl (bs.any id)) G
      | none => .no
    | none => .no
  | _ => .no
def cAll : FC := fun ws G => match ws with
  | [w] => match sqs G w with
    | some us => match blsOf us with
      | some bs => .ok (.bl (bs.all id)) G
      | none => .no
    | none => .no
  | _ => .no
theorem cf_any (hc : X.calm = true) (hK : Γ.K = X.K := by rfl) : CallF X Γ (.builtin "any") cAny := ⟨_, call_anyB hc, fun c vs ws Q E s ra h => by
  unfold cAny at h
  split at h
  · obtain ⟨v, rfl, r⟩ := RpAll.one (c := c) ra
    split at h
    · rename_i us e
      split at h
      · rename_i bs eb
        obtain ⟨p, xs, rfl, hq, rr⟩ := sqs_ok s e r
        rw [blsOf_eq eb] at rr
        cases RpAll.bls (c := c) rr
        exact ⟨p, bs, rfl, hq.imp (fun z => hK ▸ z) (fun z => hK ▸ z), h.pure s (.bl _)⟩
      · exact h.elim
    · exact h.elim
  · exact h.elim⟩
theorem cf_all (hc : X.calm = true) (hK : Γ.K = X.K := by rfl) : CallF X Γ (.builtin "all") cAll := ⟨_, call_allB hc, fun c vs ws Q E s ra h => by
  unfold cAll at h
  split at h
  · obtain ⟨v, rfl, r⟩ := RpAll.one (c := c) ra
    split at h
    · rename_i us e
      split at h
      · rename_i bs eb
        obtain ⟨p, xs, rfl, hq, rr⟩ := sqs_ok s e r
        rw [blsOf_eq eb] at rr
        cases RpAll.bls (c := c) rr
        exact ⟨p, bs, rfl, hq.imp (fun z => hK ▸ z) (fun z => hK ▸ z), h.pure s (.bl _)⟩
      · exact h.elim
    · exact h.elim
  · exact h.elim⟩
/-! ### min and max of numbers, default=d -/
theorem alike_ints (bs : List Int) : PySem.W.AlikeAll (bs.map PyData.int) := ⟨fun x hx y hy => by
  obtain ⟨i, _, rfl⟩ := List.mem_map.mp hx
  obtain ⟨j, _, rfl⟩ := List.mem_map.mp hy
  simp only [PySem.W.alike], fun x hx => by
  obtain ⟨i, _, rfl⟩ := List.mem_map.mp hx
  exact fun e => by cases e⟩
def bestOr (f : Int → Int → Int) (d : V) : List Int → V
  | [] => d
  | n :: ns => .int (ns.foldl f n)
def rBestD (K : PySem.W.Frag) (f : Int → Int → Int) : List V → List V → Hp → VK → Prop := fun xs zs H Q => ∃ (a : Addr) (ns : List Int) (d : V), xs = [.ref a] ∧ zs = [d] ∧ SqL K H a (ns.map V.int) ∧ Q (bestOr f d ns) H
theorem call_minD (hc : X.calm = true) (hu : X.A.units + 64 < cLine) : CallRK X (.builtin "min") [Str.ofString "default"] (rBestD X.K min) := by
  intro pins s σ H xs zs us ws Q I r rz h
  obtain ⟨a, ns, d, rfl, rfl, hq, q⟩ := h
  obtain ⟨u, rfl, r1⟩ := r.one
  obtain ⟨dv, rfl, r2⟩ := rz.one
  cases r1
  obtain ⟨its, rv, p, hz⟩ := I.list hq
  obtain ⟨as, hr⟩ := Dp.readsAll I _ _ its (dp_ints ns) rv
  refine PySem.W.min_list_default (d := dv) (I.ok.hd hc) p.isList hr (alike_ints ns) (by rw [depth_ints]; omega) (fun e h' tk k => ?_) fun y ys i v h' tk bs e ev hb k => ?_
  · have : ns = [] := List.map_eq_nil_iff.mp e
    subst this
    exact ⟨d, H, I.kept k, r2, q⟩
  · cases ns with
    | nil => cases e
    | cons n ns =>
      cases e
      rw [PySem.W.minD_ints] at hb
      cases hb
      exact ⟨.int _, H, I.kept k, ⟨_, rfl⟩, q⟩
theorem call_maxD (hc : X.calm = true) (hu : X.A.units + 64 < cLine) : CallRK X (.builtin "max") [Str.ofString "default"] (rBestD X.K max) := by
  intro pins s σ H xs zs us ws Q I r rz h
  obtain ⟨a, ns, d, rfl, rfl, hq, q⟩ := h
  obtain ⟨u, rfl, r1⟩ := r.one
  obtain ⟨dv, rfl, r2⟩ := rz.one
  cases r1
  obtain ⟨its, rv, p, hz⟩ := I.list hq
  obtain ⟨as, hr⟩ := Dp.readsAll I _ _ its (dp_ints ns) rv
  refine PySem.W.max_list_default (d := dv) (I.ok.hd hc) p.isList hr (alike_ints ns) (by rw [depth_ints]; omega) (fun e h' tk k => ?_) fun y ys i v h' tk bs e ev hb k => ?_
  · have : ns = [] := List.map_eq_nil_iff.mp e
    subst this
    exact ⟨d, H, I.kept k, r2, q⟩
  · cases ns with
    | nil => cases e
    | cons n ns =>
      cases e
      rw [PySem.W.maxD_ints] at hb
      cases hb
      exact ⟨.int _, H, I.kept k, ⟨_, rfl⟩, q⟩
abbrev FCK := List W → List W → GH → R W
def CallFK (X : Cx) (Γ : Gm) (f : Value) (ks : List Str) (g : FCK) : Prop :=
  ∃ r, CallRK X f ks r ∧ ∀ (c : Cf) (vs zs : List V) (ws us : List W) (Q : VK) (E : XK), SR Γ c → c.RpAll Γ vs ws → c.RpAll Γ zs us → Th Γ E (Cf.Rp Γ) c Q (g ws us c.G) → r vs zs c.H Q
def gCallK (g : FCK) (ga gk : FA) : FE := fun ρ G => (ga ρ G).bind fun ws G1 => (gk ρ G1).bind fun us G2 => g ws us G2
theorem PK.imp {k : List Keyword} {t t' : TA} (h : PK X k t) (m : ∀ σ H Q, t' σ H Q → t σ H Q) : PK X k t' := ⟨fun pos pins s σ H Q I q => h.run pos pins s σ H Q I (m σ H Q q)⟩
theorem fk_nil : PK X [] (absA Γ Z gNil) := PK.imp pk_nil fun σ H Q ⟨c, ρ, e, s, en, th⟩ => by
  subst e
  exact th c [] (Stp.refl c) s rfl .nil
theorem fk_cons {nm : Option Str} {e : Expr} {kpos : Pos} {kws : List Keyword} {g : FE} {gr : FA} (ha : PE X e (absE Γ Z g)) (hr : PK X kws (absA Γ Z gr)) : PK X (⟨nm, e, kpos⟩ :: kws) (absA Γ Z (gCons g gr)) := PK.imp (pk_cons ha hr) fun σ H Q q => by
  obtain ⟨c, ρ, e, s, en, th⟩ := absG.bind q
  refine ⟨c, ρ, e, s, en, Th.mono th fun v c1 st ⟨c2, ρ2, w, e2, s2, en2, rw, q⟩ => ?_⟩
  refine ⟨c2, ρ2, e2, s2, en2, Th.mono (Th.bind q) fun vs c3 st3 ⟨c4, ws, e4, st4, s4, rws, q4⟩ => ?_⟩
  rw [← e4]
  exact q4 c4 _ (Stp.refl c4) s4 rfl (.cons (st4.rp s2 rw) rws)
theorem fe_callK {id : String} {ks : List Str} {g : FCK} {ga gk : FA} {x : Str} {p pos : Pos} {e : Expr} {es : List Expr} {kws : List Keyword} (hc : CallFK X Γ (.builtin id) ks g) (hg : Gl X x) (hm : X.mg x = none) (hv : bootBuiltins x = some (.builtin id)) (ha : PA X (e :: es) (absA Γ Z ga)) (hk : PK X kws (absA Γ Z gk))
    (hn : x ≠ "__name__" := by decide) (hdb : (x == ("__debug__" : Str)) = false := by decide)
    (he : backTo pos (starEach (e :: es) X.env) = (false, eval e X.env) :: backTo pos (starEach es X.env) := by rfl) (hpl : (backTo pos (starEach (e :: es) X.env)).any (·.1) = false := by rfl)
    (hall : (backToKw pos (keywordEach kws X.env)).all (·.1.isSome) = true := by rfl) (hnone : (backToKw pos (keywordEach kws X.env)).any (·.1.isNone) = false := by rfl) (hks : (backToKw pos (keywordEach kws X.env)).filterMap (·.1) = ks := by rfl) :
    PE X (.Call (.Name x p) (e :: es) kws pos) (absE Γ Z (gCallK g ga gk)) := by
  obtain ⟨r, hr, h⟩ := hc
  refine PE.imp (pe_callBK hr hg hm hv ha hk hn hdb he hpl hall hnone hks) fun σ H Q q => ?_
  obtain ⟨c, ρ, e, s, en, th⟩ := absG.bind q
  refine ⟨c, ρ, e, s, en, Th.mono th fun vs c1 st ⟨c2, ρ2, ws, e2, s2, en2, ra, q⟩ => ?_⟩
  refine ⟨c2, ρ2, e2, s2, en2, Th.mono (Th.bind q) fun zs c3 st3 ⟨c4, us, e4, st4, s4, rb, q4⟩ => ?_⟩
  rw [← e4]
  exact h c4 vs zs ws us Q _ s4 (st4.rpAll s2 ra) rb q4
def bestW (f : Int → Int → Int) (d : W) : List Int → W
  | [] => d
  | n :: ns => .int (ns.foldl f n)
def cBest (f : Int → Int → Int) : FCK := fun ws us G => match ws, us with
  | [w], [d] => match lsq G w with
    | some us => match intsOf us with
      | some ns => .ok (bestW f d ns) G
      | none => .no
    | none => .no
  | _, _ => .no
theorem best_ok {f : Int → Int → Int} (hK : Γ.K = X.K) (c : Cf) (vs zs : List V) (ws us : List W) (Q : VK) (E : XK) (s : SR Γ c) (ra : c.RpAll Γ vs ws) (rz : c.RpAll Γ zs us) (h : Th Γ E (Cf.Rp Γ) c Q (cBest f ws us c.G)) : rBestD X.K f vs zs c.H Q := by
  unfold cBest at h
  split at h
  · obtain ⟨v, rfl, r⟩ := RpAll.one (c := c) ra
    obtain ⟨d, rfl, rd⟩ := RpAll.one (c := c) rz
    split at h
    · rename_i us e
      split at h
      · rename_i ns eb
        obtain ⟨p, xs, rfl, hq, rr⟩ := lsq_ok s e r
        rw [intsOf_eq eb] at rr
        cases RpAll.ints (c := c) rr
        refine ⟨p, ns, d, rfl, rfl, hK ▸ hq, ?_⟩
        cases ns with
        | nil => exact h.pure s rd
        | cons n ns => exact h.pure s (.int _)
      · exact h.elim
    · exact h.elim
  · exact h.elim
theorem cf_minD (hc : X.calm = true) (hu : X.A.units + 64 < cLine) (hK : Γ.K = X.K := by rfl) : CallFK X Γ (.builtin "min") [Str.ofString "default"] (cBest min) := ⟨_, call_minD hc hu, best_ok hK⟩
theorem cf_maxD (hc : X.calm = true) (hu : X.A.units + 64 < cLine) (hK : Γ.K = X.K := by rfl) : CallFK X Γ (.builtin "max") [Str.ofString "default"] (cBest max) := ⟨_, call_maxD hc hu, best_ok hK⟩
/-! ### l.insert(i, x) -/
def mInsert : W → List W → GH → R W := fun o ws G => match lw G o, ws with
  | some (n, xs), [.int i, w] => if xs.length < sizeLine ∧ 0 ≤ i ∧ i < 2 ^ 63 then .ok .non (G.set n (.lst (xs.take i.toNat ++ [w] ++ xs.drop i.toNat))) else .no
  | _, _ => .no
theorem mf_insert : MthF X Γ "list" "list.insert" mInsert := ⟨_, mt_insert, fun c o vs wo ws Q E s ro rv h => by
  unfold mInsert at h
  split at h
  · rename_i n xs i w e
    obtain ⟨a, ys, rfl, hH, r, hn, hG⟩ := lw_ok s e ro
    obtain ⟨v, x, rfl, r1, r2⟩ := RpAll.two (c := c) rv
    cases Rp.int_of (c := c) r1
    by_cases k : xs.length < sizeLine ∧ 0 ≤ i ∧ i < 2 ^ 63
    · rw [if_pos k] at h
      obtain ⟨st, s'⟩ := upd_own (ho := .lst (ys.take i.toNat ++ [x] ++ ys.drop i.toNat)) s hG hn (.lst (((r.take i.toNat).append (.cons r2 .nil)).append (r.drop i.toNat)))
      exact ⟨a, ys, i, x, rfl, rfl, hH, by rw [r.length]; exact k.1, k.2.1, k.2.2, h _ _ st s' rfl .non⟩
    · rw [if_neg k] at h; exact h.elim
  · exact h.elim⟩
end
end Fn

set_option Elab.async false
set_option linter.all false
set_option maxRecDepth 100000
namespace Fn
open PySem PySem.Spec PyProof.Rows L2
/-! ### dicts: what they hold at a key -/
theorem tab_pairs {P : Program} {w : World} : ∀ {es : List DictEntry} {tab : List (Key × V)}, Paired (fun (e : DictEntry) (kv : Key × V) => keyIs kv.1 e.key = true ∧ e.hash = keyH w kv.1 ∧ RelV kv.2 e.val) es tab →
    ∃ vs : List (Key × Value), KV tab vs ∧ Pairs (mixKind P w) es vs ∧ vs.map (·.1) = tab.map (·.1) ∧ ∀ e ∈ es, ∃ k, keyIs k e.key = true ∧ e.hash = keyH w k
  | _, _, .nil => ⟨[], .nil, .nil, rfl, fun e h => absurd h (by simp)⟩
  | _, _, .cons (a := e) (b := kv) h t => by
    obtain ⟨vs, r, p, m, k⟩ := tab_pairs (P := P) t
    refine ⟨(kv.1, e.val) :: vs, .cons ⟨rfl, h.2.2⟩ r, .cons h.1 rfl p, by rw [List.map_cons, List.map_cons, m], fun x hx => ?_⟩
    rcases List.mem_cons.mp hx with rfl | hx
    · exact ⟨kv.1, h.1, h.2.1⟩
    · exact k x hx
section
variable {X : Cx} {pins : List (Addr × Obj)} {σ : L2.St} {H : Hp} {s : Shared} {a : Addr}
theorem kt_dict {tab : List (Key × V)} (I : Inv X pins σ H s) (t : KTab X.K X.w a tab) : (a == sysModules) = false ∧ ∃ vs, KV tab vs ∧ s.heap.DictOf (mixKind X.prog X.w) a vs := by
  obtain ⟨⟨es, n, hl, hp⟩, lo, nd⟩ := t
  obtain ⟨vs, r, p, m, k⟩ := tab_pairs (P := X.prog) hp
  exact ⟨lo, vs, r, _, es, n, I.kIn _ _ hl, ⟨rfl, rfl, rfl⟩, rfl, fun e he => k e (Array.mem_toList_iff.mpr he), p, by rw [m]; exact nd⟩
/-- a is a dict with these entries, tracked or of the top -/
def DK (K : PySem.W.Frag) (w : World) (H : Hp) (a : Addr) (kvs : List (Key × V)) : Prop := Rd H a (.dK kvs) ∨ KTab K w a kvs
theorem DK.at_ {kvs : List (Key × V)} (I : Inv X pins σ H s) (d : DK X.K X.w H a kvs) : (a == sysModules) = false ∧ ∃ vs, KV kvs vs ∧ s.heap.DictOf (mixKind X.prog X.w) a vs := by
  rcases d with d | d
  · exact (dk_rd I.hok d).2
  · exact kt_dict I d
end
section
variable {X : Cx} {Γ : Gm} {Z : WXk}
def rInDk (K : PySem.W.Frag) (w : World) (neg : Bool) : R2 := fun x y H Q => ∃ a kvs k, y = .ref a ∧ x = kV k ∧ DK K w H a kvs ∧ Q (.bl (if neg then !(valV kvs k).isSome else (valV kvs k).isSome)) H
theorem op_inDk : OpR X (compareOp .In) (rInDk X.K X.w false) := by
  intro pins s σ H x y v u Q I rx ry h
  obtain ⟨a, kvs, k, rfl, rfl, d, q⟩ := h
  cases ry
  obtain ⟨lo, vs, rel, dd⟩ := d.at_ I
  refine wpAny_in_of (kV_is rx) lo dd.mapOf ?_
  rw [← (rel.val k).isSome_eq]
  exact ⟨.bl _, H, I.tok _, rfl, q⟩
theorem op_notInDk : OpR X (compareOp .NotIn) (rInDk X.K X.w true) := by
  intro pins s σ H x y v u Q I rx ry h
  obtain ⟨a, kvs, k, rfl, rfl, d, q⟩ := h
  cases ry
  obtain ⟨lo, vs, rel, dd⟩ := d.at_ I
  refine wpAny_notIn_of (kV_is rx) lo dd.mapOf ?_
  rw [← (rel.val k).isSome_eq]
  exact ⟨.bl _, H, I.tok _, rfl, q⟩
def rIxDk (K : PySem.W.Frag) (w : World) : R2 := fun x y H Q => ∃ a kvs k v, x = .ref a ∧ y = kV k ∧ DK K w H a kvs ∧ valV kvs k = some v ∧ Q v H
theorem ix_Dk : IxR X (rIxDk X.K X.w) := by
  intro value slice pins s σ H x y v u Q I rx ry h hs
  obtain ⟨a, kvs, k, z, rfl, rfl, d, e, q⟩ := h
  obtain rfl : v = Value.ref a := rx
  obtain ⟨lo, vs, rel, dd⟩ := d.at_ I
  obtain ⟨w', hw, rw'⟩ := RelO.some_of (v := z) (o := valueAt vs k) (by rw [← e]; exact rel.val k)
  exact tail_any dd.mapOf.typeIs slot_dict_getitem.lookup (wpAny_getItem_of (kV_is ry) dd.mapOf hw ⟨z, H, I.tok _, rw', q⟩) hs
def rGet (K : PySem.W.Frag) (w : World) : V → List V → Hp → VK → Prop := fun x xs H Q => ∃ a kvs k, x = .ref a ∧ xs = [kV k] ∧ DK K w H a kvs ∧ Q ((valV kvs k).getD .non) H
theorem mt_getDk : MtR X "dict.get" (rGet X.K X.w) := by
  intro pins s σ H x xs v us Q I rx rxs h
  obtain ⟨a, kvs, k, rfl, rfl, d, q⟩ := h
  obtain rfl : v = Value.ref a := rx
  obtain ⟨u, rfl, ru⟩ := rxs.one
  obtain ⟨lo, vs, rel, dd⟩ := d.at_ I
  exact call_meetsIn PySem.F.slot_dict_get dd.typeIs PySem.F.entry_dict_get (PySem.F.args_dict_get_2 _ _) (meets_dict_get (mixKind X.prog X.w) a (kV_is ru) lo) ⟨_, dd.mapOf, ⟨_, H, I.tok _, (rel.val k).getD (show RelV .non Value.none from rfl), q⟩⟩
/-! .. by values -/
def keyW : W → Option Key
  | .int i => some (.inl i)
  | .str x => some (.inr x)
  | _ => none
theorem keyW_ok {c : Cf} {v : V} {w : W} {k : Key} (r : c.Rp Γ v w) (h : keyW w = some k) : v = kV k := by
  unfold keyW at h
  cases r <;> first | (cases h; rfl) | cases h
def getW : List Key → List W → Key → Option W
  | k :: ks, w :: ws, j => if k = j then some w else getW ks ws j
  | _, _, _ => none
theorem getW_ok {c : Cf} {j : Key} : ∀ {ks : List Key} {xs : List V} {ws : List W}, ks.length = xs.length → c.RpAll Γ xs ws → (∃ v w, valV (ks.zip xs) j = some v ∧ getW ks ws j = some w ∧ c.Rp Γ v w) ∨ (valV (ks.zip xs) j = none ∧ getW ks ws j = none)
  | [], [], _, _, r => by cases r; exact .inr ⟨rfl, rfl⟩
  | [], _ :: _, _, l, _ => by simp at l
  | _ :: _, [], _, l, _ => by simp at l
  | k :: ks, x :: xs, _, l, r => by
    cases r with
    | @cons _ w _ ws h t =>
      by_cases e : k = j
      · subst e
        exact .inl ⟨x, w, valV_pos rfl, by rw [getW, if_pos rfl], h⟩
      · rw [List.zip_cons_cons, valV_neg e, getW, if_neg e]
        exact getW_ok (by simpa using l) t
/-- a dict, by its keys and values -/
def dlook (G : GH) : W → Option (List Key × List W)
  | .dic ks ws => some (ks, ws)
  | .ref n => match G.at_ n with
    | some (.dic ks ws) => some (ks, ws)
    | _ => none
  | _ => none
theorem dlook_ok {c : Cf} (s : SR Γ c) {v : V} {w : W} {ks : List Key} {ws : List W} (r : c.Rp Γ v w) (h : dlook c.G w = some (ks, ws)) : ∃ a xs, v = .ref a ∧ ks.length = xs.length ∧ c.RpAll Γ xs ws ∧ DK Γ.K Γ.w c.H a (ks.zip xs) := by
  unfold dlook at h
  cases r with
  | dic h1 l n r => cases h; exact ⟨_, _, rfl, l, r, .inl h1⟩
  | dicK h1 l r => cases h; exact ⟨_, _, rfl, l, r, .inr h1⟩
  | @ref n a h1 =>
    simp only at h
    cases e : c.G.at_ n with
    | none => simp [e] at h
    | some o =>
      obtain ⟨b, ho, e1, e2, r⟩ := s.obj n o e
      rw [h1] at e1; cases e1
      cases r with
      | lst r => simp [e] at h
      | dic l r => simp only [e, Option.some.injEq, Prod.mk.injEq] at h; obtain ⟨rfl, rfl⟩ := h; exact ⟨_, _, rfl, l, r, .inl (.inl e2)⟩
      | ins _ _ => simp [e] at h
  | _ => cases h
/-- k in d, or x in a list that is data -/
def fInX (neg : Bool) : F2 := fun a b G => match dlook G b with
  | some (ks, ws) => match keyW a with
    | some k => .ok (.bl (if neg then !(getW ks ws k).isSome else (getW ks ws k).isSome)) G
    | none => .no
  | none => fIn neg a b G
def rInX (K : PySem.W.Frag) (w : World) (neg : Bool) : R2 := fun x y H Q => rInF K neg x y H Q ∨ rInDk K w neg x y H Q
theorem inX_ok {neg : Bool} (hK : Γ.K = X.K) (hw : Γ.w = X.w) (c : Cf) (x y : V) (a b : W) (Q : VK) (E : XK) (s : SR Γ c) (ra : c.Rp Γ x a) (rb : c.Rp Γ y b) (h : Th Γ E (Cf.Rp Γ) c Q (fInX neg a b c.G)) : rInX X.K X.w neg x y c.H Q := by
  unfold fInX at h
  cases e : dlook c.G b with
  | none => rw [e] at h; exact .inl (in_ok hK c x y a b Q E s ra rb h)
  | some p =>
    obtain ⟨ks, ws⟩ := p
    rw [e] at h
    simp only at h
    cases ek : keyW a with
    | none => rw [ek] at h; exact h.elim
    | some k =>
      rw [ek] at h
      simp only at h
      obtain ⟨p, xs, rfl, l, r, d⟩ := dlook_ok s rb e
      refine .inr ⟨p, _, k, rfl, keyW_ok ra ek, hK ▸ hw ▸ d, ?_⟩
      rcases getW_ok (j := k) l r with ⟨v, w, e1, e2, _⟩ | ⟨e1, e2⟩
      · rw [e1]; rw [e2] at h; exact h.pure s (.bl _)
      · rw [e1]; rw [e2] at h; exact h.pure s (.bl _)
theorem of_inX (hu : X.A.units + 64 < cLine) (hK : Γ.K = X.K := by rfl) (hw : Γ.w = X.w := by rfl) : OpF X Γ (compareOp .In) (fInX false) := ⟨_, (op_inF hu).or op_inDk, inX_ok hK hw⟩
theorem of_notInX (hu : X.A.units + 64 < cLine) (hK : Γ.K = X.K := by rfl) (hw : Γ.w = X.w := by rfl) : OpF X Γ (compareOp .NotIn) (fInX true) := ⟨_, (op_notInF hu).or op_notInDk, inX_ok hK hw⟩
/-- d[k], or l[i] -/
def fIxX : F2 := fun a b G => match dlook G a with
  | some (ks, ws) => match keyW b with
    | some k => match getW ks ws k with
      | some w => .ok w G
      | none => .no
    | none => .no
  | none => fIx a b G
def rIxX (K : PySem.W.Frag) (w : World) : R2 := fun x y H Q => rIx K x y H Q ∨ rIxDk K w x y H Q
theorem ix_X : IxR X (rIxX X.K X.w) := fun value slice pins s σ H x y v u Q I rx ry h hs => h.elim (fun h => ix_seq value slice pins s σ H x y v u Q I rx ry h hs) fun h => ix_Dk value slice pins s σ H x y v u Q I rx ry h hs
theorem fe_ixX {a b : Expr} {ga gb : FE} {pos : Pos} (ha : PE X a (absE Γ Z ga)) (hb : PE X b (absE Γ Z gb)) (hs : PlainIx b := by exact fun _ _ => rfl) (hK : Γ.K = X.K := by rfl) (hw : Γ.w = X.w := by rfl) : PE X (.Subscript a b pos) (absE Γ Z (gOp fIxX ga gb)) :=
  PE.imp (pe_ix ix_X ha hb hs) fun σ H Q q => op_ok (fun c x y a b Q E s ra rb h => by
    unfold fIxX at h
    cases e : dlook c.G a with
    | none => rw [e] at h; exact .inl (hK ▸ ix_ok c x y a b Q E s ra rb h)
    | some p =>
      obtain ⟨ks, ws⟩ := p
      rw [e] at h
      simp only at h
      cases ek : keyW b with
      | none => rw [ek] at h; exact h.elim
      | some k =>
        rw [ek] at h
        obtain ⟨p, xs, rfl, l, r, d⟩ := dlook_ok s ra e
        rcases getW_ok (j := k) l r with ⟨v, w, e1, e2, rv⟩ | ⟨e1, e2⟩
        · simp only [e2] at h
          exact .inr ⟨p, _, k, v, rfl, keyW_ok rb ek, hK ▸ hw ▸ d, e1, h.pure s rv⟩
        · simp only [e2] at h; exact h.elim) q
/-- d.get(k) -/
def mGet : W → List W → GH → R W := fun o ws G => match dlook G o, ws with
  | some (ks, vs), [k] => match keyW k with
    | some k => .ok ((getW ks vs k).getD .non) G
    | none => .no
  | _, _ => .no
theorem get_ok (hK : Γ.K = X.K) (hw : Γ.w = X.w) (c : Cf) (o : V) (vs : List V) (wo : W) (ws : List W) (Q : VK) (E : XK) (s : SR Γ c) (ro : c.Rp Γ o wo) (rv : c.RpAll Γ vs ws) (h : Th Γ E (Cf.Rp Γ) c Q (mGet wo ws c.G)) : rGet X.K X.w o vs c.H Q := by
  unfold mGet at h
  split at h
  · rename_i ks us kw e
    obtain ⟨v, rfl, r1⟩ := RpAll.one (c := c) rv
    cases ek : keyW kw with
    | none => rw [ek] at h; exact h.elim
    | some k =>
      rw [ek] at h
      simp only at h
      obtain ⟨p, xs, rfl, l, r, d⟩ := dlook_ok s ro e
      refine ⟨p, _, k, rfl, by rw [keyW_ok r1 ek], hK ▸ hw ▸ d, ?_⟩
      rcases getW_ok (j := k) l r with ⟨v, w, e1, e2, rv⟩ | ⟨e1, e2⟩
      · rw [e1]; rw [e2] at h; exact h.pure s rv
      · rw [e1]; rw [e2] at h; exact h.pure s .non
  · exact h.elim
/-- o.get(e), whatever dict o is -/
def tGetDk (K : PySem.W.Frag) (w : World) (td ty : TE) : TE := fun σ H Q => td σ H fun x H1 => ∃ a kvs, x = .ref a ∧ DK K w H1 a kvs ∧ ty σ H1 fun y H2 => rGet K w x [y] H2 Q
theorem pe_getDk {o e : Expr} {td ty : TE} {apos cpos : Pos} (ho : PE X o td) (he : PE X e ty) (m : M1 X o "get" apos e cpos) : PE X (.Call (.Attribute o "get" apos) [e] [] cpos) (tGetDk X.K X.w td ty) := by
  refine ⟨fun pins s σ H Q I h => ?_⟩
  refine wpAny_Call_method m.base m.few m.line PySem.F.plainAttrs_dict PySem.F.slot_dict_get PySem.F.type_dict_get (thn (ho.run pins s σ H _ I h) fun u s1 ⟨x, H1, I1, rx, a, kvs, ex, d, q1⟩ => ?_)
  subst ex
  obtain rfl : u = Value.ref a := rx
  obtain ⟨lo, vs, rel, dd⟩ := d.at_ I1
  refine ⟨dd.typeIs, fun b q => ?_, ?_⟩
  · cases q
    obtain ⟨ob, _, _, h1, h2, _⟩ := dd
    exact ⟨ob, h1, h2.2.1⟩
  · rw [m.trees]
    refine Calls.callWith_builtin rfl (Calls.evalArgs_plain (Calls.spliced_cons (thn (he.run pins s1 σ H1 _ I1 q1) fun iv s2 ⟨y, H2, I2, ry, q2⟩ => Calls.spliced_nil ?_)))
    exact mt_getDk pins s2 σ H2 (.ref a) [y] (.ref a) [iv] Q I2 rfl (.cons ry .nil) q2
def gGet (go ge : FE) : FE := fun ρ G => (go ρ G).bind fun o G1 => if (dlook G1 o).isSome then (ge ρ G1).bind fun w G2 => mGet o [w] G2 else .no
theorem fe_get {o e : Expr} {go ge : FE} {apos cpos : Pos} (ho : PE X o (absE Γ Z go)) (he : PE X e (absE Γ Z ge)) (hK : Γ.K = X.K := by rfl) (hw : Γ.w = X.w := by rfl)
    (hbase : attributeBase o "get" X.env (eval o X.env) = eval o X.env := by rfl)
    (hfew : ((backTo cpos (starEach [e] X.env)).all (fun x => !x.1) && (backToKw cpos (keywordEach [] X.env)).all (fun x => x.1.isSome)
      && decide (([e] : List Expr).length + ([] : List Keyword).length + (if ([] : List Keyword).isEmpty then 0 else 1) < 30)) = true := by rfl)
    (hline : (apos.endLine == cpos.line) = true := by rfl) (htr : backTo cpos (starEach [e] X.env) = [(false, eval e X.env)] := by rfl) :
    PE X (.Call (.Attribute o "get" apos) [e] [] cpos) (absE Γ Z (gGet go ge)) :=
  PE.imp (pe_getDk ho he ⟨hbase, hfew, hline, htr⟩) fun σ H Q q => by
    obtain ⟨c, ρ, e, s, en, th⟩ := absG.bind q
    refine ⟨c, ρ, e, s, en, Th.mono th fun v c1 st ⟨c2, ρ2, wo, e2, s2, en2, ra, q⟩ => ?_⟩
    cases k : dlook c2.G wo with
    | none => rw [k] at q; exact q.elim
    | some p =>
      obtain ⟨ks, ws⟩ := p
      obtain ⟨a, xs, rfl, l, r, d⟩ := dlook_ok s2 ra k
      rw [k] at q
      simp only [Option.isSome_some, if_true] at q
      refine ⟨a, _, rfl, by rw [← e2, ← hK, ← hw]; exact d, c2, ρ2, e2, s2, en2, Th.mono (Th.bind q) fun y c3 st3 ⟨c4, b, e4, st4, s4, rb, q4⟩ => ?_⟩
      rw [← e4]
      exact get_ok hK hw c4 (.ref a) [y] wo [b] Q _ s4 (st4.rp s2 ra) (.cons rb .nil) q4
/-! ### names of the top -/
def vW : V → W
  | .non => .non
  | .bl b => .bl b
  | .int i => .int i
  | .str x => .str x
  | v => .op v
theorem vW_rp (c : Cf) : ∀ v : V, c.Rp Γ v (vW v)
  | .non => .non
  | .bl b => .bl b
  | .int i => .int i
  | .str x => .str x
  | .byt b => .op _
  | .flt b => .op _
  | .ref a => .op _
  | .ty n => .op _
theorem vWs_rp (c : Cf) : ∀ vs : List V, c.RpAll Γ vs (vs.map vW)
  | [] => .nil
  | v :: vs => .cons (vW_rp c v) (vWs_rp c vs)
/-- a number, a text of the top -/
theorem fe_gl {x : Str} {v : V} {u : Value} {pos : Pos} (hg : Gl X x) (hm : X.mg x = some u) (r : RelV v u) (hd : (x == ("__debug__" : Str)) = false := by decide) : PE X (.Name x pos) (absE Γ Z (gC (vW v))) := fe_c (pe_glob hg hm r hd) fun c => vW_rp c v
/-- a tuple of such -/
def KTup (K : PySem.W.Frag) (a : Addr) (vs : List V) : Prop := ∃ (o : Obj) (its : Array Value) (n : Nat), K.lookup a = some o ∧ o.cls = .type "tuple" ∧ o.data = .seq its n ∧ its.size ≤ sizeLine ∧ Vals vs its.toList
theorem fe_glT {x : Str} {vs : List V} {a : Addr} {pos : Pos} (hg : Gl X x) (hm : X.mg x = some (.ref a)) (h : KTup Γ.K a vs) (hd : (x == ("__debug__" : Str)) = false := by decide) : PE X (.Name x pos) (absE Γ Z (gC (.tup (vs.map vW)))) :=
  fe_c (pe_glob (v := .ref a) hg hm rfl hd) fun c => .tup (.inr h) (vWs_rp c vs)
/-- a dict of such -/
theorem fe_glD {x : Str} {tab : List (Key × V)} {a : Addr} {pos : Pos} (hg : Gl X x) (hm : X.mg x = some (.ref a)) (h : KTab Γ.K Γ.w a tab) (hd : (x == ("__debug__" : Str)) = false := by decide) : PE X (.Name x pos) (absE Γ Z (gC (.dic (tab.map (·.1)) (tab.map fun kv => vW kv.2)))) :=
  fe_c (pe_glob (v := .ref a) hg hm rfl hd) fun c => by
    have e : (tab.map (·.1)).zip (tab.map (·.2)) = tab := by
      rw [List.zip_map', show (fun kv : Key × V => (kv.1, kv.2)) = id from rfl, List.map_id]
    have r := vWs_rp (Γ := Γ) c (tab.map (·.2))
    rw [List.map_map] at r
    exact .dicK (xs := tab.map (·.2)) (by rw [e]; exact h) (by simp) r
end
end Fn

set_option Elab.async false
set_option linter.all false
set_option maxRecDepth 100000
namespace Fn
open PySem PySem.Spec PyProof.Rows L2
section
variable {X : Cx} {Γ : Gm} {Z : WXk}
theorem len_le' {n : Nat} (h : n ≤ 1000) : n ≤ sizeLine := by rw [sizeLine_eq]; omega
/-! ### a < b < c -/
def gChain (f f' : F2) (ga gb gc : FE) : FE := fun ρ G => (ga ρ G).bind fun x G1 => (gb ρ G1).bind fun y G2 => (f x y G2).bind fun k G3 => match k with
  | .bl true => (gc ρ G3).bind fun z G4 => f' y z G4
  | .bl false => .ok (.bl false) G3
  | _ => .no
theorem chain_okF {r r' : R2} {f f' : F2} {ga gb gc : FE} {σ : L2.St} {H : Hp} {Q : VK} (hr : ∀ (c : Cf) (x y : V) (a b : W) (Q : VK) (E : XK), SR Γ c → c.Rp Γ x a → c.Rp Γ y b → Th Γ E (Cf.Rp Γ) c Q (f a b c.G) → r x y c.H Q)
    (hr' : ∀ (c : Cf) (x y : V) (a b : W) (Q : VK) (E : XK), SR Γ c → c.Rp Γ x a → c.Rp Γ y b → Th Γ E (Cf.Rp Γ) c Q (f' a b c.G) → r' x y c.H Q)
    (h : absE Γ Z (gChain f f' ga gb gc) σ H Q) : tChain r r' (absE Γ Z ga) (absE Γ Z gb) (absE Γ Z gc) σ H Q := by
  obtain ⟨c, ρ, e, s, en, th⟩ := absG.bind h
  refine ⟨c, ρ, e, s, en, Th.mono th fun v c1 st ⟨c2, ρ2, a, e2, s2, en2, ra, q⟩ => ?_⟩
  refine ⟨c2, ρ2, e2, s2, en2, Th.mono (Th.bind q) fun u c3 st3 ⟨c4, b, e4, st4, s4, rb, q4⟩ => ?_⟩
  rw [← e4]
  refine hr c4 v u a b _ _ s4 (st4.rp s2 ra) rb (Th.mono (Th.bind q4) fun z c5 st5 ⟨c6, k, e6, st6, s6, rk, q6⟩ => ?_)
  have en6 := st6.en s4 (st4.en s2 en2)
  cases rk with
  | bl k =>
    cases k with
    | false => exact ⟨false, rfl, by rw [if_neg Bool.false_ne_true, ← e6]; exact q6.pure s6 (.bl false)⟩
    | true =>
      refine ⟨true, rfl, ?_⟩
      rw [if_pos rfl]
      refine ⟨c6, ρ2, e6, s6, en6, Th.mono (Th.bind q6) fun w c7 st7 ⟨c8, d, e8, st8, s8, rd, q8⟩ => ?_⟩
      rw [← e8]
      exact hr' c8 u w b d Q _ s8 (st8.rp s6 (st6.rp s4 rb)) rd q8
  | _ => exact q6.elim
theorem fe_chain {op op' : CmpOp} {f f' : F2} {a b d : Expr} {ga gb gc : FE} {pos : Pos} (ho : OpF X Γ (compareOp op) f) (ho' : OpF X Γ (compareOp op') f') (ha : PE X a (absE Γ Z ga)) (hb : PE X b (absE Γ Z gb)) (hc : PE X d (absE Γ Z gc))
    (hm : lastMarks [op, op'] [b, d] = false := by with_unfolding_all rfl) : PE X (.Compare a [op, op'] [b, d] pos) (absE Γ Z (gChain f f' ga gb gc)) := by
  obtain ⟨r, hr, h⟩ := ho
  obtain ⟨r', hr', h'⟩ := ho'
  exact PE.imp (pe_chain hr hr' ha hb hc hm) fun σ H Q q => chain_okF h h' q
theorem ft_chain {op op' : CmpOp} {f f' : F2} {a b d : Expr} {ga gb gc : FE} {pos : Pos} (ho : OpF X Γ (compareOp op) f) (ho' : OpF X Γ (compareOp op') f') (ha : PE X a (absE Γ Z ga)) (hb : PE X b (absE Γ Z gb)) (hc : PE X d (absE Γ Z gc))
    (hm : lastMarks [op, op'] [b, d] = false := by with_unfolding_all rfl) : PT X (.Compare a [op, op'] [b, d] pos) (absT Γ Z (gTest (gChain f f' ga gb gc))) := by
  obtain ⟨r, hr, h⟩ := ho
  obtain ⟨r', hr', h'⟩ := ho'
  exact PT.imp (pt_chain hr hr' ha hb hc hm) fun σ H Q q => chain_okF h h' (test_ok q)
/-! ### text times number, list times number -/
def strMul (z : Str) (n : Int) : Str := if n < 1 then Str.empty else if (n == 1 || z.length == 0) = true then z else ⟨(List.replicate n.toNat z.cps).foldl (· ++ ·) #[]⟩
def rMulS : R2 := fun x y H Q => ∃ (z : Str) (n : Int), x = .str z ∧ y = .int n ∧ 0 ≤ n ∧ n < 2 ^ 31 ∧ z.length * n.toNat ≤ sizeLine ∧ (strMul z n).length ≤ sizeLine ∧ Q (.str (strMul z n)) H
theorem op_mulS : OpR X (binaryOp .Mult) rMulS := by
  intro pins s σ H x y v u Q I rx ry h
  obtain ⟨z, n, rfl, rfl, h0, h1, hz, hl, q⟩ := h
  obtain ⟨t, rfl⟩ := rx
  obtain ⟨t2, rfl⟩ := ry
  refine PySem.P.mul_str (by rw [decide_eq_false (by omega), decide_eq_false (by omega)]; rfl) (fun n1 _ => ?_) (fun _ _ => ?_) ?_
  · have hs := sizeLine_eq
    have : (z.length : Int) * n ≤ 16777216 := by
      have : ((z.length * n.toNat : Nat) : Int) ≤ (sizeLine : Int) := by exact_mod_cast hz
      rw [hs, Int.natCast_mul, Int.toNat_of_nonneg h0] at this
      exact this
    intro g
    have g2 : (z.length : Int) ≥ (2 ^ 63 - 1) / n + 1 := by omega
    have g3 : (2 ^ 63 - 1) / n * n + n ≤ 16777216 := by
      have := Int.mul_le_mul_of_nonneg_right g2 (show 0 ≤ n by omega)
      rw [Int.add_mul, Int.one_mul] at this
      omega
    have g4 := Int.emod_add_mul_ediv (2 ^ 63 - 1) n
    have g5 := Int.emod_lt_of_pos (2 ^ 63 - 1) (show 0 < n by omega)
    rw [Int.mul_comm] at g4
    omega
  · unfold Builtin.Str.tooLong
    exact decide_eq_false (by omega)
  · unfold strMul at q hl
    split
    · rw [if_pos (by assumption)] at q hl
      exact ⟨hl, .str _, H, I.tok _, ⟨_, rfl⟩, q⟩
    · rw [if_neg (by assumption)] at q hl
      split
      · rw [if_pos (by assumption)] at q hl
        exact ⟨.str _, H, I, ⟨_, rfl⟩, q⟩
      · rw [if_neg (by assumption)] at q hl
        exact ⟨hl, .str _, H, I.tok _, ⟨_, rfl⟩, q⟩
/-- numbers, a text and a number, an owned list and a number -/
def fMulX : F2 := fun a b G => match a, b with
  | .str z, .int n => if 0 ≤ n ∧ n < 2 ^ 31 ∧ z.length * n.toNat ≤ sizeLine ∧ (strMul z n).length ≤ sizeLine then .ok (.str (strMul z n)) G else .no
  | .ref m, .int n => match G.at_ m with
    | some (.lst ws) => if 0 ≤ n ∧ n < 2 ^ 31 ∧ ws.length * n.toNat ≤ sizeLine then .ok (.lst (List.replicate n.toNat ws).flatten) G else .no
    | _ => .no
  | a, b => fMul a b G
def rMulX (r : R2) : R2 := fun x y H Q => r x y H Q ∨ (rMulS x y H Q ∨ rRep x y H Q)
theorem RpAll.repl {c : Cf} {vs : List V} {ws : List W} (r : c.RpAll Γ vs ws) : ∀ n : Nat, c.RpAll Γ (List.replicate n vs).flatten (List.replicate n ws).flatten
  | 0 => .nil
  | n + 1 => by rw [List.replicate_succ, List.replicate_succ, List.flatten_cons, List.flatten_cons]; exact r.append (RpAll.repl r n)
theorem of_mulX : OpF X Γ (binaryOp .Mult) fMulX := by
  obtain ⟨r, hr, h0⟩ := (of_mul : OpF X Γ (binaryOp .Mult) fMul)
  refine ⟨rMulX r, hr.or (op_mulS.or op_rep), fun c x y a b Q E s ra rb h => ?_⟩
  unfold fMulX at h
  split at h
  · rename_i z n
    cases Rp.str_of (c := c) ra
    cases Rp.int_of (c := c) rb
    by_cases k : 0 ≤ n ∧ n < 2 ^ 31 ∧ z.length * n.toNat ≤ sizeLine ∧ (strMul z n).length ≤ sizeLine
    · rw [if_pos k] at h
      exact .inr (.inl ⟨z, n, rfl, rfl, k.1, k.2.1, k.2.2.1, k.2.2.2, h.pure s (.str _)⟩)
    · rw [if_neg k] at h; exact h.elim
  · rename_i m n
    cases Rp.int_of (c := c) rb
    split at h
    · rename_i ws e
      cases ra with
      | ref h1 =>
        obtain ⟨b, ho, e1, e2, r⟩ := s.obj m _ e
        rw [h1] at e1; cases e1
        cases r with
        | @lst xs ws r =>
          by_cases k : 0 ≤ n ∧ n < 2 ^ 31 ∧ ws.length * n.toNat ≤ sizeLine
          · rw [if_pos k] at h
            exact .inr (.inr ⟨_, n, xs, rfl, rfl, e2, by omega, by omega, by rw [r.length]; exact k.2.2, fun p hp => mkL_ok (own := false) s (RpAll.repl r n.toNat) h hp⟩)
          · rw [if_neg k] at h; exact h.elim
    · exact h.elim
  · exact .inl (h0 c x y a b Q E s ra rb h)
/-! ### l.extend(x) -/
def rExt (K : PySem.W.Frag) : V → List V → Hp → VK → Prop := fun x vs H Q => ∃ l b xs zs, x = .ref l ∧ vs = [.ref b] ∧ H l = some (.lst xs) ∧ (SqL K H b zs ∨ SqT K H b zs) ∧ xs.length + zs.length ≤ sizeLine ∧ Q .non (upd H l (.lst (xs ++ zs)))
theorem wpAny_extend_into {prog : Program} {w : World} {A : Around} {s : Shared} {R : Result → Shared → Prop} (S it : Addr) (res : Value) {T : String} {o oS : Obj} {mine items : Array Value} {n nS : Nat} (hT : T = "list" ∨ T = "tuple")
    (hS : s.heap.get? S = some oS) (hSd : oS.data = .seq mine nS) (ho : s.heap.get? it = some o) (hc : o.cls = .type T) (hd : o.data = .seq items n) (h1 : mine.size + items.size ≤ sizeLine)
    (hR : R (.ok (.ret res)) { s with heap := s.heap.update S (Obj.mapSeq (· ++ items)) }) :
    wpAny (model prog w) A.in1 (Builtin.List.listExtendWith (.ref S) (.ref it) res)
      (fun fin s' => match fin with | .done f => R (.ok f) s' | .again c' => c'.quiet = true ∧ codeAny (model prog w) A c' R s') (fun e s' => R (.error e) s') s := by
  unfold Builtin.List.listExtendWith
  refine wpAny_bind (wpAny_typeOf ⟨o, ho, hc⟩ ?_)
  have h2 : (Builtin.List.listSameRef (.ref S) (.ref it) || Value.type T == Value.type "list" || Value.type T == Value.type "tuple") = true := by
    rcases hT with rfl | rfl <;> simp
  simp only [h2, if_true]
  refine wpAny_bind ?_
  unfold Builtin.List.listItems
  refine wpAny_bind (wpAny_seqItems ho hd (wpAny_pure ?_))
  refine wpAny_bind ?_
  refine wpAny_bind (wpAny_seqItems hS hSd (wpAny_pure ?_))
  rw [notLongL h1, Bool.and_false]
  show wpAny _ A.in1 (updateSeq S (· ++ items) >>= fun _ => ret res) _ _ s
  refine wpAny_bind (wpAny_updateSeq hS hSd ?_ (by omega) (by rw [Array.size_append]; omega))
  exact wpAny_pure hR
theorem mt_ext : MtR X "list.extend" (rExt X.K) := by
  intro pins s σ H x vs v us Q I rx rv h
  obtain ⟨l, b, xs, zs, rfl, rfl, hH, hB, hz, q⟩ := h
  cases rx
  obtain ⟨u, rfl, ru⟩ := rv.one
  cases ru
  obtain ⟨z, its, n, r, hl, e⟩ := I.lstM hH
  have fin : ∀ (its2 : List Value), Vals zs its2 → EP X pins σ Q Value.none { s with heap := s.heap.update l (Obj.mapSeq (· ++ its2.toArray)) } := fun its2 r2 => by
    refine ⟨.non, _, I.lset (its' := its ++ its2) (t' := s.toks) hH e (by simp) (r.append r2) ?_, rfl, q⟩
    rw [List.length_append]; omega
  have go : ∀ (T : String) (o : Obj) (its2 : List Value) (m : Nat), (T = "list" ∨ T = "tuple") → s.heap.get? b = some o → o.cls = .type T → o.data = .seq its2.toArray m → Vals zs its2 → wpAny (model X.prog X.w) X.A (call (.builtin "list.extend") [.ref l, .ref b]) (EP X pins σ Q) X.xe s := fun T o its2 m hT ho hc hd r2 => by
    have l2 := r2.length
    refine wpAny_call (codeAny_call_builtin F.slot_list_extend.plain F.entry_list_extend (F.slot_list_extend.check _ _ _ _ _ _ _ _ ⟨_, e, rfl⟩ (F.args_list_extend_2 _ _) ?_))
    have ee : Builtin.«list.extend» ⟨[.ref l, .ref b], []⟩ = Builtin.List.listExtendWith (.ref l) (.ref b) .none := by first | rfl | kernel_rfl
    rw [ee]
    exact wpAny_extend_into (R := wants (EP X pins σ Q) X.xe) l b Value.none hT e rfl ho hc hd (by rw [List.size_toArray, List.size_toArray]; omega) (fin its2 r2)
  rcases hB with hB | hB
  · obtain ⟨its2, r2, ⟨o, m, ho, hc, _, hd⟩, _⟩ := I.list hB
    exact go "list" o its2 m (.inl rfl) ho hc hd r2
  · obtain ⟨its2, r2, ⟨o, ho, hc, m, hd⟩, _⟩ := I.tuple hB
    exact go "tuple" o its2 m (.inr rfl) ho hc hd r2
def mExtend : W → List W → GH → R W := fun o ws G => match lw G o, ws with
  | some (n, xs), [w] => match sqs G w with
    | some ys => if xs.length + ys.length ≤ sizeLine then .ok .non (G.set n (.lst (xs ++ ys))) else .no
    | none => .no
  | _, _ => .no
theorem mf_extend (hK : Γ.K = X.K := by rfl) : MthF X Γ "list" "list.extend" mExtend := ⟨_, mt_ext, fun c o vs wo ws Q E s ro rv h => by
  unfold mExtend at h
  split at h
  · rename_i n xs w e
    obtain ⟨a, ys, rfl, hH, r, hn, hG⟩ := lw_ok s e ro
    obtain ⟨v, rfl, r1⟩ := RpAll.one (c := c) rv
    split at h
    · rename_i us eu
      obtain ⟨b, zs, rfl, hq, rr⟩ := sqs_ok s eu r1
      by_cases k : xs.length + us.length ≤ sizeLine
      · rw [if_pos k] at h
        obtain ⟨st, s'⟩ := upd_own (ho := .lst (ys ++ zs)) s hG hn (.lst (r.append rr))
        exact ⟨a, b, ys, zs, rfl, rfl, hH, hq.imp (fun z => hK ▸ z) (fun z => hK ▸ z), by rw [r.length, rr.length]; exact k, h _ _ st s' rfl .non⟩
      · rw [if_neg k] at h; exact h.elim
    · exact h.elim
  · exact h.elim⟩
/-! ### l.pop(i) -/
def mPopAt : W → List W → GH → R W := fun o ws G => match lw G o, ws with
  | some (n, xs), [.int i] => if xs.length ≤ sizeLine then match L2.ixN xs.length i with
      | some k => match xs[k]? with
        | some w => .ok w (G.set n (.lst (xs.eraseIdx k)))
        | none => .no
      | none => .no
    else .no
  | _, _ => .no
theorem RpAll.erase {c : Cf} : ∀ {vs : List V} {ws : List W} (k : Nat), c.RpAll Γ vs ws → c.RpAll Γ (vs.eraseIdx k) (ws.eraseIdx k)
  | _, _, _, .nil => .nil
  | _, _, 0, .cons _ t => t
  | _, _, k + 1, .cons h t => .cons h (RpAll.erase k t)
theorem mf_popAt : MthF X Γ "list" "list.pop" mPopAt := ⟨_, mt_popAt, fun c o vs wo ws Q E s ro rv h => by
  unfold mPopAt at h
  split at h
  · rename_i n xs i e
    obtain ⟨a, ys, rfl, hH, r, hn, hG⟩ := lw_ok s e ro
    obtain ⟨v, rfl, r1⟩ := RpAll.one (c := c) rv
    cases Rp.int_of (c := c) r1
    by_cases hz : xs.length ≤ sizeLine
    · rw [if_pos hz] at h
      cases ek : L2.ixN xs.length i with
      | none => rw [ek] at h; exact h.elim
      | some k =>
        rw [ek] at h
        simp only at h
        split at h
        · rename_i w ew
          obtain ⟨v, ev, rv⟩ := r.get ew
          obtain ⟨e1, _, l1, l2⟩ := L2.ixN_seq ek
          have hs := sizeLine_eq
          obtain ⟨st, s'⟩ := upd_own (ho := .lst (ys.eraseIdx k)) s hG hn (.lst (RpAll.erase (c := c) k r))
          exact ⟨a, ys, i, k, v, rfl, rfl, hH, by omega, by omega, by rw [r.length]; exact e1, ev, h _ _ st s' rfl (st.rp s rv)⟩
        · exact h.elim
    · rw [if_neg hz] at h; exact h.elim
  · exact h.elim⟩
/-! ### sum, min(a, b), max(a, b) -/
def cSum : FC := fun ws G => match ws with
  | [w] => match lsq G w with
    | some us => match intsOf us with
      | some ns => .ok (.int ns.sum) G
      | none => .no
    | none => .no
  | _ => .no
theorem cf_sum (hc : X.calm = true) (hK : Γ.K = X.K := by rfl) : CallF X Γ (.builtin "sum") cSum := ⟨_, cr_sum hc, fun c vs ws Q E s ra h => by
  unfold cSum at h
  split at h
  · obtain ⟨v, rfl, r⟩ := RpAll.one (c := c) ra
    split at h
    · rename_i us e
      split at h
      · rename_i ns eb
        obtain ⟨p, xs, rfl, hq, rr⟩ := lsq_ok s e r
        rw [intsOf_eq eb] at rr
        cases RpAll.ints (c := c) rr
        exact ⟨p, ns, rfl, hK ▸ hq, h.pure s (.int _)⟩
      · exact h.elim
    · exact h.elim
  · exact h.elim⟩
def cMin2 : FC := fun ws G => match ws with
  | [.int i, .int j] => .ok (.int (if j < i then j else i)) G
  | _ => .no
def cMax2 : FC := fun ws G => match ws with
  | [.int i, .int j] => .ok (.int (if j > i then j else i)) G
  | _ => .no
theorem cf_min2 (hc : X.calm = true) : CallF X Γ (.builtin "min") cMin2 := ⟨_, call_min2 hc, fun c vs ws Q E s ra h => by
  unfold cMin2 at h
  split at h
  · obtain ⟨v, x, rfl, r1, r2⟩ := RpAll.two (c := c) ra
    cases Rp.int_of (c := c) r1
    cases Rp.int_of (c := c) r2
    exact ⟨_, _, rfl, h.pure s (.int _)⟩
  · exact h.elim⟩
theorem cf_max2 (hc : X.calm = true) : CallF X Γ (.builtin "max") cMax2 := ⟨_, call_max2 hc, fun c vs ws Q E s ra h => by
  unfold cMax2 at h
  split at h
  · obtain ⟨v, x, rfl, r1, r2⟩ := RpAll.two (c := c) ra
    cases Rp.int_of (c := c) r1
    cases Rp.int_of (c := c) r2
    exact ⟨_, _, rfl, h.pure s (.int _)⟩
  · exact h.elim⟩
/-! ### .index -/
/-- values of which == is told by the value alone -/
def flatW : W → Bool
  | .non | .bl _ | .int _ | .str _ => true
  | _ => false
def indexW (a : W) : List W → Option Nat
  | [] => none
  | x :: xs => if eqW x a then some 0 else (indexW a xs).map (· + 1)
theorem flat_ok {c : Cf} {v : V} {w : W} (r : c.Rp Γ v w) (h : flatW w = true) : flatV v = true := by
  cases r <;> first | rfl | cases h
theorem eq_flat {c : Cf} {v u : V} {w z : W} (r : c.Rp Γ v w) (r2 : c.Rp Γ u z) (h : flatW w = true) (h2 : flatW z = true) : eqV v u = eqW w z := by
  cases r <;> first | (cases h; done) | (cases r2 <;> first | (cases h2; done) | rfl)
theorem index_ok {c : Cf} {a : W} {v : V} (ra : c.Rp Γ v a) (ha : flatW a = true) : ∀ {xs : List V} {ws : List W} {j : Nat}, c.RpAll Γ xs ws → ws.all flatW = true → indexW a ws = some j →
    xs.all flatV = true ∧ ∃ z, xs[j]? = some z ∧ eqV z v = true ∧ ∀ (m : Nat) (z' : V), m < j → xs[m]? = some z' → eqV z' v = false
  | _, _, _, .nil, _, h => by cases h
  | x :: xs, w :: ws, j, .cons h t, hf, hj => by
    rw [List.all_cons, Bool.and_eq_true] at hf
    have fx := flat_ok h hf.1
    have e := eq_flat h ra hf.1 ha
    have hall : ∀ {xs : List V} {ws : List W}, c.RpAll Γ xs ws → ws.all flatW = true → xs.all flatV = true := by
      intro xs ws r hh
      induction ws generalizing xs with
      | nil => cases r; rfl
      | cons w ws ih =>
        cases r with
        | cons h t =>
          rw [List.all_cons, Bool.and_eq_true] at hh ⊢
          exact ⟨flat_ok h hh.1, ih t hh.2⟩
    unfold indexW at hj
    by_cases q : eqW w a = true
    · rw [if_pos q] at hj
      cases hj
      refine ⟨by rw [List.all_cons, fx, hall t hf.2]; rfl, x, rfl, by rw [e]; exact q, fun m z' hm _ => absurd hm (Nat.not_lt_zero _)⟩
    · rw [if_neg q] at hj
      obtain ⟨i, ei, rfl⟩ := Option.map_eq_some_iff.mp hj
      obtain ⟨f1, z, ez, e2, nx⟩ := index_ok ra ha t hf.2 ei
      refine ⟨by rw [List.all_cons, fx, f1]; rfl, z, by simpa using ez, e2, fun m z' hm hz => ?_⟩
      cases m with
      | zero =>
        have : x = z' := by simpa using hz
        rw [← this, e]
        exact Bool.eq_false_iff.mpr q
      | succ m => exact nx m z' (by omega) (by simpa using hz)
def mIndex : W → List W → GH → R W := fun o ws G => match lsq G o, ws with
  | some xs, [a] => if flatW a && xs.all flatW then match indexW a xs with
      | some j => .ok (.int (j : Nat)) G
      | none => .no
    else .no
  | _, _ => .no
theorem mf_index (hK : Γ.K = X.K := by rfl) : MthF X Γ "list" "list.index" mIndex := ⟨_, mt_index, fun c o vs wo ws Q E s ro rv h => by
  unfold mIndex at h
  split at h
  · rename_i xs a e
    obtain ⟨p, ys, rfl, hq, r⟩ := lsq_ok s e ro
    obtain ⟨v, rfl, r1⟩ := RpAll.one (c := c) rv
    by_cases k : (flatW a && xs.all flatW) = true
    · rw [if_pos k] at h
      rw [Bool.and_eq_true] at k
      cases ej : indexW a xs with
      | none => rw [ej] at h; exact h.elim
      | some j =>
        rw [ej] at h
        obtain ⟨f1, z, ez, e2, nx⟩ := index_ok r1 k.1 r k.2 ej
        exact ⟨p, ys, v, j, z, rfl, rfl, hK ▸ hq, flat_ok r1 k.1, f1, ez, e2, nx, h.pure s (.int _)⟩
    · rw [if_neg k] at h; exact h.elim
  · exact h.elim⟩
/-! ### over the signs of a text -/
def charsW (x : Str) : List W := x.cps.toList.map fun ch => .str ⟨#[ch]⟩
theorem txtWalks {c : Cf} {x : Str} : Walks Γ c (Its x) (charsW x) where
  go := fun c' st s' i hi => by
    show i < x.cps.size
    simpa [charsW] using hi
  stop := fun c' st s' i hi => by
    show x.cps.size ≤ i
    simpa [charsW] using hi
  yld := fun c' st s' i v H' hi ⟨e, ch, ec, ev⟩ => by
    subst e ev
    exact ⟨.str ⟨#[ch]⟩, c', by rw [charsW, List.getElem?_map, Array.getElem?_toList, ec]; rfl, rfl, Stp.refl c', s', rfl, .str _⟩
def asTxt (w : W) (G : GH) : R Wk := match w with
  | .str x => .ok (.vals (charsW x)) G
  | _ => .no
def iTxt (g : FE) : FI := fun ρ G => (g ρ G).bind asTxt
theorem fi_txt {tg e : Expr} {g : FE} (h : PE X e (absE Γ Z g)) : PI X tg e (absI Γ Z (iTxt g)) := PI.imp (pi_str h) fun σ H R q => by
  obtain ⟨c, ρ, e, s, en, th⟩ := absG.bind q
  refine ⟨c, ρ, e, s, en, Th.mono th fun v c1 st ⟨c2, ρ2, a, e2, s2, en2, ra, q⟩ => ?_⟩
  rw [← e2]
  cases ra with
  | str x => exact ⟨x, rfl, q c2 _ (Stp.refl c2) s2 rfl txtWalks⟩
  | _ => exact q.elim
/-! ### enumerate(l) -/
def enumFrom' : Nat → List W → List W
  | _, [] => []
  | i, w :: ws => .tup [.int (i : Int), w] :: enumFrom' (i + 1) ws
theorem enum_length : ∀ (i : Nat) (ws : List W), (enumFrom' i ws).length = ws.length
  | _, [] => rfl
  | i, w :: ws => by rw [enumFrom', List.length_cons, List.length_cons, enum_length (i + 1) ws]
theorem enum_get : ∀ (k : Nat) (ws : List W) (i : Nat) (w : W), ws[i]? = some w → (enumFrom' k ws)[i]? = some (.tup [.int ((k + i : Nat) : Int), w])
  | _, [], _, _, h => by simp at h
  | k, w :: ws, 0, _, h => by
    have e : w = _ := Option.some.inj h
    subst e
    rfl
  | k, w :: ws, i + 1, u, h => by
    rw [enumFrom', List.getElem?_cons_succ, enum_get (k + 1) ws i u (by simpa using h)]
    congr 5
    omega
theorem enumWalks {c : Cf} {a : Addr} {xs : List V} {ws : List W} (k : ∀ c', StpW c c' → SR Γ c' → SqL Γ.K c'.H a xs) (r : c.RpAll Γ xs ws) (s : SR Γ c) : Walks Γ c (Ite Γ.K a) (enumFrom' 0 ws) where
  go := fun c' st s' i hi => ⟨xs, xs[i]'(by rw [r.length]; rwa [enum_length] at hi), k c' st s', List.getElem?_eq_getElem _⟩
  stop := fun c' st s' i hi => ⟨xs, k c' st s', by rw [r.length]; rwa [enum_length] at hi⟩
  yld := fun c' st s' i v H' hi ⟨T, x, ev, hT, eH, y⟩ => by
    subst ev eH
    obtain ⟨w, ew, rw1⟩ := r.getV (y xs (k c' st s'))
    obtain ⟨st1, s1, no⟩ := new_frz s' hT (.tup [.int (i : Nat), x])
    refine ⟨.tup [.int ((0 + i : Nat) : Int), w], _, enum_get 0 ws i w ew, rfl, st1, s1, rfl, .tup (.inl (.inl upd_same)) (.cons ?_ (.cons (st1.rp s' (st.rp s rw1)) .nil))⟩
    rw [Nat.zero_add]
    exact .int _
def asEnum (ws : List W) (G : GH) : R Wk := match ws with
  | [.lst ws] => .ok (.vals (enumFrom' 0 ws)) G
  | _ => .no
theorem fi_enum {e : Expr} {g : FA} {p pos tpos : Pos} {elts : List Expr} {kk : Nat} (hg : Gl X "enumerate") (hm : X.mg "enumerate" = none) (ha : PA X [e] (absA Γ Z g)) (hs : starEach [e] X.env = [(false, eval e X.env)] := by rfl) (hK : Γ.K = X.K := by rfl) :
    PI X (.Tuple elts kk tpos) (.Call (.Name "enumerate" p) [e] [] pos) (absI Γ Z (iRng asEnum g)) := PI.imp (pi_enum hg hm ha hs) fun σ H R q => by
  obtain ⟨c, ρ, e, s, en, th⟩ := absG.bind q
  refine ⟨c, ρ, e, s, en, Th.mono th fun v c1 st ⟨c2, ρ2, ws, e2, s2, en2, ra, q⟩ => ?_⟩
  rw [← e2]
  unfold asEnum at q
  split at q
  · obtain ⟨v, rfl, r1⟩ := RpAll.one (c := c2) ra
    cases r1 with
    | lst h n r => exact ⟨_, _, rfl, by rw [← hK]; exact .inl h, hK ▸ q c2 _ (Stp.refl c2) s2 rfl (enumWalks (fun c' st' s' => .inl (st'.rd n h)) r s2)⟩
    | lstK h1 h2 h3 h4 h5 h6 r => exact ⟨_, _, rfl, by rw [← hK]; exact .inr ⟨_, _, _, h1, h2, h3, h4, h5, h6⟩, hK ▸ q c2 _ (Stp.refl c2) s2 rfl (enumWalks (fun c' st' s' => .inr ⟨_, _, _, h1, h2, h3, h4, h5, h6⟩) r s2)⟩
  · exact q.elim
/-! ### T.index(x), T a tuple of texts of the top -/
def rTI (K : PySem.W.Frag) : V → List V → Hp → VK → Prop := fun x xs H Q => ∃ p, ∃ ys : List Str, ∃ z j, x = .ref p ∧ xs = [.str z] ∧ SqT K H p (ys.map V.str) ∧ ys[j]? = some z ∧ (∀ m, m < j → ys[m]? ≠ some z) ∧ Q (.int (j : Nat)) H
def tTupIx (K : PySem.W.Frag) (a : Addr) (ty : TE) : TE := fun σ H Q => ty σ H fun y H1 => rTI K (.ref a) [y] H1 Q
def KTupX (K : PySem.W.Frag) (a : Addr) (vs : List V) : Prop := ∃ (o : Obj) (its : Array Value) (n : Nat), K.lookup a = some o ∧ o.cls = .type "tuple" ∧ o.dict = none ∧ o.data = .seq its n ∧ its.size ≤ sizeLine ∧ Vals vs its.toList
theorem KTupX.tup {K : PySem.W.Frag} {a : Addr} {vs : List V} (h : KTupX K a vs) : KTup K a vs := by
  obtain ⟨o, its, n, h1, h2, _, h4, h5, h6⟩ := h
  exact ⟨o, its, n, h1, h2, h4, h5, h6⟩
theorem pe_tupIx {x : Str} {a : Addr} {ys : List Str} {e : Expr} {ty : TE} {px apos cpos : Pos} (hg : Gl X x) (hm : X.mg x = some (.ref a)) (h : KTupX X.K a (ys.map V.str)) (he : PE X e ty) (hd : (x == ("__debug__" : Str)) = false := by decide)
    (hbase : attributeBase (.Name x px) "index" X.env (eval (.Name x px) X.env) = eval (.Name x px) X.env := by rfl)
    (hfew : ((backTo cpos (starEach [e] X.env)).all (fun x => !x.1) && (backToKw cpos (keywordEach [] X.env)).all (fun x => x.1.isSome)
      && decide (([e] : List Expr).length + ([] : List Keyword).length + (if ([] : List Keyword).isEmpty then 0 else 1) < 30)) = true := by rfl)
    (hline : (apos.endLine == cpos.line) = true := by rfl) (hs : starEach [e] X.env = (false, eval e X.env) :: starEach [] X.env := by rfl) (hplain : (backTo cpos (starEach [] X.env)).any (·.1) = false := by rfl) :
    PE X (.Call (.Attribute (.Name x px) "index" apos) [e] [] cpos) (tTupIx X.K a ty) := by
  refine PE.imp (pe_bm PySem.F.plainAttrs_tuple PySem.F.slot_tuple_index PySem.F.type_tuple_index mt_tup_index (pe_glob (v := .ref a) hg hm rfl hd) (pa_cons he pa_nil hs) hbase hfew hline hs hplain) fun σ H Q q => ?_
  obtain ⟨o, its, n, h1, h2, h3, h4, h5, h6⟩ := h
  exact ⟨.inr (.inl ⟨rfl, o, h1, h2, h3⟩), q⟩
def indexS (z : Str) : List Str → Option Nat
  | [] => none
  | y :: ys => if y = z then some 0 else (indexS z ys).map (· + 1)
theorem indexS_ok {z : Str} : ∀ {ys : List Str} {j : Nat}, indexS z ys = some j → ys[j]? = some z ∧ ∀ m, m < j → ys[m]? ≠ some z
  | [], _, h => by cases h
  | y :: ys, j, h => by
    unfold indexS at h
    by_cases e : y = z
    · rw [if_pos e] at h
      cases h
      exact ⟨by rw [e]; rfl, fun m hm => absurd hm (Nat.not_lt_zero _)⟩
    · rw [if_neg e] at h
      obtain ⟨i, ei, rfl⟩ := Option.map_eq_some_iff.mp h
      obtain ⟨h1, h2⟩ := indexS_ok ei
      refine ⟨by simpa using h1, fun m hm => ?_⟩
      cases m with
      | zero => simpa using e
      | succ m => simpa using h2 m (by omega)
def gTupIx (ys : List Str) (ge : FE) : FE := fun ρ G => (ge ρ G).bind fun w G1 => match w with
  | .str z => match indexS z ys with
    | some j => .ok (.int (j : Nat)) G1
    | none => .no
  | _ => .no
theorem fe_tupIx {x : Str} {a : Addr} {ys : List Str} {e : Expr} {ge : FE} {px apos cpos : Pos} (hg : Gl X x) (hm : X.mg x = some (.ref a)) (h : KTupX Γ.K a (ys.map V.str)) (he : PE X e (absE Γ Z ge)) (hK : Γ.K = X.K := by rfl) (hd : (x == ("__debug__" : Str)) = false := by decide)
    (hbase : attributeBase (.Name x px) "index" X.env (eval (.Name x px) X.env) = eval (.Name x px) X.env := by rfl)
    (hfew : ((backTo cpos (starEach [e] X.env)).all (fun x => !x.1) && (backToKw cpos (keywordEach [] X.env)).all (fun x => x.1.isSome)
      && decide (([e] : List Expr).length + ([] : List Keyword).length + (if ([] : List Keyword).isEmpty then 0 else 1) < 30)) = true := by rfl)
    (hline : (apos.endLine == cpos.line) = true := by rfl) (hs : starEach [e] X.env = (false, eval e X.env) :: starEach [] X.env := by rfl) (hplain : (backTo cpos (starEach [] X.env)).any (·.1) = false := by rfl) :
    PE X (.Call (.Attribute (.Name x px) "index" apos) [e] [] cpos) (absE Γ Z (gTupIx ys ge)) := PE.imp (pe_tupIx hg hm (hK ▸ h) he hd hbase hfew hline hs hplain) fun σ H Q q => by
  obtain ⟨c, ρ, e, s, en, th⟩ := absG.bind q
  refine ⟨c, ρ, e, s, en, Th.mono th fun v c1 st ⟨c2, ρ2, w, e2, s2, en2, ra, q⟩ => ?_⟩
  rw [← e2]
  cases ra with
  | str z =>
    simp only at q
    cases ej : indexS z ys with
    | none => rw [ej] at q; exact q.elim
    | some j =>
      rw [ej] at q
      obtain ⟨h1, h2⟩ := indexS_ok ej
      exact ⟨a, ys, z, j, rfl, rfl, hK ▸ .inr h.tup, h1, h2, q.pure s2 (.int _)⟩
  | _ => exact q.elim
/-! ### a, b, c = x, y, z -/
def gPar3 (i j l : Nat) (ga : FA) : FS := fun ρ G => (ga ρ G).thn ρ fun ws G1 => match ws with
  | [a, b, c] => .nx (((ρ.set i (some a)).set j (some b)).set l (some c)) G1
  | _ => .no
theorem RpAll.three {c : Cf} {vs : List V} {w u t : W} (r : c.RpAll Γ vs [w, u, t]) : ∃ v x y, vs = [v, x, y] ∧ c.Rp Γ v w ∧ c.Rp Γ x u ∧ c.Rp Γ y t := by
  cases r with
  | cons h t => obtain ⟨x, y, e, h2, h3⟩ := RpAll.two (c := c) t; subst e; exact ⟨_, _, _, rfl, h, h2, h3⟩
theorem fs_par3 {i j l : Nat} {x y z : Str} {a b d : Expr} {ga : FA} {px py pz pt pos : Pos} {kt k2 : Nat} {pt2 : Pos} (hc : X.calm = true) (hN : X.N.Nodup) (hi : X.N[i]? = some x) (hj : X.N[j]? = some y) (hl : X.N[l]? = some z) (hij : i ≠ j) (hil : i ≠ l) (hjl : j ≠ l)
    (hx : X.env.scope.names.lookup x = some .local) (hy : X.env.scope.names.lookup y = some .local) (hz : X.env.scope.names.lookup z = some .local) (ha : PA X [a, b, d] (absA Γ Z ga))
    (hw : swappedStores [.Tuple [.Name x px, .Name y py, .Name z pz] kt pt] (.Tuple [a, b, d] k2 pt2) X.env = pure (some [x, y, z]))
    (hs : swapsWithSole [.Tuple [.Name x px, .Name y py, .Name z pz] kt pt] (.Tuple [a, b, d] k2 pt2) pos.line X.env = pure false := by rfl) :
    PS X (.Assign [.Tuple [.Name x px, .Name y py, .Name z pz] kt pt] (.Tuple [a, b, d] k2 pt2) pos) (absS Γ Z (gPar3 i j l ga)) :=
  PS.imp (ps_par3 hc hN hi hj hl hij hil hjl hx hy hz ha hw hs) fun D σ H q => by
    obtain ⟨c, ρ, e, s, en, th⟩ := absS.bind (rel := Cf.RpAll Γ) q
    refine ⟨c, ρ, e, s, en, Th.mono th fun vs c1 st ⟨c2, ρ2, ws, e2, s2, en2, ra, q⟩ => ?_⟩
    rw [← e2]
    split at q
    · obtain ⟨v, u, t, rfl, r1, r2, r3⟩ := RpAll.three (c := c2) ra
      exact ⟨v, u, t, rfl, q c2 _ (Stp.refl c2) s2 rfl (((en2.set r1 i).set r2 j).set r3 l)⟩
    · exact q.elim
end
end Fn

set_option Elab.async false
set_option linter.all false
set_option maxRecDepth 100000
namespace Fn
open PySem PySem.Spec PyProof.Rows L2
def mkD (own : Bool) (ks : List Key) (ws : List W) (G : GH) : R W := if own then .ok (.ref G.n) (G.push (.dic ks ws)) else .ok (.dic ks ws) G
/-- one turn: the item, its test, its key, its value -/
def dcTurn (t : FG1) (tt : FT) (tk tv : FE) (ρw : En) (w : W) (G : GH) : R (Option (Key × W)) := match t w ρw G with
  | none => .no
  | some (ρ1, G1) => (tt ρ1 G1).calm.bind fun b G2 => if b then (tk ρ1 G2).calm.bind fun y G3 => match keyW y with
      | some k => (tv ρ1 G3).calm.bind fun z G4 => .ok (some (k, z)) G4
      | none => .no
    else .ok none G2
/-- the keys have to be new -/
def dcF (t : FG1) (tt : FT) (tk tv : FE) (ρw : En) : List W → List Key → List W → GH → R (List Key × List W)
  | [], ks, vs, G => .ok (ks, vs) G
  | w :: ws, ks, vs, G => (dcTurn t tt tk tv ρw w G).bind fun o G1 => match o with
    | some (k, z) => if ks.length < sizeLine ∧ (ks.any fun j => decide (j = k)) = false then dcF t tt tk tv ρw ws (ks ++ [k]) (vs ++ [z]) G1 else .no
    | none => dcF t tt tk tv ρw ws ks vs G1
def dcW (t : FG1) (tt : FT) (tk tv : FE) (ρw : En) (k : Wk) (G : GH) : R (List Key × List W) := match k with
  | .vals ws => dcF t tt tk tv ρw ws [] [] G
  | .own _ => .no
def gDc (own : Bool) (gi : FI) (t : FG1) (tt : FT) (tk tv : FE) (vs : List Nat) : FE := fun ρ G => (gi ρ G).bind fun k G1 => (dcW t tt tk tv (wipeW ρ vs) k G1).calm.bind fun r G2 => mkD own r.1 r.2 G2
section
variable {X : Cx} {Γ : Gm} {Z : WXk}
theorem valV_new {ks : List Key} {xs : List V} {k : Key} (h : k ∉ ks) : valV (ks.zip xs) k = none := by
  induction ks generalizing xs with
  | nil => rfl
  | cons j ks ih =>
    cases xs with
    | nil => rfl
    | cons x xs =>
      rw [List.zip_cons_cons, valV_neg (fun e => h (by rw [← (show j = k from e)]; exact List.mem_cons_self))]
      exact ih fun m => h (List.mem_cons_of_mem _ m)
theorem unhideD {c0 c : Cf} {p : Addr} {ks : List Key} {xs : List V} {ws : List W} {own : Bool} {E : XK} {Q : V → Hp → Prop} (s0 : SR Γ c0) (hp : c0.H p = none) (s : SR Γ c) (st : StpW c0 c) (kp : ∀ a o, c0.H a = some o → ¬ c0.Ow a → c.H a = some o) (hB : c.B = fun a => c0.B a ∨ a = p) (hx : c.H p = some (.dK (ks.zip xs))) (hl : ks.length = xs.length) (r : c.RpAll Γ xs ws)
    (h : Th Γ E (Cf.Rp Γ) c0 Q (mkD own ks ws c.G)) : Q (.ref p) c.H := by
  have np : p ∉ c.ι := (s.hid p (by rw [hB]; exact .inr rfl)).2
  have nB0 : ¬ c0.B p := fun z => by
    obtain ⟨⟨xs, e⟩, _⟩ := s0.hid p z
    rw [hp] at e; cases e
  have owS : ∀ a, c.Ow a → c0.Ow a ∨ c0.H a = none := fun a z => by
    rcases st.own a (.inl z) with (q | q) | q
    · exact .inl q
    · exact absurd (show a ∈ c.ι from by obtain ⟨n, o, _, e⟩ := z; exact List.mem_of_getElem? e) (s.hid a (by rw [hB]; exact .inl q)).2
    · exact .inr q
  cases own with
  | false =>
    -- the list is a value
    have st1 : Stp c0 ⟨c.ι, c.G, c.H, c0.B⟩ := ⟨st.pre, kp, st.there, owS, rfl⟩
    have wk : StpW c ⟨c.ι, c.G, c.H, c0.B⟩ := ⟨fun _ _ h => h, fun _ _ h _ => h, fun _ h => h, fun a z => by
      rcases z with z | z
      · exact .inl (.inl z)
      · exact .inl (.inr (by rw [hB]; exact .inl z))⟩
    have s1 : SR Γ ⟨c.ι, c.G, c.H, c0.B⟩ := ⟨s.len, s.nd, s.all, fun n o e => by
      obtain ⟨a, q, e1, e2, r⟩ := s.obj n o e
      exact ⟨a, q, e1, e2, r.stpW s wk⟩, fun a z => s.hid a (by rw [hB]; exact .inl z)⟩
    refine h ⟨c.ι, c.G, c.H, c0.B⟩ _ st1 s1 rfl (.dic (.inl hx) hl (fun z => ?_) (wk.rpAll s r))
    rcases z with ⟨n, o, _, e⟩ | z
    · exact np (List.mem_of_getElem? e)
    · exact nB0 z
  | true =>
    have pre : ∀ (n : Nat) (a : Addr), c.ι[n]? = some a → (c.ι ++ [p])[n]? = some a := fun n a h => by
      rw [List.getElem?_append_left (List.getElem?_eq_some_iff.mp h).1]; exact h
    have owN : ∀ a, Own (c.ι ++ [p]) (c.G.push (.dic ks ws)) a → c.Ow a ∨ a = p := fun a ⟨n, u, h1, h2⟩ => by
      have h1 : (if n = c.G.n then some (AO.dic ks ws) else c.G.at_ n) = some u := h1
      by_cases e : n = c.G.n
      · subst e
        rw [← s.len, List.getElem?_append_right (Nat.le_refl _), Nat.sub_self] at h2
        cases h2
        exact .inr rfl
      · rw [if_neg e] at h1
        obtain ⟨b, _, e1, _, _⟩ := s.obj n u h1
        rw [pre n b e1] at h2
        cases h2
        exact .inl ⟨n, u, h1, e1⟩
    have st1 : Stp c0 ⟨c.ι ++ [p], c.G.push (.dic ks ws), c.H, c0.B⟩ := ⟨fun n a e => pre n a (st.pre n a e), kp, st.there, fun a z => by
      rcases owN a z with z | z
      · exact owS a z
      · exact .inr (z ▸ hp), rfl⟩
    have wk : StpW c ⟨c.ι ++ [p], c.G.push (.dic ks ws), c.H, c0.B⟩ := ⟨pre, fun _ _ h _ => h, fun _ h => h, fun a z => by
      rcases z with z | z
      · rcases owN a z with z | z
        · exact .inl (.inl z)
        · exact .inl (.inr (by rw [hB]; exact .inr z))
      · exact .inl (.inr (by rw [hB]; exact .inl z))⟩
    have s1 : SR Γ ⟨c.ι ++ [p], c.G.push (.dic ks ws), c.H, c0.B⟩ := by
      refine ⟨by show (c.ι ++ [p]).length = c.G.n + 1; rw [List.length_append, s.len]; rfl, ?_, fun a z => ?_, fun n u e => ?_, fun a z => ?_⟩
      · refine List.nodup_append.mpr ⟨s.nd, by simp, fun a ha b hb => ?_⟩
        have : b = p := by simpa using hb
        subst this
        exact fun e => np (e ▸ ha)
      · rcases List.mem_append.mp z with z | z
        · exact s.all a z
        · have : a = p := by simpa using z
          subst this
          show c.H a ≠ none
          rw [hx]; simp
      · have e : (if n = c.G.n then some (AO.dic ks ws) else c.G.at_ n) = some u := e
        by_cases k : n = c.G.n
        · subst k
          rw [if_pos rfl] at e
          cases e
          exact ⟨p, _, new_own_at s p, hx, .dic hl (wk.rpAll s r)⟩
        · rw [if_neg k] at e
          obtain ⟨a, q, e1, e2, r'⟩ := s.obj n u e
          exact ⟨a, q, pre n a e1, e2, r'.stpW s wk⟩
      · obtain ⟨e, na⟩ := s.hid a (by rw [hB]; exact .inl z)
        refine ⟨e, fun m => ?_⟩
        rcases List.mem_append.mp m with m | m
        · exact na m
        · have : a = p := by simpa using m
          exact nB0 (this ▸ z)
    exact h ⟨c.ι ++ [p], c.G.push (.dic ks ws), c.H, c0.B⟩ _ st1 s1 rfl (.ref (new_own_at s p))

theorem dc_ok {own : Bool} {t : FG1} {sl vs : List Nat} {tt : FT} {tk tv : FE} {J : It} {ws : List W} {c0 : Cf} {ρ0 : En} {σ0 : L2.St} {E : XK} {Q : V → Hp → Prop} (hsl : ∀ i ∈ sl, i ∈ vs) (s0 : SR Γ c0) (wk : Walks Γ c0 J ws) (en0 : c0.En Γ ρ0 σ0)
    (th0 : Th Γ E (Cf.Rp Γ) c0 Q ((dcF t tt tk tv (wipeW ρ0 vs) ws [] [] c0.G).calm.bind fun r G2 => mkD own r.1 r.2 G2)) {D : Addr} (hD : c0.H D = none) :
    ∃ Wd : Nat → Nat → Hp → Prop, (∃ m, Wd 0 m (upd c0.H D (.dK []))) ∧ ∀ i m H, Wd i m H →
      (J.stop i H ∧ Q (.ref D) H) ∨ (J.go i H ∧ ∃ Nx : Hp → Prop, (∀ H', Nx H' → ∃ m', m' < m ∧ Wd (i + 1) m' H') ∧ ∀ x H', J.yld i H x H' → absG1 Γ sl t x (wipe σ0 vs) H' fun σ2 H2 => wipe σ2 vs = wipe σ0 vs ∧ absT Γ Z0 tt σ2 H2 fun b H3 =>
        if b = true then absE Γ Z0 tk σ2 H3 fun y H4 => absE Γ Z0 tv σ2 H4 fun z H5 => ∃ kvs k, y = kV k ∧ H5 D = some (.dK kvs) ∧ kvs.length < sizeLine ∧ Nx (upd H5 D (.dK (putK kvs k z))) else Nx H3) := by
  -- what holds ahead of turn i
  refine ⟨fun i m H => m = ws.length - i ∧ i ≤ ws.length ∧ ∃ (c : Cf) (ks : List Key) (xs : List V) (acc : List W), c.H = H ∧ SR Γ c ∧ StpW c0 c ∧ (∀ a o, c0.H a = some o → ¬ c0.Ow a → c.H a = some o) ∧ (c.B = fun a => c0.B a ∨ a = D) ∧ c.H D = some (.dK (ks.zip xs)) ∧ ks.length = xs.length ∧ c.RpAll Γ xs acc ∧
    Th Γ E (Cf.Rp Γ) c0 Q ((dcF t tt tk tv (wipeW ρ0 vs) (ws.drop i) ks acc c.G).calm.bind fun r G2 => mkD own r.1 r.2 G2), ?_, ?_⟩
  · obtain ⟨st1, s1⟩ := hide s0 hD (.d [])
    refine ⟨_, rfl, Nat.zero_le _, ⟨c0.ι, c0.G, upd c0.H D (.dK []), fun a => c0.B a ∨ a = D⟩, [], [], [], rfl, s1, st1, fun a o e _ => ?_, rfl, upd_same, rfl, .nil, by simpa using th0⟩
    show upd c0.H D _ a = some o
    rw [upd_ne (ne_of_none e hD)]; exact e
  · rintro i m H ⟨rfl, hi, c, ks, xs, acc, rfl, s, st, kp, hB, hx, hlx, rx, th⟩
    by_cases hlt : i < ws.length
    · have ed : ws.drop i = ws[i] :: ws.drop (i + 1) := (List.drop_eq_getElem_cons hlt)
      rw [ed] at th
      refine .inr ⟨wk.go c st s i hlt, fun H => ∃ (c : Cf) (ks : List Key) (xs : List V) (acc : List W), c.H = H ∧ SR Γ c ∧ StpW c0 c ∧ (∀ a o, c0.H a = some o → ¬ c0.Ow a → c.H a = some o) ∧ (c.B = fun a => c0.B a ∨ a = D) ∧ c.H D = some (.dK (ks.zip xs)) ∧ ks.length = xs.length ∧ c.RpAll Γ xs acc ∧
        Th Γ E (Cf.Rp Γ) c0 Q ((dcF t tt tk tv (wipeW ρ0 vs) (ws.drop (i + 1)) ks acc c.G).calm.bind fun r G2 => mkD own r.1 r.2 G2), fun H' h => ⟨_, by omega, rfl, hlt, h⟩, fun x H' y => ?_⟩
      obtain ⟨w, c1, ew, e1, st1, s1, eG, rw1⟩ := wk.yld c st s i x H' hlt y
      have ew : ws[i] = w := by rw [List.getElem?_eq_getElem hlt] at ew; exact Option.some.inj ew
      rw [ew] at th
      have oB : ¬ c.Ow D := fun ⟨n, o, _, e⟩ => (s.hid D (by rw [hB]; exact .inr rfl)).2 (List.mem_of_getElem? e)
      -- a state that is a step on keeps all this
      have on : ∀ c', Stp c c' → SR Γ c' → StpW c0 c' ∧ (∀ a o, c0.H a = some o → ¬ c0.Ow a → c'.H a = some o) ∧ (c'.B = fun a => c0.B a ∨ a = D) ∧ c'.H D = some (.dK (ks.zip xs)) ∧ c'.RpAll Γ xs acc := fun c' st' s' =>
        ⟨st.trans st'.w, (fun a o e n => by
          refine st'.keep a o (kp a o e n) fun z => ?_
          rcases st.own a (.inl z) with (q | q) | q
          · exact n q
          · exact (s.hid a (by rw [hB]; exact .inl q)).2 (by obtain ⟨n, o, _, e⟩ := z; exact List.mem_of_getElem? e)
          · rw [q] at e; cases e), st'.bl.trans hB, st'.keep D _ hx oB, st'.rpAll s rx⟩
      refine ⟨c1, wipeW ρ0 vs, w, e1, s1, wipeW_en (st1.en s (st.en s0 en0)) vs, rw1, ?_⟩
      unfold dcF dcTurn at th
      rw [eG]
      cases k : t w (wipeW ρ0 vs) c.G with
      | none => rw [k] at th; exact th.elim
      | some p =>
        obtain ⟨ρ1, G1⟩ := p
        rw [k] at th
        simp only at th ⊢
        intro c2 σ2 st2 s2 e2 en2 ag
        refine ⟨wipe_agr ag hsl, c2, ρ1, rfl, s2, en2, ?_⟩
        rw [e2]
        cases kt : tt ρ1 G1 with
        | ex x G2 => rw [kt] at th; exact th.elim
        | no => rw [kt] at th; exact th.elim
        | ok b G2 =>
          rw [kt] at th
          intro c3 b' st3 s3 e3 eb
          subst eb
          have st13 : Stp c c3 := st1.trans (st2.trans st3)
          cases b' with
          | false =>
            rw [if_neg Bool.false_ne_true]
            obtain ⟨a1, a2, a3, a4, a5⟩ := on c3 st13 s3
            refine ⟨c3, ks, xs, acc, rfl, s3, a1, a2, a3, a4, hlx, a5, ?_⟩
            rw [e3]
            exact th
          | true =>
            rw [if_pos rfl]
            refine ⟨c3, ρ1, rfl, s3, st3.en s2 en2, ?_⟩
            rw [e3]
            simp only [R.calm, R.bind, if_true] at th
            cases kv : tk ρ1 G2 with
            | ex x G3 => rw [kv] at th; exact th.elim
            | no => rw [kv] at th; exact th.elim
            | ok y G3 =>
              rw [kv] at th
              simp only at th
              intro c4 v st4 s4 e4 rv
              cases ek : keyW y with
              | none => rw [ek] at th; exact th.elim
              | some k =>
                rw [ek] at th
                simp only at th
                refine ⟨c4, ρ1, rfl, s4, st4.en s3 (st3.en s2 en2), ?_⟩
                rw [e4]
                cases kz : tv ρ1 G3 with
                | ex x G4 => rw [kz] at th; exact th.elim
                | no => rw [kz] at th; exact th.elim
                | ok z G4 =>
                  rw [kz] at th
                  simp only at th
                  intro c5 vz st5 s5 e5 rz
                  have st15 : Stp c c5 := st13.trans (st4.trans st5)
                  obtain ⟨a1, a2, a3, a4, a5⟩ := on c5 st15 s5
                  by_cases hk : ks.length < sizeLine ∧ (ks.any fun j => decide (j = k)) = false
                  · rw [if_pos hk] at th
                    have hBD : c5.B D := by rw [a3]; exact .inr rfl
                    have ez : (ks ++ [k]).zip (xs ++ [vz]) = ks.zip xs ++ [(k, vz)] := by rw [List.zip_append hlx]; rfl
                    obtain ⟨st6, s6⟩ := hidSet s5 hBD (.d ((ks ++ [k]).zip (xs ++ [vz])))
                    refine ⟨_, k, keyW_ok rv ek, a4, by rw [List.length_zip, ← hlx, Nat.min_self]; exact hk.1, ⟨c5.ι, c5.G, upd c5.H D (.dK ((ks ++ [k]).zip (xs ++ [vz]))), c5.B⟩, ks ++ [k], xs ++ [vz], acc ++ [z], ?_, s6, a1.trans st6, fun a o e n => ?_, a3, upd_same, by rw [List.length_append, List.length_append, hlx]; rfl, st6.rpAll s5 (a5.append (.cons rz .nil)), ?_⟩
                    · rw [putK_new vz (valV_new (fun m => by have := List.any_eq_false.mp hk.2 k m; simp at this)), ez]
                    · show upd c5.H D _ a = some o
                      rw [upd_ne (ne_of_none e hD)]
                      exact a2 a o e n
                    · show Th Γ E (Cf.Rp Γ) c0 Q ((dcF t tt tk tv (wipeW ρ0 vs) (ws.drop (i + 1)) (ks ++ [k]) (acc ++ [z]) c5.G).calm.bind _)
                      rw [e5]
                      exact th
                  · rw [if_neg hk] at th; exact th.elim
    · have e : i = ws.length := by omega
      subst e
      rw [List.drop_length] at th
      exact .inl ⟨wk.stop c st s _ (Nat.le_refl _), unhideD s0 hD s st kp hB hx hlx rx th⟩
theorem fe_dc {own : Bool} {kx vx tg iter : Expr} {ifs : List Expr} {scope : Scope} {onames : List (Str × Nat)} {pos : Pos} {gi : FI} {t : FG1} {sl : List Nat} {tt : FT} {tk tv : FE} (hc : X.calm = true) (hN : X.N.Nodup) (hi : PI X tg iter (absI Γ Z gi)) (ok : BlkOk X.N X.env.scope scope onames)
    (hg : ∀ (s : Shared) (H : Hp) (C : Addr) (cl : List (Str × Addr)) (fp : List Addr), PG (X.blk s H scope (compEnvC scope cl C X.env) fp) tg (absG1 Γ sl t))
    (ht : ∀ (s : Shared) (H : Hp) (C : Addr) (cl : List (Str × Addr)) (fp : List Addr), PTs (X.blk s H scope (compEnvC scope cl C X.env) fp) ifs (absT Γ Z0 tt))
    (hk : ∀ (s : Shared) (H : Hp) (C : Addr) (cl : List (Str × Addr)) (fp : List Addr), PE (X.blk s H scope (compEnvC scope cl C X.env) fp) kx (absE Γ Z0 tk))
    (he : ∀ (s : Shared) (H : Hp) (C : Addr) (cl : List (Str × Addr)) (fp : List Addr), PE (X.blk s H scope (compEnvC scope cl C X.env) fp) vx (absE Γ Z0 tv)) (hsl : ∀ i ∈ sl, i ∈ onames.map (·.2) := by decide) (hs : ∀ x, foldedSetIterable iter X.env x = pure x := by intro _; rfl) :
    PE X (.DictComp kx vx [⟨tg, iter, ifs, 0⟩] scope pos) (absE Γ Z (gDc own gi t tt tk tv (onames.map (·.2)))) :=
  PE.imp (pe_dc hc hN hi ok hg ht hk he hs) fun σ H Q q => by
    obtain ⟨c, ρ, e, s, en, th⟩ := absG.bind q
    refine ⟨c, ρ, e, s, en, Th.mono th fun J c1 st ⟨c2, ρ2, k, e2, s2, en2, wk, q⟩ => ?_⟩
    rw [← e2]
    cases k with
    | vals ws => exact fun D hD => dc_ok hsl s2 wk en2 q hD
    | own n => exact q.elim
end
end Fn

set_option Elab.async false
set_option linter.all false
set_option maxRecDepth 100000
namespace PySem
open Sem (wp)
set_option maxHeartbeats 1000000 in
theorem fnMeetsEnum {v : Value} {o : Obj} {Hs : Heap → Prop} (B : Begins v o Hs) :
    Meets (Builtin.«enumerate.__new__» ⟨[.type "enumerate", v], []⟩) (fun _ K z => Hs z.heap ∧
      K (.ok (.ret (.ref (z.heap.push o).objs.size))) { z with heap := (z.heap.push o).push { cls := .type "enumerate", data := .fields #[.none, .bool false, .ref z.heap.objs.size, rawInt 0, .none, .none] } }) :=
  .of_wp fun prog w A K z hz => by
    obtain ⟨hp, g, d, tk, os⟩ := z; obtain ⟨hA, hB⟩ := hz
    have sb := sub_enumerate
    have it1 : ∀ {A' : Around} {E : Value → Shared → Prop} {Q : Value → Shared → Prop}, Q (.ref hp.objs.size) ⟨hp.push o, g, d, tk, os⟩ → wpAny (model prog w) A' (pyIter v) Q E ⟨hp, g, d, tk, os⟩ :=
      fun q => B.iter prog w _ _ ⟨hp, g, d, tk, os⟩ _ hA q
    wp_walk using it1
    refine wpAny_stack_any fun sk => wpAny_pure ?_
    split
    · rename_i c _ _ _ _ _
      cases (c == Value.type "enumerate")
      · wp_walk using it1
        exact ⟨_, rfl, hB⟩
      · wp_walk using it1
        exact ⟨_, rfl, hB⟩
    · wp_walk using it1
      exact ⟨_, rfl, hB⟩
end PySem
namespace PySem
section
variable {prog : Program} {w : World} {A : Around} {E : Value → Shared → Prop} {z : Shared}
theorem fnCallEnum {v : Value} {o : Obj} {Hs : Heap → Prop} {Q : Value → Shared → Prop} (B : Begins v o Hs) (hA : Hs z.heap)
    (k : ∀ h', IsEnum h' (z.heap.objs.size + 1) z.heap.objs.size 0 .none → h'.get? z.heap.objs.size = some o → h'.objs.size = z.heap.objs.size + 2 → (∀ b p, z.heap.get? b = some p → h'.get? b = some p) → Q (.ref (z.heap.objs.size + 1)) { z with heap := h' }) :
    wpAny (model prog w) A (call (.type "enumerate") [v]) Q E z := by
  refine callType_new F.called_enumerate (by decide) (F.typeCall_enumerate_1 _) (F.newCall_enumerate_1 _) (fun x => F.args_object_init_2 x _) F.entry_enumerate_new (fnMeetsEnum B) ⟨hA, ?_⟩
  have sz : (z.heap.push o).objs.size = z.heap.objs.size + 1 := Heap.size_push ..
  show _ ∧ _
  rw [sz]
  have e1 : IsEnum ((z.heap.push o).push { cls := .type "enumerate", data := .fields #[.none, .bool false, .ref z.heap.objs.size, rawInt 0, .none, .none] }) (z.heap.objs.size + 1) z.heap.objs.size 0 .none := by
    have q := Heap.get?_push_size (z.heap.push o) (o := { cls := .type "enumerate", data := .fields #[.none, .bool false, .ref z.heap.objs.size, rawInt 0, .none, .none] }) rfl
    rwa [sz] at q
  exact ⟨⟨_, e1, rfl⟩, k _ e1 (Heap.get?_push_of_some _ (Heap.get?_push_size _ B.free)) (by rw [Heap.size_push, sz]) fun b p x => Heap.get?_push_of_some _ (Heap.get?_push_of_some _ x)⟩
theorem fnEnumEnd {e it a : Addr} {i : Nat} {items : Array Value} {old : Value} {Q : Option Value → Shared → Prop} (hd : A.handled = none) (ee : IsEnum z.heap e it i old) (ti : z.heap.IsTupleIter it a i) (ta : z.heap.IsTuple a items) (hn : items[i]? = none)
    (k : ∀ h', Heap.ExtBut it z.heap h' → Q none { z with heap := h' }) : wpAny (model prog w) A (pyNext (.ref e)) Q E z := by
  have ty : z.TypeIs (.ref e) "enumerate" := ⟨_, ee, rfl⟩
  unfold pyNext
  refine wpAny_bind (wpAny_attempt (wpAny_callSpecial?_slot (name := Str.ofString "__next__") ty F.slot_enumerate_next (wpAny_call_entry F.slot_enumerate_next ty F.entry_enumerate_next ?_ (F.args_enumerate_next_1 _))))
  show wpAny _ _ (field (.ref e) 2 >>= _) _ _ z
  refine wpAny_bind (wpAny_field ee rfl (x := .ref it) rfl (wpAny_bind (wpAny_nextOf_tuple_end hd ti ta hn fun h' x xb ⟨o, ho, hc⟩ => ?_)))
  exact wpAny_bind (wpAny_isInstance (T := "StopIteration") (b := true) ⟨o, ho, hc⟩ isSubtype_stop (wpAny_pure (k _ xb)))
end
end PySem
namespace Fn
open PySem PySem.Spec PyProof.Rows L2
/-- the tuple at a, each item in a new pair -/
def ItP (K : PySem.W.Frag) (a : Addr) : It :=
  ⟨fun i H => ∃ (xs : List V) (x : V), SqT K H a xs ∧ xs[i]? = some x, fun i H v H' => ∃ p x, v = .ref p ∧ H p = none ∧ H' = upd H p (.tup [.int (i : Nat), x]) ∧ ∀ xs, SqT K H a xs → xs[i]? = some x, fun i H => ∃ xs : List V, SqT K H a xs ∧ xs.length ≤ i⟩
theorem turnP {P : Program} {w : World} {K : PySem.W.Frag} {elts : List Expr} {kk : Nat} {tpos : Pos} (a e it : Addr) :
    Turn P w K (.Tuple elts kk tpos) (ItP K a) [e, it] e (fun i h => (∃ old, IsEnum h e it ((i : Nat) : Int) old) ∧ h.IsTupleIter it a i ∧ e ≠ it) where
  mem := by simp
  obj := fun i h st b hb => by
    obtain ⟨⟨old, ee⟩, ⟨o, ho, hc, hd⟩, _⟩ := st
    rcases (show b = e ∨ b = it by simpa using hb) with rfl | rfl
    · exact ⟨_, ee, fun v q => nomatch q⟩
    · exact ⟨o, ho, fun v q => by rw [hd] at q; cases q⟩
  keep := fun i h h' ⟨⟨old, ee⟩, ti, ne⟩ k => ⟨⟨old, k e (by simp) _ ee⟩, ti.at fun o q => k it (by simp) o q, ne⟩
  item := by
    intro X hP hw hK hc i pins z σ H E I hf ⟨⟨old, ee⟩, ti, ne⟩ ⟨xs, x, hq, hx⟩
    subst hP hw hK
    obtain ⟨its, rv, tp, hz⟩ := I.tuple hq
    obtain ⟨u, hu, ru⟩ := rv.get hx
    have tp : z.heap.IsTuple a its.toArray := tp
    have na : a ≠ it := by
      rintro rfl
      obtain ⟨o, ho, hc1, _⟩ := ti
      obtain ⟨o', ho', hc2, _⟩ := tp
      rw [ho] at ho'; cases ho'
      rw [hc1] at hc2
      exact absurd hc2 (by decide)
    have nea : e ≠ a := by
      rintro rfl
      obtain ⟨o', ho', hc2, _⟩ := tp
      rw [show z.heap.get? e = _ from ee] at ho'; cases ho'
      have q : Value.type "enumerate" = Value.type "tuple" := hc2
      injection q with q
      exact absurd q (by decide)
    have el : e < z.heap.objs.size := Heap.lt_size ee
    have il : it < z.heap.objs.size := by obtain ⟨_, q, _⟩ := ti; exact Heap.lt_size q
    have iu : i < its.toArray.size := by have := (List.getElem?_eq_some_iff.mp hu).1; simpa using this
    have D := Draws.tuple (prog := X.prog) (w := X.w) (A := X.A.in1) (I.ok.hd hc) it a na its.toArray
    refine wpAny_pyNext_enum_itemD D ee ⟨ti, tp⟩ iu ne (by simp [ne, nea]) fun y h' tk hy ho st' hT hsz hk => ?_
    have yu : y = u := by
      have : its[i]? = some y := by simpa using hy
      rw [hu] at this
      exact (Option.some.inj this).symm
    subst yu
    refine ⟨_, rfl, wpAny_letOwnedTupleGo_enum (s := { z with heap := h', toks := tk + 1 }) ho fun h'' he' sb => ?_⟩
    have t2 : h''.get? z.heap.objs.size = some { cls := .type "tuple", data := .seq #[.int i tk, y] } := (sb.2 _ (Nat.ne_of_gt el)).trans hT
    have nw : ObjOk X.prog X.w (upd H z.heap.objs.size (.tup [.int (i : Nat), x])) h'' z.heap.objs.size (.tup [.int (i : Nat), x]) :=
      ⟨by show 2 ≤ sizeLine; decide, [.int i tk, y], .cons ⟨_, rfl⟩ (.cons ru .nil), ⟨_, t2, rfl, _, rfl⟩⟩
    have I1 : Inv X pins σ (upd H z.heap.objs.size (.tup [.int (i : Nat), x])) { z with heap := h'', toks := tk + 1 } :=
      I.turnedNew (ch := [e, it]) (fun b ob hb q => (sb.2 b (fun y => hb (by simp [y]))).trans (hk b ob (fun y => hb (by simp [y])) (fun y => hb (by simp [y])) q)) hf (Nat.le_refl _) nw
    refine ⟨.ref z.heap.objs.size, _, I1, rfl, ⟨_, x, rfl, I.hok.fresh (Nat.le_refl _), rfl, fun ys hy => by rw [I.tuple_inj hy hq]; exact hx⟩, ⟨⟨y, ?_⟩, st'.1.at fun o q => (sb.2 it (Ne.symm ne)).trans q, ne⟩, fun b hb => ?_⟩
    · rw [show ((i + 1 : Nat) : Int) = (i : Int) + 1 by omega]
      exact he'
    · have lb : b < z.heap.objs.size := by
        rcases (show b = e ∨ b = it by simpa using hb) with rfl | rfl
        · exact el
        · exact il
      rw [upd_ne (Nat.ne_of_lt lb)]
      exact (hf b hb).1
  done := by
    intro X hP hw hK hc i pins z σ H E I hf ⟨⟨old, ee⟩, ti, ne⟩ ⟨xs, hq, hx⟩
    subst hP hw hK
    obtain ⟨its, rv, tp, hz⟩ := I.tuple hq
    have tp : z.heap.IsTuple a its.toArray := tp
    obtain ⟨f0, f1, f2, f3, f4, f5⟩ := hf it (by simp)
    have ll := rv.length
    exact fnEnumEnd (I.ok.hd hc) ee ti tp (by simp; omega) fun h' eb => ⟨rfl, I.turned (t' := z.toks) (fun b o hb q => eb b o hb q) f0 f1 f3 f4 f5⟩
  self := fun A i z Q E ⟨⟨_, ee⟩, _⟩ h => wpAny_pyIter_enum ee h
def iEnumB (K : PySem.W.Frag) (ta : TA) : TI := fun σ H R => ta σ H fun vs H1 => ∃ a, vs = [.ref a] ∧ ((∃ xs, SqL K H1 a xs ∧ R (Ite K a) H1) ∨ (∃ xs, SqT K H1 a xs ∧ R (ItP K a) H1))
theorem pi_enumB {X : Cx} {e : Expr} {ta : TA} {p pos tpos : Pos} {elts : List Expr} {kk : Nat} (gl : Gl X "enumerate") (mn : X.mg "enumerate" = none) (pa : PA X [e] ta) (hs : starEach [e] X.env = [(false, eval e X.env)] := by rfl) :
    PI X (.Tuple elts kk tpos) (.Call (.Name "enumerate" p) [e] [] pos) (iEnumB X.K ta) := by
  refine ⟨fun pins z σ H R I h => ?_⟩
  refine Call_ (ld_blt I gl mn boot_enumerate (PyProof.Rows.callWith_type1 (thn (pa.run pos pins z σ H _ I h) fun us z1 ⟨vs, H1, I1, r1, a, ev, q⟩ => ?_) hs rfl))
  subst ev
  cases r1 with
  | cons r rr =>
    cases rr
    cases r
    have two : ∀ b ∈ [z1.heap.objs.size + 1, z1.heap.objs.size], z1.heap.objs.size ≤ b := fun b hb => by
      rcases (show b = z1.heap.objs.size + 1 ∨ b = z1.heap.objs.size by simpa using hb) with rfl | rfl
      · exact Nat.le_add_right _ _
      · exact Nat.le_refl _
    rcases q with ⟨xs, hq, q⟩ | ⟨xs, hq, q⟩
    · obtain ⟨its, rv, pl, hz⟩ := I1.list hq
      refine call_enumerate_list pl.isList fun h' he hit hsz hk => wpAny_pyIter_enum he ?_
      exact ⟨z1.heap.objs.size + 1, [z1.heap.objs.size + 1, z1.heap.objs.size], _, _, H1, rfl, I1.kept (t' := z1.toks) hk, turn_enum a (z1.heap.objs.size + 1) z1.heap.objs.size, ⟨⟨.none, he⟩, hit, Nat.succ_ne_self _⟩, fun b hb => I1.fpOk (two b hb) (I1.hok.fresh (two b hb)), q⟩
    · obtain ⟨its, rv, tp, hz⟩ := I1.tuple hq
      have tp : z1.heap.IsTuple a its.toArray := tp
      refine fnCallEnum (begins_tuple a its.toArray) tp fun h' he ho hsz hk => wpAny_pyIter_enum he ?_
      exact ⟨z1.heap.objs.size + 1, [z1.heap.objs.size + 1, z1.heap.objs.size], _, _, H1, rfl, I1.kept (t' := z1.toks) hk, turnP a (z1.heap.objs.size + 1) z1.heap.objs.size, ⟨⟨.none, he⟩, ⟨_, ho, rfl, rfl⟩, Nat.succ_ne_self _⟩, fun b hb => I1.fpOk (two b hb) (I1.hok.fresh (two b hb)), q⟩
section
variable {X : Cx} {Γ : Gm} {Z : WXk}
theorem enumWalksT {c : Cf} {a : Addr} {xs : List V} {ws : List W} (k : ∀ c', StpW c c' → SR Γ c' → SqT Γ.K c'.H a xs) (r : c.RpAll Γ xs ws) (s : SR Γ c) : Walks Γ c (ItP Γ.K a) (enumFrom' 0 ws) where
  go := fun c' st s' i hi => ⟨xs, xs[i]'(by rw [r.length]; rwa [enum_length] at hi), k c' st s', List.getElem?_eq_getElem _⟩
  stop := fun c' st s' i hi => ⟨xs, k c' st s', by rw [r.length]; rwa [enum_length] at hi⟩
  yld := fun c' st s' i v H' hi ⟨T, x, ev, hT, eH, y⟩ => by
    subst ev eH
    obtain ⟨w, ew, rw1⟩ := r.getV (y xs (k c' st s'))
    obtain ⟨st1, s1, no⟩ := new_frz s' hT (.tup [.int (i : Nat), x])
    refine ⟨.tup [.int ((0 + i : Nat) : Int), w], _, enum_get 0 ws i w ew, rfl, st1, s1, rfl, .tup (.inl (.inl upd_same)) (.cons ?_ (.cons (st1.rp s' (st.rp s rw1)) .nil))⟩
    rw [Nat.zero_add]
    exact .int _
def asEnumB (ws : List W) (G : GH) : R Wk := match ws with
  | [.lst ws] => .ok (.vals (enumFrom' 0 ws)) G
  | [.tup ws] => .ok (.vals (enumFrom' 0 ws)) G
  | _ => .no
theorem fi_enumB {e : Expr} {g : FA} {p pos tpos : Pos} {elts : List Expr} {kk : Nat} (hg : Gl X "enumerate") (hm : X.mg "enumerate" = none) (ha : PA X [e] (absA Γ Z g)) (hs : starEach [e] X.env = [(false, eval e X.env)] := by rfl) (hK : Γ.K = X.K := by rfl) :
    PI X (.Tuple elts kk tpos) (.Call (.Name "enumerate" p) [e] [] pos) (absI Γ Z (iRng asEnumB g)) := PI.imp (pi_enumB hg hm ha hs) fun σ H R q => by
  obtain ⟨c, ρ, e, s, en, th⟩ := absG.bind q
  refine ⟨c, ρ, e, s, en, Th.mono th fun v c1 st ⟨c2, ρ2, ws, e2, s2, en2, ra, q⟩ => ?_⟩
  rw [← e2]
  unfold asEnumB at q
  split at q
  · obtain ⟨v, rfl, r1⟩ := RpAll.one (c := c2) ra
    cases r1 with
    | lst h n r => exact ⟨_, rfl, .inl ⟨_, by rw [← hK]; exact .inl h, hK ▸ q c2 _ (Stp.refl c2) s2 rfl (enumWalks (fun c' st' s' => .inl (st'.rd n h)) r s2)⟩⟩
    | lstK h1 h2 h3 h4 h5 h6 r => exact ⟨_, rfl, .inl ⟨_, by rw [← hK]; exact .inr ⟨_, _, _, h1, h2, h3, h4, h5, h6⟩, hK ▸ q c2 _ (Stp.refl c2) s2 rfl (enumWalks (fun c' st' s' => .inr ⟨_, _, _, h1, h2, h3, h4, h5, h6⟩) r s2)⟩⟩
  · obtain ⟨v, rfl, r1⟩ := RpAll.one (c := c2) ra
    cases r1 with
    | tup h r => exact ⟨_, rfl, .inr ⟨_, by rw [← hK]; exact h, hK ▸ q c2 _ (Stp.refl c2) s2 rfl (enumWalksT (fun c' st' s' => st'.sqT s2 h) r s2)⟩⟩
  · exact q.elim
end
end Fn

set_option Elab.async false
set_option linter.all false
set_option maxRecDepth 100000
namespace Fn
open PySem PySem.Spec PyProof.Rows L2
/-! ### dicts that are written, and what is made of them -/
theorem mkD_ok {Γ : Gm} {E : XK} {c : Cf} {Q : V → Hp → Prop} {own : Bool} {ks : List Key} {xs : List V} {ws : List W} (s : SR Γ c) (hl : ks.length = xs.length) (r : c.RpAll Γ xs ws) (h : Th Γ E (Cf.Rp Γ) c Q (mkD own ks ws c.G)) {p : Addr} (hp : c.H p = none) : Q (.ref p) (upd c.H p (.dK (ks.zip xs))) := by
  cases own with
  | true =>
    obtain ⟨st, sr⟩ := new_own s hp (.dic hl r)
    exact h _ _ st sr rfl (.ref (new_own_at s p))
  | false =>
    obtain ⟨st, sr, no⟩ := new_frz s hp (.dK (ks.zip xs))
    exact h _ _ st sr rfl (.dic (.inl upd_same) hl (fun q => no (q.elim (fun z => .inl z) fun z => .inr z)) (st.rpAll s r))
section
variable {X : Cx} {Γ : Gm} {Z : WXk}
/-- {} -/
def gD0 (own : Bool) : FE := fun _ G => mkD own [] [] G
theorem fe_d0 {own : Bool} {pos : Pos} : PE X (.Dict [] [] pos) (absE Γ Z (gD0 own)) := PE.imp pe_dnewK fun σ H Q ⟨c, ρ, e, s, en, th⟩ p hp => by
  subst e
  exact mkD_ok (ks := []) (xs := []) s rfl .nil th hp
/-- a dict of written numbers, texts, truth values -/
inductive Lit where
  | int (i : Int) | str (x : Str) | bl (b : Bool) | non
def Lit.v : Lit → V
  | .int i => .int i
  | .str x => .str x
  | .bl b => .bl b
  | .non => .non
def Lit.w : Lit → W
  | .int i => .int i
  | .str x => .str x
  | .bl b => .bl b
  | .non => .non
theorem Lit.rp {Γ : Gm} {c : Cf} : ∀ l : Lit, c.Rp Γ l.v l.w
  | .int i => .int i
  | .str x => .str x
  | .bl b => .bl b
  | .non => .non
def litE (l : Lit) : TE := fun _ H Q => Q l.v H
def keyE (k : Key) : TE := fun _ H Q => Q (kV k) H
def gDL (own : Bool) (ks : List Key) (ls : List Lit) : FE := fun _ G => mkD own ks (ls.map Lit.w) G
theorem zip_fst : ∀ (ks : List Key) (ls : List Lit), ks.length = ls.length → (ks.zip (ls.map Lit.v)).map (·.1) = ks
  | [], _, _ => rfl
  | k :: ks, l :: ls, h => by rw [List.map_cons, List.zip_cons_cons, List.map_cons, zip_fst ks ls (by simpa using h)]
  | _ :: _, [], h => by simp at h
theorem pairs_lit {σ : L2.St} {H : Hp} {Q : List (V × V) → Hp → Prop} : ∀ (ks : List Key) (ls : List Lit), ks.length = ls.length → Q ((ks.zip (ls.map Lit.v)).map fun kv => (kV kv.1, kv.2)) H → tPairs ((ks.zip ls).map fun p => (keyE p.1, litE p.2)) σ H Q
  | [], [], _, h => h
  | k :: ks, l :: ls, hl, h => by
    rw [List.zip_cons_cons, List.map_cons]
    show tPairs _ σ H fun ps H3 => Q ((kV k, l.v) :: ps) H3
    exact pairs_lit ks ls (by simpa using hl) h
  | [], _ :: _, h, _ => by simp at h
  | _ :: _, [], h, _ => by simp at h
theorem merge_new : ∀ (kvs acc : List (Key × V)), ((acc ++ kvs).map (·.1)).Nodup → mergeK acc kvs = acc ++ kvs
  | [], acc, _ => (List.append_nil acc).symm
  | kv :: kvs, acc, h => by
    have hn : valV acc kv.1 = none := by
      cases e : valV acc kv.1 with
      | none => rfl
      | some v =>
        have hm := valV_in e
        rw [List.map_append, List.nodup_append] at h
        exact absurd rfl (h.2.2 _ hm kv.1 (by simp))
    show mergeK (putK acc kv.1 kv.2) kvs = _
    rw [putK_new _ hn, merge_new kvs (acc ++ [kv]) (by rw [List.append_assoc]; exact h), List.append_assoc]
    rfl
theorem lits_rp {c : Cf} : ∀ ls : List Lit, c.RpAll Γ (ls.map Lit.v) (ls.map Lit.w)
  | [] => .nil
  | l :: ls => .cons l.rp (lits_rp ls)
theorem fe_dl {own : Bool} {keys : List (Option Expr)} {values : List Expr} {ks : List Key} {ls : List Lit} {pos : Pos} (h : PPs X pos keys values ((ks.zip ls).map fun p => (keyE p.1, litE p.2))) (hl : ks.length = ls.length) (hn : ks.Nodup) (h15 : ks.length ≤ 15)
    (ha : keys.all (·.isSome) = true) (hk : keys.length = values.length) (h0 : keys ≠ []) (hz : keys.length ≤ 15) : PE X (.Dict keys values pos) (absE Γ Z (gDL own ks ls)) := PE.imp (pe_disp h ha hk h0 hz) fun σ H Q ⟨c, ρ, e, s, en, th⟩ p hp => by
  subst e
  refine pairs_lit ks ls hl ⟨upd_same, ks.zip (ls.map Lit.v), rfl, by rw [List.length_zip, List.length_map]; omega, ?_⟩
  rw [merge_new _ [] (by rw [List.nil_append, zip_fst ks ls hl]; exact hn), List.nil_append, upd_upd]
  refine mkD_ok s (by rw [List.length_map]; exact hl) ?_ th hp
  exact lits_rp ls
theorem pk_int {i : Int} {j : Nat} {pos : Pos} : PE X (.Constant (.int i) j pos) (keyE (.inl i)) := pe_int
theorem pk_str {x : Str} {j : Nat} {pos : Pos} : PE X (.Constant (.str x) j pos) (keyE (.inr x)) := pe_str
theorem pl_int {i : Int} {j : Nat} {pos : Pos} : PE X (.Constant (.int i) j pos) (litE (.int i)) := pe_int
theorem pl_str {x : Str} {j : Nat} {pos : Pos} : PE X (.Constant (.str x) j pos) (litE (.str x)) := pe_str
theorem pl_bl {b : Bool} {j : Nat} {pos : Pos} : PE X (.Constant (.bool b) j pos) (litE (.bl b)) := pe_bl
theorem pl_non {j : Nat} {pos : Pos} : PE X (.Constant .none j pos) (litE .non) := pe_non
/-! ### d[k] = v -/
def putW (ks : List Key) (ws : List W) (k : Key) (v : W) : List Key × List W :=
  if (ks.any fun j => decide (j = k)) = true then (ks, (ks.zip ws).map fun p => if p.1 = k then v else p.2) else (ks ++ [k], ws ++ [v])
theorem zip_any : ∀ (ks : List Key) (xs : List V) (k : Key), ks.length = xs.length → ((ks.zip xs).any fun kv => decide (kv.1 = k)) = ks.any fun j => decide (j = k)
  | [], _, _, _ => rfl
  | j :: ks, x :: xs, k, h => by rw [List.zip_cons_cons, List.any_cons, List.any_cons, zip_any ks xs k (by simpa using h)]
  | _ :: _, [], _, h => by simp at h
theorem zip_set : ∀ (ks : List Key) (xs : List V) (k : Key) (v : V), ks.length = xs.length → ((ks.zip xs).map fun kv => if kv.1 = k then (kv.1, v) else kv) = ks.zip ((ks.zip xs).map fun p => if p.1 = k then v else p.2)
  | [], _, _, _, _ => rfl
  | j :: ks, x :: xs, k, v, h => by
    rw [List.zip_cons_cons, List.map_cons, List.map_cons, List.zip_cons_cons, zip_set ks xs k v (by simpa using h)]
    congr 1
    simp only
    split <;> rfl
  | _ :: _, [], _, _, h => by simp at h
theorem zip_rp {c : Cf} {v : V} {w : W} (h : c.Rp Γ v w) (k : Key) : ∀ (ks : List Key) {xs : List V} {ws : List W}, c.RpAll Γ xs ws → c.RpAll Γ ((ks.zip xs).map fun p => if p.1 = k then v else p.2) ((ks.zip ws).map fun p => if p.1 = k then w else p.2)
  | [], _, _, _ => .nil
  | _ :: _, _, _, .nil => .nil
  | j :: ks, _, _, .cons a b => by
    rw [List.zip_cons_cons, List.zip_cons_cons, List.map_cons, List.map_cons]
    refine .cons ?_ (zip_rp h k ks b)
    simp only
    split
    · exact h
    · exact a
theorem put_zip {c : Cf} {ks : List Key} {xs : List V} {ws : List W} {k : Key} {v : V} {w : W} (hl : ks.length = xs.length) (r : c.RpAll Γ xs ws) (h : c.Rp Γ v w) :
    ∃ ys, putK (ks.zip xs) k v = (putW ks ws k w).1.zip ys ∧ (putW ks ws k w).1.length = ys.length ∧ c.RpAll Γ ys (putW ks ws k w).2 := by
  unfold putK putW
  rw [zip_any ks xs k hl]
  split
  · exact ⟨_, zip_set ks xs k v hl, by rw [List.length_map, List.length_zip]; show ks.length = _; omega, zip_rp h k ks r⟩
  · exact ⟨xs ++ [v], by rw [List.zip_append hl]; rfl, by rw [List.length_append, List.length_append, hl]; rfl, r.append (.cons h .nil)⟩
def fSetX (o i v : W) (G : GH) : Option GH := match o with
  | .ref n => match G.at_ n with
    | some (.dic ks ws) => match keyW i with
      | some k => if ks.length < sizeLine then some (G.set n (.dic (putW ks ws k v).1 (putW ks ws k v).2)) else none
      | none => none
    | _ => fSet o i v G
  | _ => fSet o i v G
def gSetX (gv go gi : FE) : FS := fun ρ G => (gv ρ G).thn ρ fun v G1 => (go ρ G1).thn ρ fun o G2 => (gi ρ G2).thn ρ fun i G3 => match fSetX o i v G3 with
  | some G4 => .nx ρ G4
  | none => .no
def rSetX : TSet := fun o i v H Q => rSetL o i v H Q ∨ rSetD o i v H Q
theorem set_X (hu : X.A.units + 1 < cLine) : PSet X rSetX := fun pins s σ H o i v ov iv u Q I ro ri rv h => h.elim (set_list pins s σ H o i v ov iv u Q I ro ri rv) (set_dict hu pins s σ H o i v ov iv u Q I ro ri rv)
theorem setX_ok {c : Cf} {o i v : V} {wo wi wv : W} {G4 : GH} (s : SR Γ c) (ro : c.Rp Γ o wo) (ri : c.Rp Γ i wi) (rv : c.Rp Γ v wv) (e : fSetX wo wi wv c.G = some G4) {Q : Hp → Prop}
    (h : ∀ c', Stp c c' → SR Γ c' → c'.G = G4 → Q c'.H) : rSetX o i v c.H Q := by
  cases ro with
  | @ref n a hn =>
    unfold fSetX at e
    simp only at e
    cases q : c.G.at_ n with
    | none => rw [q] at e; exact .inl (set_ok s (.ref hn) ri rv e h)
    | some ob =>
      obtain ⟨b, ho, e1, e2, r⟩ := s.obj n ob q
      rw [hn] at e1; cases e1
      cases r with
      | lst r => rw [q] at e; exact .inl (set_ok s (.ref hn) ri rv e h)
      | ins _ _ => rw [q] at e; exact .inl (set_ok s (.ref hn) ri rv e h)
      | @dic ks xs ws hl r =>
        rw [q] at e
        simp only at e
        cases ek : keyW wi with
        | none => rw [ek] at e; cases e
        | some k =>
          rw [ek] at e
          simp only at e
          split at e
          · rename_i lt
            cases e
            obtain ⟨ys, ez, ly, ry⟩ := put_zip (k := k) hl r rv
            obtain ⟨st, s'⟩ := upd_own (ho := .dK ((putW ks ws k wv).1.zip ys)) s q hn (.dic ly ry)
            exact .inr ⟨a, _, rfl, by
              have := keyW_ok ri ek
              subst this
              rw [← ez]
              exact DPut.k e2 (by rw [List.length_zip]; omega), h _ st s' rfl⟩
          · cases e
  | _ => unfold fSetX fSet at e; cases wi <;> cases e
theorem fs_setX {o i e : Expr} {gv go gi : FE} {p2 pos : Pos} (hu : X.A.units + 64 < cLine) (he : PE X e (absE Γ Z gv)) (ho : PE X o (absE Γ Z go)) (hi : PE X i (absE Γ Z gi))
    (ha : ∀ v, assign (.Subscript o i p2) X.env v = (do
      let ov ← holding [v] (eval o X.env)
      let iv ← holding [v, ov] (eval i X.env)
      standAt p2
      holding [v, ov, iv] (setItem ov iv v)
      release [v, ov, iv] []) := by intro _; rfl) (hs : swapsWithSole [.Subscript o i p2] e pos.line X.env = pure false := by rfl) (hw : swappedStores [.Subscript o i p2] e X.env = pure none := by rfl)
    (h1 : (assignEach [.Subscript o i p2] X.env).map (·.2) = [assign (.Subscript o i p2) X.env] := by rfl) : PS X (.Assign [.Subscript o i p2] e pos) (absS Γ Z (gSetX gv go gi)) :=
  PS.imp (ps_asg he (pg_sub ho hi (set_X (by omega)) ha) hs hw h1) fun D σ H q => by
    obtain ⟨c, ρ, e, s, en, th⟩ := absS.bind (rel := Cf.Rp Γ) q
    refine ⟨c, ρ, e, s, en, Th.mono th fun v c1 st ⟨c2, ρ2, a, e2, s2, en2, ra, q⟩ => ?_⟩
    refine ⟨c2, ρ2, e2, s2, en2, Th.mono (ThS.bind s2 en2 q) fun ov c3 st3 ⟨c4, b, e4, st4, s4, en4, rb, q4⟩ => ?_⟩
    refine ⟨c4, ρ2, e4, s4, en4, Th.mono (ThS.bind s4 en4 q4) fun iv c5 st5 ⟨c6, b6, e6, st6, s6, en6, rb6, q6⟩ => ?_⟩
    rw [← e6]
    cases k : fSetX b b6 a c6.G with
    | none => simp only [k] at q6; exact q6.elim
    | some G4 =>
      simp only [k] at q6
      exact setX_ok s6 (st6.rp s4 rb) rb6 (st6.rp s4 (st4.rp s2 ra)) k fun c' st' s' e' => q6 c' σ st' s' e' (st'.en s6 en6)
/-! ### list(d), sorted(d), len(d), sorted(l) -/
def keyV : Key → W
  | .inl i => .int i
  | .inr x => .str x
theorem keys_rp {c : Cf} : ∀ (ks : List Key) (xs : List V), ks.length = xs.length → c.RpAll Γ ((ks.zip xs).map fun kv => kV kv.1) (ks.map keyV)
  | [], _, _ => .nil
  | .inl i :: ks, x :: xs, h => .cons (.int i) (keys_rp ks xs (by simpa using h))
  | .inr i :: ks, x :: xs, h => .cons (.str i) (keys_rp ks xs (by simpa using h))
  | _ :: _, [], h => by simp at h
/-- an owned dict -/
def dow (G : GH) : W → Option (List Key × List W)
  | .ref n => match G.at_ n with
    | some (.dic ks ws) => some (ks, ws)
    | _ => none
  | _ => none
theorem dow_ok {c : Cf} (s : SR Γ c) {v : V} {w : W} {ks : List Key} {ws : List W} (r : c.Rp Γ v w) (h : dow c.G w = some (ks, ws)) : ∃ a xs, v = .ref a ∧ ks.length = xs.length ∧ c.RpAll Γ xs ws ∧ c.H a = some (.dK (ks.zip xs)) := by
  cases r with
  | @ref n a hn =>
    unfold dow at h
    simp only at h
    cases q : c.G.at_ n with
    | none => simp [q] at h
    | some ob =>
      obtain ⟨b, ho, e1, e2, r⟩ := s.obj n ob q
      rw [hn] at e1; cases e1
      cases r with
      | lst _ => simp [q] at h
      | ins _ _ => simp [q] at h
      | dic hl r => simp only [q, Option.some.injEq, Prod.mk.injEq] at h; obtain ⟨rfl, rfl⟩ := h; exact ⟨_, _, rfl, hl, r, e2⟩
  | _ => cases h
def cListD (own : Bool) : FC := fun ws G => match ws with
  | [w] => match dow G w with
    | some (ks, _) => mkL own (ks.map keyV) G
    | none => .no
  | _ => .no
theorem cf_listD {own : Bool} (hc : X.calm = true) : CallF X Γ (.type "list") (cListD own) := ⟨_, call_listD hc, fun c vs ws Q E s ra h => by
  unfold cListD at h
  split at h
  · obtain ⟨v, rfl, r⟩ := RpAll.one (c := c) ra
    split at h
    · obtain ⟨a, xs, rfl, hl, rx, e⟩ := dow_ok s r (by assumption)
      exact ⟨a, _, rfl, .inl e, fun p hp => mkL_ok s (keys_rp _ _ hl) h hp⟩
    · exact h.elim
  · exact h.elim⟩
def cLenD : FC := fun ws G => match ws with
  | [w] => match dow G w with
    | some (ks, _) => .ok (.int ks.length) G
    | none => .no
  | _ => .no
theorem cf_lenD : CallF X Γ (.builtin "len") cLenD := ⟨_, call_lenD, fun c vs ws Q E s ra h => by
  unfold cLenD at h
  split at h
  · obtain ⟨v, rfl, r⟩ := RpAll.one (c := c) ra
    split at h
    · rename_i ks _ ed
      obtain ⟨a, xs, rfl, hl, rx, e⟩ := dow_ok s r ed
      refine ⟨a, _, rfl, e, ?_⟩
      rw [show (ks.zip xs).length = ks.length by rw [List.length_zip]; omega]
      exact h.pure s (.int _)
    · exact h.elim
  · exact h.elim⟩
/-- in order -/
def insI (i : Int) : List Int → List Int
  | [] => [i]
  | j :: l => if i ≤ j then i :: j :: l else j :: insI i l
def sortI : List Int → List Int
  | [] => []
  | i :: l => insI i (sortI l)
theorem insI_perm (i : Int) : ∀ l : List Int, (insI i l).Perm (i :: l)
  | [] => .refl _
  | j :: l => by
    unfold insI
    split
    · exact .refl _
    · exact (List.Perm.cons j (insI_perm i l)).trans (List.Perm.swap i j l)
theorem sortI_perm : ∀ l : List Int, (sortI l).Perm l
  | [] => .refl _
  | i :: l => (insI_perm i (sortI l)).trans (List.Perm.cons i (sortI_perm l))
theorem insI_sorted (i : Int) : ∀ l : List Int, l.Pairwise (· ≤ ·) → (insI i l).Pairwise (· ≤ ·)
  | [], _ => List.pairwise_singleton _ _
  | j :: l, h => by
    rw [List.pairwise_cons] at h
    unfold insI
    split
    · rename_i c
      rw [List.pairwise_cons]
      refine ⟨fun x m => ?_, List.pairwise_cons.mpr h⟩
      rcases List.mem_cons.mp m with rfl | m
      · exact c
      · have := h.1 x m; omega
    · rename_i c
      rw [List.pairwise_cons]
      refine ⟨fun x m => ?_, insI_sorted i l h.2⟩
      rcases List.mem_cons.mp ((insI_perm i l).mem_iff.mp m) with rfl | m
      · omega
      · exact h.1 x m
theorem sortI_sorted : ∀ l : List Int, (sortI l).Pairwise (· ≤ ·)
  | [] => List.Pairwise.nil
  | i :: l => insI_sorted i _ (sortI_sorted l)
theorem sortI_of {l l' : List Int} (p : l'.Perm l) (h : l'.Pairwise (· ≤ ·)) : l' = sortI l :=
  List.Perm.eq_of_pairwise (fun a b _ _ x y => Int.le_antisymm x y) h (sortI_sorted l) (p.trans (sortI_perm l).symm)
def intKs : List Key → Option (List Int)
  | [] => some []
  | .inl i :: ks => (intKs ks).map (i :: ·)
  | .inr _ :: _ => none
theorem intKs_ok : ∀ {ks : List Key} {is : List Int}, intKs ks = some is → ks = is.map .inl
  | [], is, h => by cases h; rfl
  | .inl i :: ks, is, h => by
    obtain ⟨l, e, rfl⟩ := Option.map_eq_some_iff.mp h
    rw [intKs_ok e]; rfl
  | .inr _ :: _, _, h => by cases h
theorem intKs_map : ∀ is : List Int, intKs (is.map .inl) = some is
  | [] => rfl
  | i :: is => by rw [List.map_cons, intKs, intKs_map is]; rfl
theorem ints_rp {c : Cf} : ∀ l : List Int, c.RpAll Γ (l.map V.int) (l.map W.int)
  | [] => .nil
  | i :: l => .cons (.int i) (ints_rp l)
def cSortD (own : Bool) : FC := fun ws G => match ws with
  | [w] => match dow G w with
    | some (ks, _) => match intKs ks with
      | some is => if is.length < 64 then mkL own ((sortI is).map .int) G else .no
      | none => .no
    | none => .no
  | _ => .no
theorem cf_sortD {own : Bool} (hc : X.calm = true) : CallF X Γ (.builtin "sorted") (cSortD own) := ⟨_, call_sortedDI hc, fun c vs ws Q E s ra h => by
  unfold cSortD at h
  split at h
  · obtain ⟨v, rfl, r⟩ := RpAll.one (c := c) ra
    split at h
    · rename_i ks _ ed
      obtain ⟨a, xs, rfl, hl, rx, e⟩ := dow_ok s r ed
      split at h
      · rename_i is ei
        split at h
        · rename_i lt
          have ek := intKs_ok ei
          refine ⟨a, _, is, rfl, .inl e, ?_, lt, fun ys p py sy hp => ?_⟩
          · rw [List.map_fst_zip (by omega)]; exact ek
          · rw [sortI_of py sy]
            exact mkL_ok s (ints_rp _) h hp
        · exact h.elim
      · exact h.elim
    · exact h.elim
  · exact h.elim⟩
def cSortL (own : Bool) : FC := fun ws G => match ws with
  | [w] => match lsq G w with
    | some us => match intsOf us with
      | some is => mkL own ((sortI is).map .int) G
      | none => .no
    | none => .no
  | _ => .no
theorem ints_v {c : Cf} : ∀ {is : List Int} {xs : List V}, c.RpAll Γ xs (is.map W.int) → xs = is.map V.int
  | [], _, .nil => rfl
  | i :: is, _, .cons a b => by
    cases a
    rw [ints_v b]; rfl
theorem cf_sortL {own : Bool} (hK : Γ.K = X.K := by rfl) : CallF X Γ (.builtin "sorted") (cSortL own) := ⟨_, cr_sortedI, fun c vs ws Q E s ra h => by
  unfold cSortL at h
  split at h
  · obtain ⟨v, rfl, r⟩ := RpAll.one (c := c) ra
    split at h
    · rename_i us eu
      obtain ⟨a, xs, rfl, hq, rx⟩ := lsq_ok s eu r
      split at h
      · rename_i is ei
        have := intsOf_eq ei
        subst this
        have := ints_v rx
        subst this
        refine ⟨a, is, rfl, hK ▸ hq, fun ys p py sy hp => ?_⟩
        rw [sortI_of py sy]
        exact mkL_ok s (ints_rp _) h hp
      · exact h.elim
    · exact h.elim
  · exact h.elim⟩
end
end Fn

set_option Elab.async false
set_option linter.all false
set_option maxRecDepth 100000
namespace Fn
open PySem PySem.Spec PyProof.Rows L2

/-- what the law promises -/
def spLaw (K : PySem.W.Frag) : Sp := fun vs H Q _ => ∃ (a : Addr) (ns : List Int), vs = [.ref a] ∧ SqL K H a (ns.map V.int) ∧ ns.length ≤ 63 ∧ ∀ H', Q (.bl true) H'
def G0 : GH := ⟨0, fun _ => none⟩
theorem ints_all {Γ : Gm} {c : Cf} : ∀ ns : List Int, c.RpAll Γ (ns.map V.int) (ns.map W.int)
  | [] => .nil
  | n :: ns => .cons (.int n) (ints_all ns)
theorem law_end {K : PySem.W.Frag} {cls : Nat → Addr} {w : World} {F : FC} (hF : ∀ ns : List Int, ns.length ≤ 63 → ∃ G, F [.lst (ns.map W.int)] G0 = .ok (.bl true) G) (vs : List V) (H : Hp) (Q : VK) (E : XK) (h : spLaw K vs H Q E) : absF ⟨K, cls, w⟩ 1 F vs H Q E := by
  obtain ⟨a, ns, rfl, hS, hl, q⟩ := h
  obtain ⟨G, e⟩ := hF ns hl
  have no : ¬ (⟨[], G0, H, fun _ => False⟩ : Cf).O a := fun z => by
    rcases z with ⟨n, o, z, _⟩ | z
    · cases z
    · exact z
  refine ⟨rfl, ⟨[], G0, H, fun _ => False⟩, [.lst (ns.map W.int)], rfl, ⟨rfl, .nil, fun b z => absurd z (by simp), fun n o z => (by cases z), fun b z => z.elim⟩, .cons ?_ .nil, ?_⟩
  · rcases hS with hS | ⟨o, its, n, h1, h2, h3, h4, h5, h6⟩
    · exact .lst hS no (ints_all ns)
    · exact .lstK h1 h2 h3 h4 h5 h6 (ints_all ns)
  · rw [e]
    intro c' v st s e r
    cases r
    exact q _
theorem law_binds {K : PySem.W.Frag} {st : Stmt} {f : Addr} {fd : FuncData} (F : Fun K "law" "law" st f fd) (h : ∀ (kV doc pm : Value) (an : Option Addr) (cdv ct : Value) (v : Value), bindArgs (PySem.W.fnOf "law" "law" (defArgs st) (defBody st) (defScope st) .none kV doc pm an cdv ct) ⟨[v], []⟩ = pure [(("script" : Str), v)]) (s : Shared) (v : Value) : BindsTo s fd ⟨[v], []⟩ [("script", v)] := by
  obtain ⟨oc, od, kV, doc, pm, an, cdv, ct, osl, e, lk, hcd⟩ := F.ex
  rw [e]
  exact .of_eq (h kV doc pm an cdv ct v)
end Fn

set_option Elab.async false
set_option linter.all false
set_option maxRecDepth 100000
namespace Fn
open PySem PySem.Spec PyProof.Rows L2
/-! ### the functions, evaluated -/
section
variable {α β : Type} {ρ : En} {G : GH} {w : W}
@[simp] theorem bind_ok (a : α) (G : GH) (f : α → GH → R β) : (R.ok a G).bind f = f a G := rfl
@[simp] theorem bind_no (f : α → GH → R β) : (R.no : R α).bind f = .no := rfl
@[simp] theorem bind_ex (x : Xn) (G : GH) (f : α → GH → R β) : (R.ex x G : R α).bind f = .ex x G := rfl
@[simp] theorem thn_ok (a : α) (G : GH) (f : α → GH → RS) : (R.ok a G).thn ρ f = f a G := rfl
@[simp] theorem thn_no (f : α → GH → RS) : (R.no : R α).thn ρ f = .no := rfl
@[simp] theorem seq_nx (f : En → GH → RS) : (RS.nx ρ G).seq f = f ρ G := rfl
@[simp] theorem seq_rt (f : En → GH → RS) : (RS.rt w G).seq f = .rt w G := rfl
@[simp] theorem seq_bk (f : En → GH → RS) : (RS.bk ρ G).seq f = .bk ρ G := rfl
@[simp] theorem seq_ct (f : En → GH → RS) : (RS.ct ρ G).seq f = .ct ρ G := rfl
@[simp] theorem seq_no (f : En → GH → RS) : RS.no.seq f = .no := rfl
@[simp] theorem calm_ok (a : α) (G : GH) : (R.ok a G).calm = .ok a G := rfl
@[simp] theorem fin_rt : (RS.rt w G).fin = .ok w G := rfl
@[simp] theorem fin_nx : (RS.nx ρ G).fin = .ok .non G := rfl
theorem thn_ite {c : Prop} [Decidable c] (a b : R α) (f : α → GH → RS) : (if c then a else b).thn ρ f = if c then a.thn ρ f else b.thn ρ f := by split <;> rfl
theorem bind_ite {c : Prop} [Decidable c] (a b : R α) (f : α → GH → R β) : (if c then a else b).bind f = if c then a.bind f else b.bind f := by split <;> rfl
theorem seq_ite {c : Prop} [Decidable c] (a b : RS) (f : En → GH → RS) : (if c then a else b).seq f = if c then a.seq f else b.seq f := by split <;> rfl

@[simp] theorem gSeq_ev (a b : FS) : gSeq a b ρ G = (a ρ G).seq b := by unfold gSeq; rfl
@[simp] theorem gNext_ev : gNext ρ G = .nx ρ G := rfl
@[simp] theorem gRet_ev (g : FE) : gRet g ρ G = (g ρ G).thn ρ fun w G1 => .rt w G1 := rfl
@[simp] theorem gRetN_ev : gRetN ρ G = .rt .non G := rfl
@[simp] theorem gDrop_ev (g : FE) : gDrop g ρ G = (g ρ G).thn ρ fun _ G1 => .nx ρ G1 := rfl
@[simp] theorem gIfS_ev (t : FT) (a b : FS) : gIfS t a b ρ G = (t ρ G).thn ρ fun k G1 => if k then a ρ G1 else b ρ G1 := rfl
@[simp] theorem gAsg_ev (g : FE) (t : FG1) : gAsg g t ρ G = (g ρ G).thn ρ fun w G1 => match t w ρ G1 with
  | some (ρ', G') => .nx ρ' G'
  | none => .no := rfl
@[simp] theorem tgName_ev (i : Nat) : tgName i w ρ G = some (ρ.set i (some w), G) := rfl
@[simp] theorem tgTup_ev (n : Nat) (r : FGs) (ws : List W) : tgTup n r (.tup ws) ρ G = if ws.length = n then r ws ρ G else none := rfl
@[simp] theorem tgCons_ev (g : FG1) (r : FGs) (ws : List W) : tgCons g r (w :: ws) ρ G = match g w ρ G with
  | some (ρ', G') => r ws ρ' G'
  | none => none := rfl
@[simp] theorem tgNil_ev : tgNil [] ρ G = some (ρ, G) := rfl
@[simp] theorem gSet_ev (gv go gi : FE) : gSet gv go gi ρ G = (gv ρ G).thn ρ fun v G1 => (go ρ G1).thn ρ fun o G2 => (gi ρ G2).thn ρ fun i G3 => match fSet o i v G3 with
  | some G4 => .nx ρ G4
  | none => .no := rfl
@[simp] theorem gVar_ev {i : Nat} (h : ρ[i]? = some (some w)) : gVar i ρ G = .ok w G := by unfold gVar; rw [h]
@[simp] theorem gC_ev : gC w ρ G = .ok w G := rfl
@[simp] theorem gOp_ev (f : F2) (a b : FE) : gOp f a b ρ G = (a ρ G).bind fun x G1 => (b ρ G1).bind fun y G2 => f x y G2 := rfl
@[simp] theorem gTest_ev (g : FE) : gTest g ρ G = (g ρ G).bind asB := rfl
@[simp] theorem asB_ev (b : Bool) : asB (.bl b) G = .ok b G := rfl
@[simp] theorem gTru_ev (g : FE) : gTru g ρ G = (g ρ G).bind asTru := rfl
@[simp] theorem gNotT_ev (g : FT) : gNotT g ρ G = (g ρ G).bind fun b G => .ok (!b) G := rfl
@[simp] theorem gAndT_ev (a b : FT) : gAndT a b ρ G = (a ρ G).bind fun k G => if k then b ρ G else .ok false G := rfl
@[simp] theorem gOrT_ev (a b : FT) : gOrT a b ρ G = (a ρ G).bind fun k G => if k then .ok true G else b ρ G := rfl
@[simp] theorem gIf_ev (t : FT) (a b : FE) : gIf t a b ρ G = (t ρ G).bind fun k G => if k then a ρ G else b ρ G := rfl
@[simp] theorem gNil_ev : gNil ρ G = .ok [] G := rfl
@[simp] theorem gCons_ev (g : FE) (r : FA) : gCons g r ρ G = (g ρ G).bind fun w G1 => (r ρ G1).bind fun ws G2 => .ok (w :: ws) G2 := rfl
@[simp] theorem gCall_ev (g : FC) (a : FA) : gCall g a ρ G = (a ρ G).bind g := rfl
@[simp] theorem gAnd_ev (a b : FE) : gAnd a b ρ G = (a ρ G).bind fun x G1 => match truW G1 x with
  | some true => b ρ G1
  | some false => .ok x G1
  | none => .no := rfl
@[simp] theorem gOr_ev (a b : FE) : gOr a b ρ G = (a ρ G).bind fun x G1 => match truW G1 x with
  | some true => .ok x G1
  | some false => b ρ G1
  | none => .no := rfl
@[simp] theorem gNot_ev (a : FE) : gNot a ρ G = (a ρ G).bind fun x G1 => match truW G1 x with
  | some b => .ok (.bl (!b)) G1
  | none => .no := rfl
@[simp] theorem gNeg_ev (g : FE) : gNeg g ρ G = (g ρ G).bind fun a G1 => match a with
  | .int i => .ok (.int (-i)) G1
  | _ => .no := rfl
theorem len_le (n : Nat) (h : n ≤ 16777216 := by decide) : n ≤ sizeLine := by rw [sizeLine_eq]; exact h
@[simp] theorem gTup_ev (g : FA) : gTup g ρ G = (g ρ G).bind fun ws G1 => if ws.length ≤ sizeLine then .ok (.tup ws) G1 else .no := rfl
@[simp] theorem gLst_ev (o : Bool) (g : FA) : gLst o g ρ G = (g ρ G).bind fun ws G1 => if ws.length ≤ sizeLine then mkL o ws G1 else .no := rfl
@[simp] theorem mkL_true (ws : List W) : mkL true ws G = .ok (.ref G.n) (G.push (.lst ws)) := rfl
@[simp] theorem mkL_false (ws : List W) : mkL false ws G = .ok (.lst ws) G := rfl
@[simp] theorem cFn_ev {n : Nat} {F : FC} {ws : List W} (h : ws.length = n) : cFn n F ws G = (F ws G).calm := by unfold cFn; rw [if_pos h]
@[simp] theorem gFrz_ev (g : FE) : gFrz g ρ G = (g ρ G).bind frz := rfl
@[simp] theorem gSl_ev (o : Bool) (g : FE) (l h : FO) : gSl o g l h ρ G = (g ρ G).bind fun w G1 => (l ρ G1).bind fun i G2 => (h ρ G2).bind fun j G3 => fSl o w i j G3 := rfl
@[simp] theorem gNoPart_ev : gNoPart ρ G = .ok none G := rfl
@[simp] theorem gPart_ev (g : FE) : gPart g ρ G = (g ρ G).bind fun w G1 => match w with
  | .int i => .ok (some i) G1
  | _ => .no := rfl
@[simp] theorem gPar_ev (i j : Nat) (a : FA) : gPar i j a ρ G = (a ρ G).thn ρ fun ws G1 => match ws with
  | [a, b] => .nx ((ρ.set i (some a)).set j (some b)) G1
  | _ => .no := rfl
@[simp] theorem gFor_ev (gi : FI) (t : FG1) (b : FS) : gFor gi t b ρ G = (gi ρ G).thn ρ fun k G1 => forW t b k ρ G1 := rfl
@[simp] theorem forW_vals (t : FG1) (b : FS) (ws : List W) : forW t b (.vals ws) ρ G = forF t b ws ρ G := rfl
@[simp] theorem forW_own (t : FG1) (b : FS) (n : Nat) : forW t b (.own n) ρ G = forO n t b (lenO G n) 0 ρ G := rfl
@[simp] theorem iSeq_ev (g : FE) : iSeq g ρ G = (g ρ G).bind asSeq := rfl
@[simp] theorem asSeq_l (ws : List W) : asSeq (.lst ws) G = .ok (.vals ws) G := rfl
@[simp] theorem asSeq_t (ws : List W) : asSeq (.tup ws) G = .ok (.vals ws) G := rfl
@[simp] theorem iRng_ev (f : List W → GH → R Wk) (g : FA) : iRng f g ρ G = (g ρ G).bind f := rfl
theorem iteB {γ : Type} {b : Bool} {x y : γ} : (if b = true then x else y) = bif b then x else y := by cases b <;> rfl

/-! ### operators -/
@[simp] theorem fAdd_i (o : Bool) (i j : Int) : fAddL o (.int i) (.int j) G = .ok (.int (i + j)) G := rfl
@[simp] theorem fSub_i (i j : Int) : fSub (.int i) (.int j) G = .ok (.int (i - j)) G := rfl
@[simp] theorem fLt_i (i j : Int) : fLt (.int i) (.int j) G = .ok (.bl (decide (i < j))) G := rfl
@[simp] theorem fLe_i (i j : Int) : fLe (.int i) (.int j) G = .ok (.bl (decide (i ≤ j))) G := rfl
@[simp] theorem fGt_i (i j : Int) : fGt (.int i) (.int j) G = .ok (.bl (decide (j < i))) G := rfl
@[simp] theorem fGe_i (i j : Int) : fGe (.int i) (.int j) G = .ok (.bl (decide (j ≤ i))) G := rfl
theorem fMul_i {i j : Int} (h : (-(2 ^ 64) < i ∧ i < 2 ^ 64) ∨ (-(2 ^ 64) < j ∧ j < 2 ^ 64)) : fMul (.int i) (.int j) G = .ok (.int (i * j)) G := by
  unfold fMul
  simp only
  rw [if_pos]
  rcases h with h | h
  · exact .inl h
  · exact .inr (.inl h)
theorem fDiv_i {i j : Int} (h : 0 < j) (h2 : j.natAbs.log2 < 9000) : fDiv (.int i) (.int j) G = .ok (.int (i / j)) G := by
  unfold fDiv
  simp only
  rw [if_pos ⟨h, h2⟩]
theorem fMod_i {i j : Int} (h : 0 < j) : fMod (.int i) (.int j) G = .ok (.int (i % j)) G := by
  unfold fMod
  simp only
  rw [if_pos h]
@[simp] theorem fPow_i (i j : Int) : fPow (.int i) (.int j) G = if 0 ≤ j ∧ j ≤ 1000000 ∧ i.natAbs < 2 ^ 64 then .ok (.int (i ^ j.toNat)) G else .no := rfl
@[simp] theorem cInt_i (i : Int) : cInt [.int i] G = .ok (.int i) G := rfl
@[simp] theorem cInt_b (b : Bool) : cInt [.bl b] G = .ok (.int (if b then 1 else 0)) G := rfl
@[simp] theorem set_same {n : Nat} {o : AO} : (G.set n o).at_ n = some o := by simp [GH.set]
@[simp] theorem set_n {n : Nat} {o : AO} : (G.set n o).n = G.n := rfl
theorem set_ne {m n : Nat} {o : AO} (h : m ≠ n) : (G.set n o).at_ m = G.at_ m := by simp [GH.set, h]
@[simp] theorem set_set {n : Nat} {o u : AO} : (G.set n o).set n u = G.set n u := by
  unfold GH.set
  congr 1
  funext j
  simp only
  split <;> rfl
theorem set_self {n : Nat} {o : AO} (h : G.at_ n = some o) : G.set n o = G := by
  unfold GH.set
  cases G with
  | mk k f =>
    congr 1
    funext j
    simp only
    split
    · rename_i e; subst e; exact h.symm
    · rfl
@[simp] theorem push_same {o : AO} : (G.push o).at_ G.n = some o := by simp [GH.push]
theorem push_ne {m : Nat} {o : AO} (h : m ≠ G.n) : (G.push o).at_ m = G.at_ m := by simp [GH.push, h]
@[simp] theorem push_n {o : AO} : (G.push o).n = G.n + 1 := rfl
section
variable {a b c d e f : α} {l : List α}
@[simp] theorem atI_0 : L2.atI (a :: l) 0 = some a := L2.atI_nat (j := 0) rfl
@[simp] theorem atI_1 : L2.atI (a :: b :: l) 1 = some b := L2.atI_nat (j := 1) rfl
@[simp] theorem atI_2 : L2.atI (a :: b :: c :: l) 2 = some c := L2.atI_nat (j := 2) rfl
@[simp] theorem atI_3 : L2.atI (a :: b :: c :: d :: l) 3 = some d := L2.atI_nat (j := 3) rfl
@[simp] theorem atI_4 : L2.atI (a :: b :: c :: d :: e :: l) 4 = some e := L2.atI_nat (j := 4) rfl
@[simp] theorem atI_5 : L2.atI (a :: b :: c :: d :: e :: f :: l) 5 = some f := L2.atI_nat (j := 5) rfl
end
theorem atI_at {l : List α} {i : Int} {x : α} (h0 : 0 ≤ i) (h : l[i.toNat]? = some x) : L2.atI l i = some x := by
  have := L2.atI_nat h
  rwa [Int.toNat_of_nonneg h0] at this
def optR (o : Option W) (G : GH) : R W := match o with
  | some w => .ok w G
  | none => .no
@[simp] theorem optR_some : optR (some w) G = .ok w G := rfl
@[simp] theorem fIx_ref (n : Nat) (i : Int) : fIx (.ref n) (.int i) G = match G.at_ n with
  | some (.lst ws) => optR (L2.atI ws i) G
  | _ => .no := by
  show (match sqs G (.ref n) with | some ws => (match L2.atI ws i with | some w => R.ok w G | none => .no) | none => .no) = _
  have e : sqs G (.ref n) = lsq G (.ref n) := by unfold sqs; rfl
  rw [e]
  unfold lsq
  simp only
  cases h : G.at_ n with
  | none => rfl
  | some o => cases o <;> rfl
@[simp] theorem fIx_tup (ws : List W) (i : Int) : fIx (.tup ws) (.int i) G = optR (L2.atI ws i) G := rfl
@[simp] theorem fIx_lst (ws : List W) (i : Int) : fIx (.lst ws) (.int i) G = optR (L2.atI ws i) G := rfl
theorem fSet_ref {n j : Nat} {ws : List W} {k : Int} {v : W} (h : G.at_ n = some (.lst ws)) (e : L2.ixN ws.length k = some j) : fSet (.ref n) (.int k) v G = some (G.set n (.lst (ws.set j v))) := by
  unfold fSet
  simp only [h, e]
def setG (n : Nat) (ws : List W) (k : Int) (v : W) (G : GH) : Option GH := match L2.ixN ws.length k with
  | some j => some (G.set n (.lst (ws.set j v)))
  | none => none
@[simp] theorem fSet_ev (n : Nat) (k : Int) (v : W) : fSet (.ref n) (.int k) v G = match G.at_ n with
  | some (.lst ws) => setG n ws k v G
  | _ => none := rfl
section
variable {n : Nat} {a b c d e v : W} {l : List W}
@[simp] theorem setG_0 : setG n (a :: l) 0 v G = some (G.set n (.lst (v :: l))) := by
  unfold setG; rw [show L2.ixN (a :: l).length 0 = some 0 by unfold L2.ixN; simp]; rfl
@[simp] theorem setG_1 : setG n (a :: b :: l) 1 v G = some (G.set n (.lst (a :: v :: l))) := by
  unfold setG; rw [show L2.ixN (a :: b :: l).length 1 = some 1 by unfold L2.ixN; simp; omega]; rfl
@[simp] theorem setG_2 : setG n (a :: b :: c :: l) 2 v G = some (G.set n (.lst (a :: b :: v :: l))) := by
  unfold setG; rw [show L2.ixN (a :: b :: c :: l).length 2 = some 2 by unfold L2.ixN; simp; omega]; rfl
@[simp] theorem setG_3 : setG n (a :: b :: c :: d :: l) 3 v G = some (G.set n (.lst (a :: b :: c :: v :: l))) := by
  unfold setG; rw [show L2.ixN (a :: b :: c :: d :: l).length 3 = some 3 by unfold L2.ixN; simp; omega]; rfl
end
@[simp] theorem truW_non : truW G .non = some false := rfl
@[simp] theorem truW_bl (b : Bool) : truW G (.bl b) = some b := rfl
@[simp] theorem truW_int (i : Int) : truW G (.int i) = some (i != 0) := rfl
@[simp] theorem truW_tup (ws : List W) : truW G (.tup ws) = some (!ws.isEmpty) := rfl
@[simp] theorem truW_lst (ws : List W) : truW G (.lst ws) = some (!ws.isEmpty) := rfl
@[simp] theorem asTru_bl (b : Bool) : asTru (.bl b) G = .ok b G := rfl
@[simp] theorem asTru_lst (ws : List W) : asTru (.lst ws) G = .ok (!ws.isEmpty) G := rfl
@[simp] theorem asTru_tup (ws : List W) : asTru (.tup ws) G = .ok (!ws.isEmpty) G := rfl
@[simp] theorem cLen_lst (ws : List W) : cLen [.lst ws] G = .ok (.int ws.length) G := rfl
@[simp] theorem cLen_tup (ws : List W) : cLen [.tup ws] G = .ok (.int ws.length) G := rfl
@[simp] theorem fIsN_f (b : Bool) {a : W} {k : Bool} (h : isNon a = some k) : fIsN b a .non G = .ok (.bl (if b then !k else k)) G := by unfold fIsN; simp only [h]
@[simp] theorem fIsB_f (b : Bool) {a : W} {k : Bool} {o : Option Bool} (h : plB a = some o) : fIsB b a (.bl k) G = .ok (.bl (if b then !decide (o = some k) else decide (o = some k))) G := by unfold fIsB; simp only [h]
end
end Fn

set_option Elab.async false
set_option linter.all false
set_option maxRecDepth 100000
namespace Fn
open PySem PySem.Spec PyProof.Rows L2
/-! ### equality -/
mutual
/-- data without truth values -/
def W.nb : W → Bool
  | .non | .int _ | .str _ => true
  | .tup ws | .lst ws => W.nbs ws
  | _ => false
def W.nbs : List W → Bool
  | [] => true
  | w :: ws => W.nb w && W.nbs ws
end
mutual
theorem W.pl_of_nb : ∀ w : W, w.nb = true → w.pl = true
  | .non, _ | .int _, _ | .str _, _ => rfl
  | .tup ws, h | .lst ws, h => by simp only [W.pl]; exact W.pls_of_nbs ws (by simpa [W.nb] using h)
  | .bl _, h | .dic _ _, h | .ins _ _ _, h | .ref _, h | .op _, h => by cases h
theorem W.pls_of_nbs : ∀ ws : List W, W.nbs ws = true → W.pls ws = true
  | [], _ => rfl
  | w :: ws, h => by
    simp only [W.nbs, Bool.and_eq_true] at h
    simp only [W.pls, W.pl_of_nb w h.1, W.pls_of_nbs ws h.2, Bool.and_self]
end
mutual
theorem eqW_iff : ∀ a b : W, a.nb = true → b.nb = true → (eqW a b = true ↔ a = b)
  | .non, b, _, hb => by cases b <;> first | (cases hb; done) | simp [eqW]
  | .int i, b, _, hb => by cases b <;> first | (cases hb; done) | simp [eqW]
  | .str x, b, _, hb => by cases b <;> first | (cases hb; done) | simp [eqW]
  | .tup xs, b, ha, hb => by
    cases b with
    | tup ys => simp only [eqW, W.tup.injEq]; exact eqWs_iff xs ys (by simpa [W.nb] using ha) (by simpa [W.nb] using hb)
    | _ => first | (cases hb; done) | simp [eqW]
  | .lst xs, b, ha, hb => by
    cases b with
    | lst ys => simp only [eqW, W.lst.injEq]; exact eqWs_iff xs ys (by simpa [W.nb] using ha) (by simpa [W.nb] using hb)
    | _ => first | (cases hb; done) | simp [eqW]
  | .bl _, _, h, _ | .dic _ _, _, h, _ | .ins _ _ _, _, h, _ | .ref _, _, h, _ | .op _, _, h, _ => by cases h
theorem eqWs_iff : ∀ xs ys : List W, W.nbs xs = true → W.nbs ys = true → (eqWs xs ys = true ↔ xs = ys)
  | [], [], _, _ => by simp [eqWs]
  | [], _ :: _, _, _ => by simp [eqWs]
  | _ :: _, [], _, _ => by simp [eqWs]
  | x :: xs, y :: ys, ha, hb => by
    simp only [W.nbs, Bool.and_eq_true] at ha hb
    simp only [eqWs, Bool.and_eq_true, List.cons.injEq, eqW_iff x y ha.1 hb.1, eqWs_iff xs ys ha.2 hb.2]
end
section
variable {G : GH}
@[simp] theorem fEq_i (i j : Int) : fEq (.int i) (.int j) G = .ok (.bl (decide (i = j))) G := by rw [← Bool.beq_eq_decide_eq]; rfl
@[simp] theorem fEq_s (i j : Str) : fEq (.str i) (.str j) G = .ok (.bl (decide (i = j))) G := by rw [← Bool.beq_eq_decide_eq]; rfl
@[simp] theorem fEq_b (i j : Bool) : fEq (.bl i) (.bl j) G = .ok (.bl (i == j)) G := rfl
@[simp] theorem fNe_i (i j : Int) : fNe (.int i) (.int j) G = .ok (.bl (!decide (i = j))) G := by rw [← Bool.beq_eq_decide_eq]; rfl
@[simp] theorem fNe_s (i j : Str) : fNe (.str i) (.str j) G = .ok (.bl (!decide (i = j))) G := by rw [← Bool.beq_eq_decide_eq]; rfl
@[simp] theorem fNe_b (i j : Bool) : fNe (.bl i) (.bl j) G = .ok (.bl (!(i == j))) G := rfl
@[simp] theorem isNon_int (m : Int) : Fn.isNon (.int m) = some false := rfl
@[simp] theorem isNon_non : Fn.isNon .non = some true := rfl
@[simp] theorem isNon_bl (b : Bool) : Fn.isNon (.bl b) = some false := rfl
@[simp] theorem isNon_str (b : Str) : Fn.isNon (.str b) = some false := rfl
@[simp] theorem isNon_tup (b : List W) : Fn.isNon (.tup b) = some false := rfl
@[simp] theorem isNon_lst (b : List W) : Fn.isNon (.lst b) = some false := rfl
@[simp] theorem isNon_ins (c : Nat) (f : List Str) (b : List W) : Fn.isNon (.ins c f b) = some false := rfl
theorem res_nb {w : W} (h : w.nb = true) : res G w = w := by
  cases w with
  | ref n => cases h
  | _ => rfl
theorem fEq_nb {a b : W} (ha : a.nb = true) (hb : b.nb = true) (hd : min a.dep b.dep ≤ 60) : fEq a b G = .ok (.bl (eqW a b)) G := by
  unfold fEq eqOk
  rw [res_nb ha, res_nb hb, W.pl_of_nb a ha, W.pl_of_nb b hb, decide_eq_true hd]
  rfl
theorem fNe_nb {a b : W} (ha : a.nb = true) (hb : b.nb = true) (hd : min a.dep b.dep ≤ 60) : fNe a b G = .ok (.bl (!eqW a b)) G := by
  unfold fNe eqOk
  rw [res_nb ha, res_nb hb, W.pl_of_nb a ha, W.pl_of_nb b hb, decide_eq_true hd]
  rfl
theorem cIsa_nb {w : W} {T : String} {b : Bool} (h : w.nb = true) (e : isaW T w = some b) : cIsa [w, .op (.ty T)] G = .ok (.bl b) G := by
  unfold cIsa
  simp only [res_nb h, W.pl_of_nb w h, e, if_true]
theorem eqW_self {a : W} (ha : a.nb = true) : eqW a a = true := (eqW_iff a a ha ha).mpr rfl
theorem eqW_ne {a b : W} (ha : a.nb = true) (hb : b.nb = true) (h : a ≠ b) : eqW a b = false := by
  cases e : eqW a b with
  | false => rfl
  | true => exact absurd ((eqW_iff a b ha hb).mp e) h
theorem eqW_comm {a b : W} (ha : a.nb = true) (hb : b.nb = true) : eqW a b = eqW b a := by
  cases e : eqW a b with
  | true => rw [(eqW_iff a b ha hb).mp e, eqW_self hb]
  | false => rw [eqW_ne hb ha (fun z => by rw [z, eqW_self ha] at e; cases e)]
theorem str_inj {a b : String} : Str.ofString a = Str.ofString b ↔ a = b := by
  refine ⟨fun h => ?_, fun h => by rw [h]⟩
  rw [Str.ofString_eq_toList, Str.ofString_eq_toList, Str.mk.injEq] at h
  have h2 : a.toList.map Char.toNat = b.toList.map Char.toNat := by
    have := congrArg Array.toList h
    simpa using this
  have inj : ∀ (x y : List Char), x.map Char.toNat = y.map Char.toNat → x = y := by
    intro x
    induction x with
    | nil => intro y h; cases y with
      | nil => rfl
      | cons _ _ => simp at h
    | cons c x ih => intro y h; cases y with
      | nil => simp at h
      | cons d y =>
        simp only [List.map_cons, List.cons.injEq] at h
        rw [ih y h.2, Char.ext (UInt32.toNat_inj.mp h.1)]
  exact String.toList_inj.mp (inj _ _ h2)
@[simp] theorem str_lit {a b : String} : (Str.ofString a = Str.ofString b) = (a = b) := propext str_inj
theorem lens (n : Nat) (h : n ≤ 1000 := by decide) : n ≤ sizeLine := by rw [sizeLine_eq]; omega
end
end Fn

set_option Elab.async false
set_option linter.all false
set_option maxRecDepth 100000
namespace Fn
open PySem PySem.Spec PyProof.Rows L2
/-! ### loops, evaluated -/
section
variable {ρ ρw : En} {G : GH} {w : W}
@[simp] theorem forF_nil (t : FG1) (b : FS) : forF t b [] ρ G = .nx ρ G := rfl
theorem forF_nx {t : FG1} {b : FS} {ws : List W} {ρ1 ρ2 : En} {G1 G2 : GH} (e : t w ρ G = some (ρ1, G1)) (h : b ρ1 G1 = .nx ρ2 G2) : forF t b (w :: ws) ρ G = forF t b ws ρ2 G2 := by
  simp only [forF, turnF, e, h]
theorem forF_ct {t : FG1} {b : FS} {ws : List W} {ρ1 ρ2 : En} {G1 G2 : GH} (e : t w ρ G = some (ρ1, G1)) (h : b ρ1 G1 = .ct ρ2 G2) : forF t b (w :: ws) ρ G = forF t b ws ρ2 G2 := by
  simp only [forF, turnF, e, h]
theorem forF_rt {t : FG1} {b : FS} {ws : List W} {ρ1 : En} {v : W} {G1 G2 : GH} (e : t w ρ G = some (ρ1, G1)) (h : b ρ1 G1 = .rt v G2) : forF t b (w :: ws) ρ G = .rt v G2 := by
  simp only [forF, turnF, e, h]
theorem forF_bk {t : FG1} {b : FS} {ws : List W} {ρ1 ρ2 : En} {G1 G2 : GH} (e : t w ρ G = some (ρ1, G1)) (h : b ρ1 G1 = .bk ρ2 G2) : forF t b (w :: ws) ρ G = .nx ρ2 G2 := by
  simp only [forF, turnF, e, h]
/-- what holds ahead of each turn -/
theorem for_inv {t : FG1} {b : FS} (I : En → GH → Prop) : ∀ (ws : List W), (∀ w ∈ ws, ∀ ρ G, I ρ G → ∃ ρ1 G1 ρ2 G2, t w ρ G = some (ρ1, G1) ∧ (b ρ1 G1 = .nx ρ2 G2 ∨ b ρ1 G1 = .ct ρ2 G2) ∧ I ρ2 G2) →
    ∀ ρ G, I ρ G → ∃ ρ' G', forF t b ws ρ G = .nx ρ' G' ∧ I ρ' G'
  | [], _, ρ, G, h => ⟨ρ, G, rfl, h⟩
  | w :: ws, st, ρ, G, h => by
    obtain ⟨ρ1, G1, ρ2, G2, e1, e2, h2⟩ := st w (List.mem_cons_self) ρ G h
    obtain ⟨ρ', G', e3, h3⟩ := for_inv I ws (fun w m => st w (List.mem_cons_of_mem _ m)) ρ2 G2 h2
    rcases e2 with e2 | e2
    · exact ⟨ρ', G', by rw [forF_nx e1 e2]; exact e3, h3⟩
    · exact ⟨ρ', G', by rw [forF_ct e1 e2]; exact e3, h3⟩
/-- what holds ahead of each turn, with its number -/
theorem for_invN {t : FG1} {b : FS} (I : Nat → En → GH → Prop) : ∀ (ws : List W) (i : Nat), (∀ j w, ws[j]? = some w → ∀ ρ G, I (i + j) ρ G → ∃ ρ1 G1 ρ2 G2, t w ρ G = some (ρ1, G1) ∧ (b ρ1 G1 = .nx ρ2 G2 ∨ b ρ1 G1 = .ct ρ2 G2) ∧ I (i + j + 1) ρ2 G2) →
    ∀ ρ G, I i ρ G → ∃ ρ' G', forF t b ws ρ G = .nx ρ' G' ∧ I (i + ws.length) ρ' G'
  | [], i, _, ρ, G, h => ⟨ρ, G, rfl, h⟩
  | w :: ws, i, st, ρ, G, h => by
    obtain ⟨ρ1, G1, ρ2, G2, e1, e2, h2⟩ := st 0 w rfl ρ G h
    obtain ⟨ρ', G', e3, h3⟩ := for_invN I ws (i + 1) (fun j w m ρ G q => by
      have := st (j + 1) w (by simpa using m) ρ G (by rw [show i + (j + 1) = i + 1 + j by omega]; exact q)
      rwa [show i + (j + 1) + 1 = i + 1 + j + 1 by omega] at this) ρ2 G2 h2
    have h3 : I (i + (w :: ws).length) ρ' G' := by rw [show i + (w :: ws).length = i + 1 + ws.length by rw [List.length_cons]; omega]; exact h3
    rcases e2 with e2 | e2
    · exact ⟨ρ', G', by rw [forF_nx e1 e2]; exact e3, h3⟩
    · exact ⟨ρ', G', by rw [forF_ct e1 e2]; exact e3, h3⟩
@[simp] theorem lcW_vals (t : FG1) (tt : FT) (te : FE) (ws : List W) : lcW t tt te ρw (.vals ws) G = lcF t tt te ρw ws G := rfl
@[simp] theorem lcW_own (t : FG1) (tt : FT) (te : FE) (n : Nat) : lcW t tt te ρw (.own n) G = lcO n t tt te ρw (lenO G n) 0 G := rfl
@[simp] theorem gYes_ev : gYes ρ G = .ok true G := rfl
@[simp] theorem gLc_ev (own : Bool) (gi : FI) (t : FG1) (tt : FT) (te : FE) (vs : List Nat) : gLc own gi t tt te vs ρ G = (gi ρ G).bind fun k G1 => (lcW t tt te (wipeW ρ vs) k G1).calm.bind fun r G2 => if r.length ≤ sizeLine then mkL own r G2 else .no := rfl
/-- a list comprehension with no test and no effect, as a map -/
theorem lc_map {t : FG1} {te : FE} (f : W → W) : ∀ (ws : List W), (∀ w ∈ ws, ∃ ρ1, t w ρw G = some (ρ1, G) ∧ te ρ1 G = .ok (f w) G) → lcF t gYes te ρw ws G = .ok (ws.map f) G
  | [], _ => rfl
  | w :: ws, st => by
    obtain ⟨ρ1, e1, e2⟩ := st w (List.mem_cons_self)
    have ih := lc_map f ws fun w m => st w (List.mem_cons_of_mem _ m)
    rw [lcF, lcTurn, e1]
    simp [e2, ih, addO]
/-- a list comprehension with a test and no effect -/
theorem lc_filter {t : FG1} {tt : FT} {te : FE} (p : W → Bool) (f : W → W) : ∀ (ws : List W), (∀ w ∈ ws, ∃ ρ1, t w ρw G = some (ρ1, G) ∧ tt ρ1 G = .ok (p w) G ∧ (p w = true → te ρ1 G = .ok (f w) G)) → lcF t tt te ρw ws G = .ok ((ws.filter p).map f) G
  | [], _ => rfl
  | w :: ws, st => by
    obtain ⟨ρ1, e1, e2, e3⟩ := st w (List.mem_cons_self)
    have ih := lc_filter p f ws fun w m => st w (List.mem_cons_of_mem _ m)
    rw [lcF, lcTurn, e1]
    cases h : p w with
    | true => simp [e2, e3 h, ih, addO, h]
    | false => simp [e2, ih, addO, h]
@[simp] theorem fSl_lst (own : Bool) (ws : List W) (i j : Option Int) : fSl own (.lst ws) i j G = mkL own (cutW ws i j) G := rfl
@[simp] theorem fSl_tup (own : Bool) (ws : List W) (i j : Option Int) : fSl own (.tup ws) i j G = .ok (.tup (cutW ws i j)) G := rfl
theorem cut_all {ws : List W} {k : Nat} (h : ws.length ≤ k) : cutW ws none (some (k : Int)) = ws := by
  unfold cutW
  rw [HT.sIx_nat, HT.sIx_none, List.drop_zero, Nat.min_eq_right h, Nat.sub_zero, List.take_length]
@[simp] theorem asRng1_ev (j : Int) : asRng1 [.int j] G = if small62 j then .ok (.vals (rngW 0 j.toNat)) G else .no := rfl
/-- an owned list that no turn changes is walked like its items -/
theorem lcO_eq {n : Nat} {us : List W} {t : FG1} {tt : FT} {te : FE} (h : G.at_ n = some (.lst us)) (st : ∀ w ∈ us, ∃ o, lcTurn t tt te ρw w G = .ok o G) : ∀ k i, i + k = us.length → lcO n t tt te ρw k i G = lcF t tt te ρw (us.drop i) G
  | 0, i, e => by
    unfold lcO
    simp only [h]
    rw [if_pos (by omega), List.drop_eq_nil_of_le (by omega)]
    rfl
  | k + 1, i, e => by
    have hi : i < us.length := by omega
    obtain ⟨o, eo⟩ := st us[i] (List.getElem_mem hi)
    unfold lcO
    simp only [h, List.getElem?_eq_getElem hi]
    rw [List.drop_eq_getElem_cons hi, lcF, eo]
    simp only [bind_ok]
    rw [lcO_eq h st k (i + 1) (by omega)]
@[simp] theorem lenO_at {n : Nat} {us : List W} (h : G.at_ n = some (.lst us)) : lenO G n = us.length := by unfold lenO; rw [h]
/-- a value, or an owned list, of these items -/
def Sqs (G : GH) (w : W) (us : List W) : Prop := w = .lst us ∨ ∃ n, w = .ref n ∧ G.at_ n = some (.lst us)
theorem lc_over {w : W} {us : List W} {t : FG1} {tt : FT} {te : FE} {α : Type} {f : List W → GH → R α} (h : Sqs G w us) (st : ∀ w ∈ us, ∃ o, lcTurn t tt te ρw w G = .ok o G) : ((asSeq w G).bind fun k G1 => (lcW t tt te ρw k G1).calm.bind f) = (lcF t tt te ρw us G).calm.bind f := by
  rcases h with rfl | ⟨n, rfl, h⟩
  · rfl
  · unfold asSeq
    simp only [h, bind_ok, lcW_own, lenO_at h]
    rw [lcO_eq h st us.length 0 (by omega), List.drop_zero]
/-- over an owned list that every turn keeps -/
theorem forO_inv {n : Nat} {us : List W} {t : FG1} {b : FS} (I : En → GH → Prop) (hI : ∀ ρ G, I ρ G → G.at_ n = some (.lst us)) (st : ∀ w ∈ us, ∀ ρ G, I ρ G → ∃ ρ1 G1 ρ2 G2, t w ρ G = some (ρ1, G1) ∧ (b ρ1 G1 = .nx ρ2 G2 ∨ b ρ1 G1 = .ct ρ2 G2) ∧ I ρ2 G2) :
    ∀ k i, i + k = us.length → ∀ ρ G, I ρ G → ∃ ρ' G', forO n t b k i ρ G = .nx ρ' G' ∧ I ρ' G'
  | 0, i, e, ρ, G, h => by
    unfold forO
    simp only [hI ρ G h]
    rw [if_pos (by omega)]
    exact ⟨ρ, G, rfl, h⟩
  | k + 1, i, e, ρ, G, h => by
    have hi : i < us.length := by omega
    obtain ⟨ρ1, G1, ρ2, G2, e1, e2, h2⟩ := st us[i] (List.getElem_mem hi) ρ G h
    obtain ⟨ρ', G', e3, h3⟩ := forO_inv I hI st k (i + 1) (by omega) ρ2 G2 h2
    unfold forO turnF
    simp only [hI ρ G h, List.getElem?_eq_getElem hi, e1]
    rcases e2 with e2 | e2
    · simp only [e2]; exact ⟨ρ', G', e3, h3⟩
    · simp only [e2]; exact ⟨ρ', G', e3, h3⟩
/-! ### calls, evaluated -/
@[simp] theorem gMt_ev (T : String) (g : W → List W → GH → R W) (go : FE) (ga : FA) : gMt T g go ga ρ G = (go ρ G).bind fun o G1 => if isTy T G1 o then (ga ρ G1).bind fun ws G2 => g o ws G2 else .no := rfl
theorem isTy_at {n : Nat} {us : List W} (h : G.at_ n = some (.lst us)) : isTy "list" G (.ref n) = true := by unfold isTy; simp only [h]; rfl
@[simp] theorem isTy_str (x : Str) : isTy "str" G (.str x) = true := rfl
theorem lw_at {n : Nat} {us : List W} (h : G.at_ n = some (.lst us)) : lw G (.ref n) = some (n, us) := by unfold lw; simp only [h]
theorem mAppend_at {n : Nat} {us : List W} (h : G.at_ n = some (.lst us)) (hl : us.length < 1000000) : mAppend (.ref n) [w] G = .ok .non (G.set n (.lst (us ++ [w]))) := by
  unfold mAppend; simp only [lw_at h]; rw [if_pos (by rw [sizeLine_eq]; omega)]
theorem mInsert_at {n : Nat} {us : List W} {i : Int} (h : G.at_ n = some (.lst us)) (hl : us.length < 1000000) (h0 : 0 ≤ i) (h1 : i < 2 ^ 63) : mInsert (.ref n) [.int i, w] G = .ok .non (G.set n (.lst (us.take i.toNat ++ [w] ++ us.drop i.toNat))) := by
  unfold mInsert; simp only [lw_at h]; rw [if_pos ⟨by rw [sizeLine_eq]; omega, h0, h1⟩]
theorem mPop_at {n : Nat} {us : List W} (h : G.at_ n = some (.lst (us ++ [w]))) : mPop (.ref n) [] G = .ok w (G.set n (.lst us)) := by
  unfold mPop; simp only [lw_at h]
  simp
theorem mReverse_at {n : Nat} {us : List W} (h : G.at_ n = some (.lst us)) : mReverse (.ref n) [] G = .ok .non (G.set n (.lst us.reverse)) := by
  unfold mReverse; simp only [lw_at h]
@[simp] theorem cList_lst (o : Bool) (us : List W) : cList o [.lst us] G = mkL o us G := rfl
@[simp] theorem cList_tup (o : Bool) (us : List W) : cList o [.tup us] G = mkL o us G := rfl
@[simp] theorem cTuple_lst (us : List W) : cTuple [.lst us] G = .ok (.tup us) G := rfl
@[simp] theorem cTuple_tup (us : List W) : cTuple [.tup us] G = .ok (.tup us) G := rfl
theorem cTuple_at {n : Nat} {us : List W} (h : G.at_ n = some (.lst us)) : cTuple [.ref n] G = .ok (.tup us) G := by
  unfold cTuple sqs tsq lsq; simp only [h]
theorem cList_at {n : Nat} {us : List W} (o : Bool) (h : G.at_ n = some (.lst us)) : cList o [.ref n] G = mkL o us G := by
  unfold cList sqs tsq lsq; simp only [h]
theorem cLen_at {n : Nat} {us : List W} (h : G.at_ n = some (.lst us)) : cLen [.ref n] G = .ok (.int us.length) G := by
  unfold cLen sqs tsq lsq; simp only [h]
@[simp] theorem cAny_lst (bs : List Bool) : cAny [.lst (bs.map W.bl)] G = .ok (.bl (bs.any id)) G := by
  show (match blsOf (bs.map W.bl) with | some bs => R.ok (W.bl (bs.any id)) G | none => .no) = _
  rw [blsOf_map]
@[simp] theorem gCallK_ev (g : FCK) (ga gk : FA) : gCallK g ga gk ρ G = (ga ρ G).bind fun ws G1 => (gk ρ G1).bind fun us G2 => g ws us G2 := rfl
@[simp] theorem cBest_lst (f : Int → Int → Int) (d : W) (ns : List Int) : cBest f [.lst (ns.map W.int)] [d] G = .ok (bestW f d ns) G := by
  show (match intsOf (ns.map W.int) with | some ns => R.ok (bestW f d ns) G | none => .no) = _
  rw [intsOf_map]
theorem min_le {k : Int} : ∀ (ns : List Int) (m : Int), ns.foldl min m ≤ k ↔ m ≤ k ∨ ∃ n ∈ ns, n ≤ k
  | [], m => by simp
  | n :: ns, m => by
    rw [List.foldl_cons, min_le ns]
    constructor
    · rintro (h | ⟨x, hx, h⟩)
      · by_cases q : m ≤ n
        · exact .inl (by omega)
        · exact .inr ⟨n, List.mem_cons_self, by omega⟩
      · exact .inr ⟨x, List.mem_cons_of_mem _ hx, h⟩
    · rintro (h | ⟨x, hx, h⟩)
      · exact .inl (by omega)
      · rcases List.mem_cons.mp hx with rfl | hx
        · exact .inl (by omega)
        · exact .inr ⟨x, hx, h⟩
theorem frz_at {n : Nat} {us : List W} (h : G.at_ n = some (.lst us)) : frz (.ref n) G = .ok (.lst us) (G.del n) := by unfold frz; simp only [h]
theorem cut_at {ws : List W} {k : Nat} : cutW ws none (some (k : Int)) = ws.take k := by
  unfold cutW
  rw [HT.sIx_nat, HT.sIx_none, List.drop_zero, Nat.sub_zero, List.take_eq_take_iff]
  omega
theorem cut_from {ws : List W} {k : Nat} : cutW ws (some (k : Int)) none = ws.drop k := by
  unfold cutW
  rw [HT.sIx_nat, HT.sIx_none]
  by_cases h : k ≤ ws.length
  · rw [Nat.min_eq_left h]
    exact List.take_of_length_le (by rw [List.length_drop]; omega)
  · rw [Nat.min_eq_right (by omega), List.drop_length, List.drop_eq_nil_of_le (by omega), List.take_nil]
end
end Fn

set_option Elab.async false
set_option linter.all false
set_option maxRecDepth 100000
set_option maxHeartbeats 4000000
namespace Lw
open PySem PySem.Spec PyProof.Rows L2 Fn
def topS (i : Nat) : Stmt := PySem.Challenge.pw_swornlike_k42_steps_and_heads.main.body.getD i (.Pass ⟨0, 0, 0, 0⟩)
abbrev s__law_deck : Stmt := topS 39
abbrev names__law_deck : List Str := ["script", "cell"]
theorem sc__law_deck : FnScope names__law_deck ["script"] (defScope s__law_deck) := ⟨rfl, rfl, rfl, by decide +kernel, rfl, by decide +kernel, by decide +kernel⟩
abbrev s__law_term_words : Stmt := topS 41
abbrev names__law_term_words : List Str := ["term", "wide", "words"]
theorem sc__law_term_words : FnScope names__law_term_words ["term", "wide"] (defScope s__law_term_words) := ⟨rfl, rfl, rfl, by decide +kernel, rfl, by decide +kernel, by decide +kernel⟩
abbrev s__law_row_words : Stmt := topS 42
abbrev names__law_row_words : List Str := ["row", "kind", "words", "at", "part", "argument", "wide"]
theorem sc__law_row_words : FnScope names__law_row_words ["row"] (defScope s__law_row_words) := ⟨rfl, rfl, rfl, by decide +kernel, rfl, by decide +kernel, by decide +kernel⟩
abbrev s__law_words : Stmt := topS 43
abbrev names__law_words : List Str := ["body", "rows", "places", "words", "k", "part", "row"]
theorem sc__law_words : FnScope names__law_words ["body"] (defScope s__law_words) := ⟨rfl, rfl, rfl, by decide +kernel, rfl, by decide +kernel, by decide +kernel⟩
abbrev s_form_at : Stmt := topS 23
abbrev names_form_at : List Str := ["words", "at"]
theorem sc_form_at : FnScope names_form_at ["words", "at"] (defScope s_form_at) := ⟨rfl, rfl, rfl, by decide +kernel, rfl, by decide +kernel, by decide +kernel⟩
abbrev s_is_plain : Stmt := topS 19
abbrev names_is_plain : List Str := ["words"]
theorem sc_is_plain : FnScope names_is_plain ["words"] (defScope s_is_plain) := ⟨rfl, rfl, rfl, by decide +kernel, rfl, by decide +kernel, by decide +kernel⟩
abbrev s_is_term : Stmt := topS 20
abbrev names_is_term : List Str := ["words"]
theorem sc_is_term : FnScope names_is_term ["words"] (defScope s_is_term) := ⟨rfl, rfl, rfl, by decide +kernel, rfl, by decide +kernel, by decide +kernel⟩
abbrev s_is_argument : Stmt := topS 21
abbrev names_is_argument : List Str := ["words"]
theorem sc_is_argument : FnScope names_is_argument ["words"] (defScope s_is_argument) := ⟨rfl, rfl, rfl, by decide +kernel, rfl, by decide +kernel, by decide +kernel⟩
abbrev s_fits : Stmt := topS 22
abbrev names_fits : List Str := ["words", "part"]
theorem sc_fits : FnScope names_fits ["words", "part"] (defScope s_fits) := ⟨rfl, rfl, rfl, by decide +kernel, rfl, by decide +kernel, by decide +kernel⟩
abbrev s_behind_row : Stmt := topS 24
abbrev names_behind_row : List Str := ["words", "at", "form", "place", "part", "end"]
theorem sc_behind_row : FnScope names_behind_row ["words", "at"] (defScope s_behind_row) := ⟨rfl, rfl, rfl, by decide +kernel, rfl, by decide +kernel, by decide +kernel⟩
abbrev s_rows_of_words : Stmt := topS 25
abbrev names_rows_of_words : List Str := ["words", "starts", "at"]
theorem sc_rows_of_words : FnScope names_rows_of_words ["words"] (defScope s_rows_of_words) := ⟨rfl, rfl, rfl, by decide +kernel, rfl, by decide +kernel, by decide +kernel⟩
abbrev s_target_place : Stmt := topS 32
abbrev names_target_place : List Str := ["words", "at"]
theorem sc_target_place : FnScope names_target_place ["words", "at"] (defScope s_target_place) := ⟨rfl, rfl, rfl, by decide +kernel, rfl, by decide +kernel, by decide +kernel⟩
abbrev s_plain_read : Stmt := topS 28
abbrev names_plain_read : List Str := ["words", "at"]
theorem sc_plain_read : FnScope names_plain_read ["words", "at"] (defScope s_plain_read) := ⟨rfl, rfl, rfl, by decide +kernel, rfl, by decide +kernel, by decide +kernel⟩
abbrev s_argument_read : Stmt := topS 30
abbrev names_argument_read : List Str := ["words", "at"]
theorem sc_argument_read : FnScope names_argument_read ["words", "at"] (defScope s_argument_read) := ⟨rfl, rfl, rfl, by decide +kernel, rfl, by decide +kernel, by decide +kernel⟩
abbrev s_call_read : Stmt := topS 31
abbrev names_call_read : List Str := ["words", "at", "arguments", "k"]
theorem sc_call_read : FnScope names_call_read ["words", "at"] (defScope s_call_read) := ⟨rfl, rfl, rfl, by decide +kernel, rfl, by decide +kernel, by decide +kernel⟩
abbrev s_term_read : Stmt := topS 29
abbrev names_term_read : List Str := ["words", "at"]
theorem sc_term_read : FnScope names_term_read ["words", "at"] (defScope s_term_read) := ⟨rfl, rfl, rfl, by decide +kernel, rfl, by decide +kernel, by decide +kernel⟩
abbrev s_row_read : Stmt := topS 33
abbrev names_row_read : List Str := ["words", "at", "numbers", "kind", "first", "second", "head"]
theorem sc_row_read : FnScope names_row_read ["words", "at", "numbers"] (defScope s_row_read) := ⟨rfl, rfl, rfl, by decide +kernel, rfl, by decide +kernel, by decide +kernel⟩
abbrev s_is_integer : Stmt := topS 27
abbrev names_is_integer : List Str := ["value"]
theorem sc_is_integer : FnScope names_is_integer ["value"] (defScope s_is_integer) := ⟨rfl, rfl, rfl, by decide +kernel, rfl, by decide +kernel, by decide +kernel⟩
abbrev s_read_body : Stmt := topS 34
abbrev names_read_body : List Str := ["words", "starts", "numbers", "targets", "at", "number", "place", "word", "target"]
theorem sc_read_body : FnScope names_read_body ["words"] (defScope s_read_body) := ⟨rfl, rfl, rfl, by decide +kernel, rfl, by decide +kernel, by decide +kernel⟩
abbrev s__law_next : Stmt := topS 50
abbrev names__law_next : List Str := ["body", "at", "row"]
theorem sc__law_next : FnScope names__law_next ["body", "at"] (defScope s__law_next) := ⟨rfl, rfl, rfl, by decide +kernel, rfl, by decide +kernel, by decide +kernel⟩
abbrev s__law_heads : Stmt := topS 51
abbrev names__law_heads : List Str := ["body", "come", "backs", "at", "waiting", "turn", "last", "row"]
theorem sc__law_heads : FnScope names__law_heads ["body"] (defScope s__law_heads) := ⟨rfl, rfl, rfl, by decide +kernel, rfl, by decide +kernel, by decide +kernel⟩
abbrev s__law_draw : Stmt := topS 40
abbrev names__law_draw : List Str := ["deck", "many", "cell", "first", "second", "third", "digit"]
theorem sc__law_draw : FnScope names__law_draw ["deck", "many"] (defScope s__law_draw) := ⟨rfl, rfl, rfl, by decide +kernel, rfl, by decide +kernel, by decide +kernel⟩
abbrev s_step_targets : Stmt := topS 35
abbrev names_step_targets : List Str := ["body", "at", "row", "found"]
theorem sc_step_targets : FnScope names_step_targets ["body", "at"] (defScope s_step_targets) := ⟨rfl, rfl, rfl, by decide +kernel, rfl, by decide +kernel, by decide +kernel⟩
abbrev s_reached : Stmt := topS 36
abbrev names_reached : List Str := ["body", "found", "waiting", "target"]
theorem sc_reached : FnScope names_reached ["body"] (defScope s_reached) := ⟨rfl, rfl, rfl, by decide +kernel, rfl, by decide +kernel, by decide +kernel⟩
abbrev s_heads_of : Stmt := topS 37
abbrev names_heads_of : List Str := ["body", "there", "found", "at", "row"]
theorem sc_heads_of : FnScope names_heads_of ["body"] (defScope s_heads_of) := ⟨rfl, rfl, rfl, by decide +kernel, rfl, by decide +kernel, by decide +kernel⟩
abbrev s__law_asked : Stmt := topS 53
abbrev names__law_asked : List Str := ["body", "due", "heads", "at", "told"]
theorem sc__law_asked : FnScope names__law_asked ["body", "due"] (defScope s__law_asked) := ⟨rfl, rfl, rfl, by decide +kernel, rfl, by decide +kernel, by decide +kernel⟩
abbrev s__law_number : Stmt := topS 44
abbrev names__law_number : List Str := ["deck", "pick"]
theorem sc__law_number : FnScope names__law_number ["deck"] (defScope s__law_number) := ⟨rfl, rfl, rfl, by decide +kernel, rfl, by decide +kernel, by decide +kernel⟩
abbrev s__law_plain : Stmt := topS 45
abbrev names__law_plain : List Str := ["deck", "kind", "pick"]
theorem sc__law_plain : FnScope names__law_plain ["deck", "kind"] (defScope s__law_plain) := ⟨rfl, rfl, rfl, by decide +kernel, rfl, by decide +kernel, by decide +kernel⟩
abbrev s__law_term : Stmt := topS 46
abbrev names__law_term : List Str := ["deck", "kind", "plain"]
theorem sc__law_term : FnScope names__law_term ["deck", "kind"] (defScope s__law_term) := ⟨rfl, rfl, rfl, by decide +kernel, rfl, by decide +kernel, by decide +kernel⟩
abbrev s__law_arguments : Stmt := topS 47
abbrev names__law_arguments : List Str := ["deck", "kind", "called", "numbers", "lists", "told", "k"]
theorem sc__law_arguments : FnScope names__law_arguments ["deck", "kind", "called"] (defScope s__law_arguments) := ⟨rfl, rfl, rfl, by decide +kernel, rfl, by decide +kernel, by decide +kernel⟩
abbrev s__law_straight : Stmt := topS 48
abbrev names__law_straight : List Str := ["deck", "kind", "free", "calls", "pick", "number", "called"]
theorem sc__law_straight : FnScope names__law_straight ["deck", "kind", "free", "calls"] (defScope s__law_straight) := ⟨rfl, rfl, rfl, by decide +kernel, rfl, by decide +kernel, by decide +kernel⟩
abbrev s__law_test : Stmt := topS 49
abbrev names__law_test : List Str := ["deck", "kind", "target", "sign"]
theorem sc__law_test : FnScope names__law_test ["deck", "kind", "target"] (defScope s__law_test) := ⟨rfl, rfl, rfl, by decide +kernel, rfl, by decide +kernel, by decide +kernel⟩
abbrev s__law_row : Stmt := topS 52
abbrev names__law_row : List Str := ["deck", "size", "pick", "target", "kind"]
theorem sc__law_row : FnScope names__law_row ["deck", "size"] (defScope s__law_row) := ⟨rfl, rfl, rfl, by decide +kernel, rfl, by decide +kernel, by decide +kernel⟩
abbrev s__law_later : Stmt := topS 54
abbrev names__law_later : List Str := ["row", "last"]
theorem sc__law_later : FnScope names__law_later ["row"] (defScope s__law_later) := ⟨rfl, rfl, rfl, by decide +kernel, rfl, by decide +kernel, by decide +kernel⟩
abbrev s_law : Stmt := topS 55
abbrev names_law : List Str := ["script", "deck", "size", "rows", "at", "last", "body", "words", "back", "due", "longer", "near", "row"]
theorem sc_law : FnScope names_law ["script"] (defScope s_law) := ⟨rfl, rfl, rfl, by decide +kernel, rfl, by decide +kernel, by decide +kernel⟩

noncomputable section
def t__law_deck_1 : FS :=
  (gRet (gLst true (gCons (gLc false (iSeq (gSl false (gVar 0) gNoPart (gPart (gC (.int 63))))) (tgName 1) gYes (gCall cInt (gCons (gVar 1) gNil)) [1]) (gCons (gC (.int 0)) (gCons (gC (.int 0)) (gCons (gC (.int 0)) gNil))))))
def b__law_deck : FS :=
  t__law_deck_1
theorem fx__law_deck : ∃ f : FC, f = fnC 2 b__law_deck := ⟨_, rfl⟩
def f__law_deck : FC := Classical.choose fx__law_deck
theorem fd__law_deck : f__law_deck = fnC 2 b__law_deck := Classical.choose_spec fx__law_deck
theorem e__law_deck (w0 : W) (G : GH) : f__law_deck [w0] G = ((b__law_deck [some w0, none] G).fin).calm := by rw [fd__law_deck]; rfl
def t__law_term_words_1 (rec : FC) : FS :=
  (gRet (gVar 2))
def t__law_term_words_2 (rec : FC) : FS :=
  (gSeq (gIfS (gTru (gVar 1))
  (gRet (gOp (fAddL false) (gVar 2) (gLst false (gCons (gC (.int 0)) (gCons (gC (.int 0)) (gCons (gC (.int 0)) (gCons (gC (.int 0)) gNil)))))))
  gNext)
  (t__law_term_words_1 rec))
def t__law_term_words_3 (rec : FC) : FS :=
  (gSeq (gIfS (gTest (gOp fNe (gOp fIx (gVar 0) (gC (.int 0))) (gC (.str "num"))))
  (gAsg (gLst false (gCons (gOp (fAddL false) (gC (.int 1)) (gCall cInt (gCons (gOp fEq (gOp fIx (gVar 0) (gC (.int 0))) (gC (.str "len"))) gNil))) (gCons (gOp fIx (gVar 0) (gC (.int 1))) (gCons (gC (.int 0)) (gCons (gOp fIx (gVar 0) (gC (.int 2))) gNil))))) (tgName 2))
  gNext)
  (t__law_term_words_2 rec))
def t__law_term_words_4 (rec : FC) : FS :=
  (gSeq (gAsg (gLst false (gCons (gC (.int 0)) (gCons (gC (.int 0)) (gCons (gC (.int 0)) (gCons (gOp fIx (gVar 0) (gC (.int 1))) gNil))))) (tgName 2))
  (t__law_term_words_3 rec))
def t__law_term_words_5 (rec : FC) : FS :=
  (gSeq (gIfS (gTest (gOp fEq (gOp fIx (gVar 0) (gC (.int 0))) (gC (.str "cell"))))
  (gRet (gOp (fAddL false) (gLst false (gCons (gC (.int 3)) (gCons (gOp fIx (gVar 0) (gC (.int 1))) (gCons (gC (.int 0)) (gCons (gOp fIx (gVar 0) (gC (.int 3))) gNil))))) (gCall (cFn 2 rec) (gCons (gOp fIx (gVar 0) (gC (.int 2))) (gCons (gC (.bl false)) gNil)))))
  gNext)
  (t__law_term_words_4 rec))
def b__law_term_words (rec : FC) : FS :=
  (t__law_term_words_5 rec)
def f__law_term_words : Nat → FC
  | 0 => fun _ _ => .no
  | d + 1 => fnC 3 (b__law_term_words (f__law_term_words d))
theorem e__law_term_words (d : Nat) (w0 w1 : W) (G : GH) : f__law_term_words (d + 1) [w0, w1] G = ((b__law_term_words (f__law_term_words d) [some w0, some w1, none] G).fin).calm := rfl
def t__law_row_words_1 : FS :=
  (gIfS (gTest (gOp fEq (gOp fIx (gVar 5) (gC (.int 0))) (gC (.str "list"))))
  (gAsg (gOp (fAddL true) (gVar 2) (gLst false (gCons (gC (.int 0)) (gCons (gOp fIx (gVar 5) (gC (.int 1))) (gCons (gC (.int 0)) (gCons (gC (.int 0)) (gCons (gC (.int 0)) gNil))))))) (tgName 2))
  (gAsg (gOp (fAddL true) (gOp (fAddL false) (gVar 2) (gLst false (gCons (gC (.int 1)) gNil))) (gCall (cFn 2 (f__law_term_words 3)) (gCons (gVar 5) (gCons (gC (.bl false)) gNil)))) (tgName 2)))
def t__law_row_words_2 : FS :=
  (gFor (iSeq (gVar 4)) (tgName 5)
  t__law_row_words_1)
def t__law_row_words_3 : FS :=
  (gSeq (gDrop (gMt "list" mAppend (gVar 2) (gCons (gCall cLen (gCons (gVar 4) gNil)) gNil)))
  t__law_row_words_2)
def t__law_row_words_4 : FS :=
  (gIfS (gTest (gOp fEq (gVar 1) (gC (.str "call"))))
  t__law_row_words_3
  (gSeq (gAsg (gOr (gOp fEq (gVar 1) (gC (.str "set"))) (gOr (gOp fEq (gVar 1) (gC (.str "test"))) (gOr (gOp fEq (gVar 1) (gC (.str "return"))) (gAnd (gOp fEq (gVar 1) (gC (.str "put"))) (gOp fEq (gVar 3) (gC (.int 3))))))) (tgName 6))
  (gAsg (gOp (fAddL true) (gVar 2) (gCall (cFn 2 (f__law_term_words 3)) (gCons (gVar 4) (gCons (gVar 6) gNil)))) (tgName 2))))
def t__law_row_words_5 : FS :=
  (gIfS (gTru (gCall cIsa (gCons (gVar 4) (gCons (gC (.op (.ty "str"))) gNil))))
  (gDrop (gMt "list" mAppend (gVar 2) (gCons (gMt "list" mIndex (gLst false (gCons (gC (.str "<")) (gCons (gC (.str "<=")) (gCons (gC (.str ">")) (gCons (gC (.str ">=")) (gCons (gC (.str "==")) (gCons (gC (.str "!=")) gNil))))))) (gCons (gVar 4) gNil)) gNil)))
  t__law_row_words_4)
def t__law_row_words_6 : FS :=
  (gIfS (gTru (gCall cIsa (gCons (gVar 4) (gCons (gC (.op (.ty "int"))) gNil))))
  (gDrop (gMt "list" mAppend (gVar 2) (gCons (gVar 4) gNil)))
  t__law_row_words_5)
def t__law_row_words_7 : FS :=
  (gSeq (gAsg (gOp fIx (gVar 0) (gVar 3)) (tgName 4))
  t__law_row_words_6)
def t__law_row_words_8 : FS :=
  (gRet (gVar 2))
def t__law_row_words_9 : FS :=
  (gSeq (gFor (iRng asRng2 (gCons (gC (.int 1)) (gCons (gCall cLen (gCons (gVar 0) gNil)) gNil))) (tgName 3)
  t__law_row_words_7)
  t__law_row_words_8)
def t__law_row_words_10 : FS :=
  (gSeq (gAsg (gLst true (gCons (gOp (fAddL false) (gMt "list" mIndex (gLst false (gCons (gC (.str "set")) (gCons (gC (.str "put")) (gCons (gC (.str "swap")) (gCons (gC (.str "choose")) (gCons (gC (.str "call")) (gCons (gC (.str "test")) (gCons (gC (.str "jump")) (gCons (gC (.str "fail")) (gCons (gC (.str "return")) gNil)))))))))) (gCons (gVar 1) gNil)) (gC (.int 1))) gNil)) (tgName 2))
  t__law_row_words_9)
def t__law_row_words_11 : FS :=
  (gSeq (gAsg (gOp fIx (gVar 0) (gC (.int 0))) (tgName 1))
  t__law_row_words_10)
def b__law_row_words : FS :=
  t__law_row_words_11
theorem fx__law_row_words : ∃ f : FC, f = fnC 7 b__law_row_words := ⟨_, rfl⟩
def f__law_row_words : FC := Classical.choose fx__law_row_words
theorem fd__law_row_words : f__law_row_words = fnC 7 b__law_row_words := Classical.choose_spec fx__law_row_words
theorem e__law_row_words (w0 : W) (G : GH) : f__law_row_words [w0] G = ((b__law_row_words [some w0, none, none, none, none, none, none] G).fin).calm := by rw [fd__law_row_words]; rfl
def t__law_words_1 : FS :=
  (gAsg (gOp (fAddL false) (gVar 3) (gVar 5)) (tgName 3))
def t__law_words_2 : FS :=
  (gSeq (gIfS (gOrT (gTest (gOp fEq (gOp fIx (gOp fIx (gVar 0) (gVar 4)) (gC (.int 0))) (gC (.str "test")))) (gTest (gOp fEq (gOp fIx (gOp fIx (gVar 0) (gVar 4)) (gC (.int 0))) (gC (.str "jump")))))
  (gAsg (gOp (fAddL false) (gSl false (gVar 5) gNoPart (gPart (gOp fSub (gCall cLen (gCons (gVar 5) gNil)) (gC (.int 1))))) (gLst false (gCons (gOp fIx (gVar 2) (gOp fIx (gVar 5) (gOp fSub (gCall cLen (gCons (gVar 5) gNil)) (gC (.int 1))))) gNil))) (tgName 5))
  gNext)
  t__law_words_1)
def t__law_words_3 : FS :=
  (gSeq (gAsg (gOp fIx (gVar 1) (gVar 4)) (tgName 5))
  t__law_words_2)
def t__law_words_4 : FS :=
  (gRet (gCall cTuple (gCons (gVar 3) gNil)))
def t__law_words_5 : FS :=
  (gSeq (gFor (iRng asRng1 (gCons (gCall cLen (gCons (gVar 0) gNil)) gNil)) (tgName 4)
  t__law_words_3)
  t__law_words_4)
def t__law_words_6 : FS :=
  (gSeq (gAsg (gLst false gNil) (tgName 3))
  t__law_words_5)
def t__law_words_7 : FS :=
  (gSeq (gAsg (gLc false (iRng asRng1 (gCons (gCall cLen (gCons (gVar 1) gNil)) gNil)) (tgName 4) gYes (gCall cSum (gCons (gLc false (iSeq (gSl false (gVar 1) gNoPart (gPart (gVar 4)))) (tgName 5) gYes (gCall cLen (gCons (gVar 5) gNil)) [5]) gNil)) [4]) (tgName 2))
  t__law_words_6)
def t__law_words_8 : FS :=
  (gSeq (gAsg (gLc false (iSeq (gVar 0)) (tgName 6) gYes (gFrz (gCall (cFn 1 f__law_row_words) (gCons (gVar 6) gNil))) [6]) (tgName 1))
  t__law_words_7)
def b__law_words : FS :=
  t__law_words_8
theorem fx__law_words : ∃ f : FC, f = fnC 7 b__law_words := ⟨_, rfl⟩
def f__law_words : FC := Classical.choose fx__law_words
theorem fd__law_words : f__law_words = fnC 7 b__law_words := Classical.choose_spec fx__law_words
theorem e__law_words (w0 : W) (G : GH) : f__law_words [w0] G = ((b__law_words [some w0, none, none, none, none, none, none] G).fin).calm := by rw [fd__law_words]; rfl
def t_form_at_1 : FS :=
  (gRet (gOp (fAddL false) (gC (.str "nnn")) (gOp fMulX (gC (.str "a")) (gOp fIx (gVar 0) (gOp (fAddL false) (gVar 1) (gC (.int 3)))))))
def t_form_at_2 : FS :=
  (gSeq (gIfS (gOrT (gTest (gOp fGe (gOp (fAddL false) (gVar 1) (gC (.int 3))) (gCall cLen (gCons (gVar 0) gNil)))) (gNotT (gTest (gChain fLe fLe (gC (.int 0)) (gOp fIx (gVar 0) (gOp (fAddL false) (gVar 1) (gC (.int 3)))) (gCall cLen (gCons (gVar 0) gNil))))))
  (gRet (gC .non))
  gNext)
  t_form_at_1)
def t_form_at_3 : FS :=
  (gSeq (gIfS (gTest (gOp fNe (gOp fIx (gVar 0) (gVar 1)) (gC (.int 5))))
  (gRet (gGet (gC (.dic [(.inl (1)), (.inl (2)), (.inl (3)), (.inl (4)), (.inl (6)), (.inl (7)), (.inl (8)), (.inl (9))] [(.str "nt"), (.str "npt"), (.str "npp"), (.str "npp"), (.str "sttn"), (.str "n"), (.str "n"), (.str "t")])) (gOp fIx (gVar 0) (gVar 1))))
  gNext)
  t_form_at_2)
def b_form_at : FS :=
  t_form_at_3
theorem fx_form_at : ∃ f : FC, f = fnC 2 b_form_at := ⟨_, rfl⟩
def f_form_at : FC := Classical.choose fx_form_at
theorem fd_form_at : f_form_at = fnC 2 b_form_at := Classical.choose_spec fx_form_at
theorem e_form_at (w0 w1 : W) (G : GH) : f_form_at [w0, w1] G = ((b_form_at [some w0, some w1] G).fin).calm := by rw [fd_form_at]; rfl
def t_is_plain_1 : FS :=
  (gRet (gAnd (gOp (fIn false) (gOp fIx (gVar 0) (gC (.int 0))) (gTup (gCons (gC (.int 0)) (gCons (gC (.int 1)) (gCons (gC (.int 2)) gNil))))) (gOp fEq (gOp fIx (gVar 0) (gC (.int 2))) (gC (.int 0)))))
def t_is_plain_2 : FS :=
  (gSeq (gIfS (gAndT (gTest (gOp fEq (gOp fIx (gVar 0) (gC (.int 0))) (gC (.int 0)))) (gTest (gOp fNe (gOp fIx (gVar 0) (gC (.int 1))) (gC (.int 0)))))
  (gRet (gC (.bl false)))
  gNext)
  t_is_plain_1)
def b_is_plain : FS :=
  t_is_plain_2
theorem fx_is_plain : ∃ f : FC, f = fnC 1 b_is_plain := ⟨_, rfl⟩
def f_is_plain : FC := Classical.choose fx_is_plain
theorem fd_is_plain : f_is_plain = fnC 1 b_is_plain := Classical.choose_spec fx_is_plain
theorem e_is_plain (w0 : W) (G : GH) : f_is_plain [w0] G = ((b_is_plain [some w0] G).fin).calm := by rw [fd_is_plain]; rfl
def t_is_term_1 : FS :=
  (gRet (gAnd (gCall (cFn 1 f_is_plain) (gCons (gSl false (gVar 0) gNoPart (gPart (gC (.int 4)))) gNil)) (gOp fEq (gSl false (gVar 0) (gPart (gC (.int 4))) gNoPart) (gTup (gCons (gC (.int 0)) (gCons (gC (.int 0)) (gCons (gC (.int 0)) (gCons (gC (.int 0)) gNil))))))))
def t_is_term_2 : FS :=
  (gSeq (gIfS (gTest (gOp fEq (gOp fIx (gVar 0) (gC (.int 0))) (gC (.int 3))))
  (gRet (gAnd (gOp fEq (gOp fIx (gVar 0) (gC (.int 2))) (gC (.int 0))) (gCall (cFn 1 f_is_plain) (gCons (gSl false (gVar 0) (gPart (gC (.int 4))) gNoPart) gNil))))
  gNext)
  t_is_term_1)
def b_is_term : FS :=
  t_is_term_2
theorem fx_is_term : ∃ f : FC, f = fnC 1 b_is_term := ⟨_, rfl⟩
def f_is_term : FC := Classical.choose fx_is_term
theorem fd_is_term : f_is_term = fnC 1 b_is_term := Classical.choose_spec fx_is_term
theorem e_is_term (w0 : W) (G : GH) : f_is_term [w0] G = ((b_is_term [some w0] G).fin).calm := by rw [fd_is_term]; rfl
def t_is_argument_1 : FS :=
  (gRet (gAnd (gOp fEq (gOp fIx (gVar 0) (gC (.int 0))) (gC (.int 1))) (gCall (cFn 1 f_is_plain) (gCons (gSl false (gVar 0) (gPart (gC (.int 1))) gNoPart) gNil))))
def t_is_argument_2 : FS :=
  (gSeq (gIfS (gTest (gOp fEq (gOp fIx (gVar 0) (gC (.int 0))) (gC (.int 0))))
  (gRet (gOp fEq (gSl false (gVar 0) (gPart (gC (.int 2))) gNoPart) (gTup (gCons (gC (.int 0)) (gCons (gC (.int 0)) (gCons (gC (.int 0)) gNil))))))
  gNext)
  t_is_argument_1)
def b_is_argument : FS :=
  t_is_argument_2
theorem fx_is_argument : ∃ f : FC, f = fnC 1 b_is_argument := ⟨_, rfl⟩
def f_is_argument : FC := Classical.choose fx_is_argument
theorem fd_is_argument : f_is_argument = fnC 1 b_is_argument := Classical.choose_spec fx_is_argument
theorem e_is_argument (w0 : W) (G : GH) : f_is_argument [w0] G = ((b_is_argument [some w0] G).fin).calm := by rw [fd_is_argument]; rfl
def t_fits_1 : FS :=
  (gRet (gC (.bl true)))
def t_fits_2 : FS :=
  (gSeq (gIfS (gTest (gOp fEq (gVar 1) (gC (.str "a"))))
  (gRet (gCall (cFn 1 f_is_argument) (gCons (gVar 0) gNil)))
  gNext)
  t_fits_1)
def t_fits_3 : FS :=
  (gSeq (gIfS (gTest (gOp fEq (gVar 1) (gC (.str "t"))))
  (gRet (gCall (cFn 1 f_is_term) (gCons (gVar 0) gNil)))
  gNext)
  t_fits_2)
def t_fits_4 : FS :=
  (gSeq (gIfS (gTest (gOp fEq (gVar 1) (gC (.str "p"))))
  (gRet (gCall (cFn 1 f_is_plain) (gCons (gVar 0) gNil)))
  gNext)
  t_fits_3)
def t_fits_5 : FS :=
  (gSeq (gIfS (gTest (gOp fEq (gVar 1) (gC (.str "s"))))
  (gRet (gChain fLe fLt (gC (.int 0)) (gOp fIx (gVar 0) (gC (.int 0))) (gCall cLen (gCons (gC (.tup [(.str "<"), (.str "<="), (.str ">"), (.str ">="), (.str "=="), (.str "!=")])) gNil))))
  gNext)
  t_fits_4)
def t_fits_6 : FS :=
  (gSeq (gIfS (gTest (gOp fNe (gCall cLen (gCons (gVar 0) gNil)) (gOp fIxX (gC (.dic [(.inr "n"), (.inr "s"), (.inr "p"), (.inr "t"), (.inr "a")] [(.int 1), (.int 1), (.int 4), (.int 8), (.int 5)])) (gVar 1))))
  (gRet (gC (.bl false)))
  gNext)
  t_fits_5)
def b_fits : FS :=
  t_fits_6
theorem fx_fits : ∃ f : FC, f = fnC 2 b_fits := ⟨_, rfl⟩
def f_fits : FC := Classical.choose fx_fits
theorem fd_fits : f_fits = fnC 2 b_fits := Classical.choose_spec fx_fits
theorem e_fits (w0 w1 : W) (G : GH) : f_fits [w0, w1] G = ((b_fits [some w0, some w1] G).fin).calm := by rw [fd_fits]; rfl
def t_behind_row_1 : FS :=
  (gAsg (gVar 5) (tgName 3))
def t_behind_row_2 : FS :=
  (gSeq (gIfS (gNotT (gTru (gCall (cFn 2 f_fits) (gCons (gSl false (gVar 0) (gPart (gVar 3)) (gPart (gVar 5))) (gCons (gVar 4) gNil)))))
  (gRet (gC .non))
  gNext)
  t_behind_row_1)
def t_behind_row_3 : FS :=
  (gSeq (gAsg (gOp (fAddL false) (gVar 3) (gOp fIxX (gC (.dic [(.inr "n"), (.inr "s"), (.inr "p"), (.inr "t"), (.inr "a")] [(.int 1), (.int 1), (.int 4), (.int 8), (.int 5)])) (gVar 4))) (tgName 5))
  t_behind_row_2)
def t_behind_row_4 : FS :=
  (gRet (gVar 3))
def t_behind_row_5 : FS :=
  (gSeq (gFor (iTxt (gVar 2)) (tgName 4)
  t_behind_row_3)
  t_behind_row_4)
def t_behind_row_6 : FS :=
  (gSeq (gAsg (gOp (fAddL false) (gVar 1) (gC (.int 1))) (tgName 3))
  t_behind_row_5)
def t_behind_row_7 : FS :=
  (gSeq (gIfS (gTest (gOp (fIsN false) (gVar 2) (gC .non)))
  (gRet (gC .non))
  gNext)
  t_behind_row_6)
def t_behind_row_8 : FS :=
  (gSeq (gAsg (gCall (cFn 2 f_form_at) (gCons (gVar 0) (gCons (gVar 1) gNil))) (tgName 2))
  t_behind_row_7)
def b_behind_row : FS :=
  t_behind_row_8
theorem fx_behind_row : ∃ f : FC, f = fnC 6 b_behind_row := ⟨_, rfl⟩
def f_behind_row : FC := Classical.choose fx_behind_row
theorem fd_behind_row : f_behind_row = fnC 6 b_behind_row := Classical.choose_spec fx_behind_row
theorem e_behind_row (w0 w1 : W) (G : GH) : f_behind_row [w0, w1] G = ((b_behind_row [some w0, some w1, none, none, none, none] G).fin).calm := by rw [fd_behind_row]; rfl
def t_rows_of_words_1 : FS :=
  (gIfS (gTest (gOp (fIsN false) (gVar 2) (gC .non)))
  (gRet (gC .non))
  gNext)
def t_rows_of_words_2 : FS :=
  (gSeq (gAsg (gCall (cFn 2 f_behind_row) (gCons (gVar 0) (gCons (gVar 2) gNil))) (tgName 2))
  t_rows_of_words_1)
def t_rows_of_words_3 : FS :=
  (gSeq (gDrop (gMt "list" mAppend (gVar 1) (gCons (gVar 2) gNil)))
  t_rows_of_words_2)
def t_rows_of_words_4 : FS :=
  (gRet (gVar 1))
def t_rows_of_words_5 : FS :=
  (gSeq (gWhile (gTest (gOp fLt (gVar 2) (gCall cLen (gCons (gVar 0) gNil))))
  t_rows_of_words_3)
  t_rows_of_words_4)
def t_rows_of_words_6 : FS :=
  (gSeq (gAsg (gC (.int 0)) (tgName 2))
  t_rows_of_words_5)
def t_rows_of_words_7 : FS :=
  (gSeq (gAsg (gLst true gNil) (tgName 1))
  t_rows_of_words_6)
def t_rows_of_words_8 : FS :=
  (gSeq (gAsg (gCall cTuple (gCons (gVar 0) gNil)) (tgName 0))
  t_rows_of_words_7)
def b_rows_of_words : FS :=
  t_rows_of_words_8
theorem fx_rows_of_words : ∃ f : FC, f = fnC 3 b_rows_of_words := ⟨_, rfl⟩
def f_rows_of_words : FC := Classical.choose fx_rows_of_words
theorem fd_rows_of_words : f_rows_of_words = fnC 3 b_rows_of_words := Classical.choose_spec fx_rows_of_words
theorem e_rows_of_words (w0 : W) (G : GH) : f_rows_of_words [w0] G = ((b_rows_of_words [some w0, none, none] G).fin).calm := by rw [fd_rows_of_words]; rfl
def t_target_place_1 : FS :=
  (gRet (gIf (gTest (gOp fEq (gOp fIx (gVar 0) (gVar 1)) (gC (.int 7)))) (gOp fIx (gVar 0) (gOp (fAddL false) (gVar 1) (gC (.int 1)))) (gC .non)))
def t_target_place_2 : FS :=
  (gSeq (gIfS (gTest (gOp fEq (gOp fIx (gVar 0) (gVar 1)) (gC (.int 6))))
  (gRet (gOp fIx (gVar 0) (gOp (fAddL false) (gOp (fAddL false) (gVar 1) (gC (.int 2))) (gOp fMul (gC (.int 2)) (gC (.int 8))))))
  gNext)
  t_target_place_1)
def b_target_place : FS :=
  t_target_place_2
theorem fx_target_place : ∃ f : FC, f = fnC 2 b_target_place := ⟨_, rfl⟩
def f_target_place : FC := Classical.choose fx_target_place
theorem fd_target_place : f_target_place = fnC 2 b_target_place := Classical.choose_spec fx_target_place
theorem e_target_place (w0 w1 : W) (G : GH) : f_target_place [w0, w1] G = ((b_target_place [some w0, some w1] G).fin).calm := by rw [fd_target_place]; rfl
def t_plain_read_1 : FS :=
  (gRet (gTup (gCons (gIf (gTest (gOp fEq (gOp fIx (gVar 0) (gVar 1)) (gC (.int 1)))) (gC (.str "var")) (gC (.str "len"))) (gCons (gOp fIx (gVar 0) (gOp (fAddL false) (gVar 1) (gC (.int 1)))) (gCons (gOp fIx (gVar 0) (gOp (fAddL false) (gVar 1) (gC (.int 3)))) gNil)))))
def t_plain_read_2 : FS :=
  (gSeq (gIfS (gTest (gOp fEq (gOp fIx (gVar 0) (gVar 1)) (gC (.int 0))))
  (gRet (gTup (gCons (gC (.str "num")) (gCons (gOp fIx (gVar 0) (gOp (fAddL false) (gVar 1) (gC (.int 3)))) gNil))))
  gNext)
  t_plain_read_1)
def b_plain_read : FS :=
  t_plain_read_2
theorem fx_plain_read : ∃ f : FC, f = fnC 2 b_plain_read := ⟨_, rfl⟩
def f_plain_read : FC := Classical.choose fx_plain_read
theorem fd_plain_read : f_plain_read = fnC 2 b_plain_read := Classical.choose_spec fx_plain_read
theorem e_plain_read (w0 w1 : W) (G : GH) : f_plain_read [w0, w1] G = ((b_plain_read [some w0, some w1] G).fin).calm := by rw [fd_plain_read]; rfl
def t_argument_read_1 : FS :=
  (gRet (gIf (gTest (gOp fEq (gOp fIx (gVar 0) (gVar 1)) (gC (.int 0)))) (gTup (gCons (gC (.str "list")) (gCons (gOp fIx (gVar 0) (gOp (fAddL false) (gVar 1) (gC (.int 1)))) gNil))) (gCall (cFn 2 f_plain_read) (gCons (gVar 0) (gCons (gOp (fAddL false) (gVar 1) (gC (.int 1))) gNil)))))
def b_argument_read : FS :=
  t_argument_read_1
theorem fx_argument_read : ∃ f : FC, f = fnC 2 b_argument_read := ⟨_, rfl⟩
def f_argument_read : FC := Classical.choose fx_argument_read
theorem fd_argument_read : f_argument_read = fnC 2 b_argument_read := Classical.choose_spec fx_argument_read
theorem e_argument_read (w0 w1 : W) (G : GH) : f_argument_read [w0, w1] G = ((b_argument_read [some w0, some w1] G).fin).calm := by rw [fd_argument_read]; rfl
def t_call_read_1 : FS :=
  (gDrop (gMt "list" mAppend (gVar 2) (gCons (gCall (cFn 2 f_argument_read) (gCons (gVar 0) (gCons (gOp (fAddL false) (gOp (fAddL false) (gVar 1) (gC (.int 4))) (gOp fMul (gVar 3) (gC (.int 5)))) gNil))) gNil)))
def t_call_read_2 : FS :=
  (gRet (gTup (gCons (gC (.str "call")) (gCons (gOp fIx (gVar 0) (gOp (fAddL false) (gVar 1) (gC (.int 1)))) (gCons (gOp fIx (gVar 0) (gOp (fAddL false) (gVar 1) (gC (.int 2)))) (gCons (gCall cTuple (gCons (gVar 2) gNil)) gNil))))))
def t_call_read_3 : FS :=
  (gSeq (gFor (iRng asRng1 (gCons (gOp fIx (gVar 0) (gOp (fAddL false) (gVar 1) (gC (.int 3)))) gNil)) (tgName 3)
  t_call_read_1)
  t_call_read_2)
def t_call_read_4 : FS :=
  (gSeq (gAsg (gLst true gNil) (tgName 2))
  t_call_read_3)
def b_call_read : FS :=
  t_call_read_4
theorem fx_call_read : ∃ f : FC, f = fnC 4 b_call_read := ⟨_, rfl⟩
def f_call_read : FC := Classical.choose fx_call_read
theorem fd_call_read : f_call_read = fnC 4 b_call_read := Classical.choose_spec fx_call_read
theorem e_call_read (w0 w1 : W) (G : GH) : f_call_read [w0, w1] G = ((b_call_read [some w0, some w1, none, none] G).fin).calm := by rw [fd_call_read]; rfl
def t_term_read_1 : FS :=
  (gRet (gCall (cFn 2 f_plain_read) (gCons (gVar 0) (gCons (gVar 1) gNil))))
def t_term_read_2 : FS :=
  (gSeq (gIfS (gTest (gOp fEq (gOp fIx (gVar 0) (gVar 1)) (gC (.int 3))))
  (gRet (gTup (gCons (gC (.str "cell")) (gCons (gOp fIx (gVar 0) (gOp (fAddL false) (gVar 1) (gC (.int 1)))) (gCons (gCall (cFn 2 f_plain_read) (gCons (gVar 0) (gCons (gOp (fAddL false) (gVar 1) (gC (.int 4))) gNil))) (gCons (gOp fIx (gVar 0) (gOp (fAddL false) (gVar 1) (gC (.int 3)))) gNil))))))
  gNext)
  t_term_read_1)
def b_term_read : FS :=
  t_term_read_2
theorem fx_term_read : ∃ f : FC, f = fnC 2 b_term_read := ⟨_, rfl⟩
def f_term_read : FC := Classical.choose fx_term_read
theorem fd_term_read : f_term_read = fnC 2 b_term_read := Classical.choose_spec fx_term_read
theorem e_term_read (w0 w1 : W) (G : GH) : f_term_read [w0, w1] G = ((b_term_read [some w0, some w1] G).fin).calm := by rw [fd_term_read]; rfl
def t_row_read_1 : FS :=
  (gRet (gIf (gTest (gOp fEq (gVar 3) (gC (.int 8)))) (gTup (gCons (gC (.str "fail")) (gCons (gVar 4) gNil))) (gTup (gCons (gC (.str "return")) (gCons (gCall (cFn 2 f_term_read) (gCons (gVar 0) (gCons (gOp (fAddL false) (gVar 1) (gC (.int 1))) gNil))) gNil)))))
def t_row_read_2 : FS :=
  (gSeq (gIfS (gTest (gOp fEq (gVar 3) (gC (.int 7))))
  (gRet (gTup (gCons (gC (.str "jump")) (gCons (gOp fIxX (gVar 2) (gVar 4)) gNil))))
  gNext)
  t_row_read_1)
def t_row_read_3 : FS :=
  (gSeq (gIfS (gTest (gOp fEq (gVar 3) (gC (.int 6))))
  (gSeq (gAsg (gTup (gCons (gC (.str "test")) (gCons (gOp fIx (gC (.tup [(.str "<"), (.str "<="), (.str ">"), (.str ">="), (.str "=="), (.str "!=")])) (gVar 4)) (gCons (gCall (cFn 2 f_term_read) (gCons (gVar 0) (gCons (gVar 5) gNil))) (gCons (gCall (cFn 2 f_term_read) (gCons (gVar 0) (gCons (gOp (fAddL false) (gVar 5) (gC (.int 8))) gNil))) gNil))))) (tgName 6))
  (gRet (gOp (fAddL false) (gVar 6) (gTup (gCons (gOp fIxX (gVar 2) (gCall (cFn 2 f_target_place) (gCons (gVar 0) (gCons (gVar 1) gNil)))) gNil)))))
  gNext)
  t_row_read_2)
def t_row_read_4 : FS :=
  (gSeq (gIfS (gTest (gOp fEq (gVar 3) (gC (.int 5))))
  (gRet (gCall (cFn 2 f_call_read) (gCons (gVar 0) (gCons (gVar 1) gNil))))
  gNext)
  t_row_read_3)
def t_row_read_5 : FS :=
  (gSeq (gIfS (gTest (gOp (fIn false) (gVar 3) (gTup (gCons (gC (.int 3)) (gCons (gC (.int 4)) gNil)))))
  (gSeq (gAsg (gTup (gCons (gIf (gTest (gOp fEq (gVar 3) (gC (.int 3)))) (gC (.str "swap")) (gC (.str "choose"))) (gCons (gVar 4) gNil))) (tgName 6))
  (gRet (gOp (fAddL false) (gVar 6) (gTup (gCons (gCall (cFn 2 f_plain_read) (gCons (gVar 0) (gCons (gVar 5) gNil))) (gCons (gCall (cFn 2 f_plain_read) (gCons (gVar 0) (gCons (gOp (fAddL false) (gVar 5) (gC (.int 4))) gNil))) gNil))))))
  gNext)
  t_row_read_4)
def t_row_read_6 : FS :=
  (gSeq (gIfS (gTest (gOp fEq (gVar 3) (gC (.int 2))))
  (gRet (gTup (gCons (gC (.str "put")) (gCons (gVar 4) (gCons (gCall (cFn 2 f_plain_read) (gCons (gVar 0) (gCons (gVar 5) gNil))) (gCons (gCall (cFn 2 f_term_read) (gCons (gVar 0) (gCons (gOp (fAddL false) (gVar 5) (gC (.int 4))) gNil))) gNil))))))
  gNext)
  t_row_read_5)
def t_row_read_7 : FS :=
  (gSeq (gIfS (gTest (gOp fEq (gVar 3) (gC (.int 1))))
  (gRet (gTup (gCons (gC (.str "set")) (gCons (gVar 4) (gCons (gCall (cFn 2 f_term_read) (gCons (gVar 0) (gCons (gVar 5) gNil))) gNil)))))
  gNext)
  t_row_read_6)
def t_row_read_8 : FS :=
  (gSeq (gPar3 3 4 5 (gCons (gOp fIx (gVar 0) (gVar 1)) (gCons (gOp fIx (gVar 0) (gOp (fAddL false) (gVar 1) (gC (.int 1)))) (gCons (gOp (fAddL false) (gVar 1) (gC (.int 2))) gNil))))
  t_row_read_7)
def b_row_read : FS :=
  t_row_read_8
theorem fx_row_read : ∃ f : FC, f = fnC 7 b_row_read := ⟨_, rfl⟩
def f_row_read : FC := Classical.choose fx_row_read
theorem fd_row_read : f_row_read = fnC 7 b_row_read := Classical.choose_spec fx_row_read
theorem e_row_read (w0 w1 w2 : W) (G : GH) : f_row_read [w0, w1, w2] G = ((b_row_read [some w0, some w1, some w2, none, none, none, none] G).fin).calm := by rw [fd_row_read]; rfl
def t_is_integer_1 : FS :=
  (gRet (gAnd (gCall cIsa (gCons (gVar 0) (gCons (gC (.op (.ty "int"))) gNil))) (gNot (gCall cIsa (gCons (gVar 0) (gCons (gC (.op (.ty "bool"))) gNil))))))
def b_is_integer : FS :=
  t_is_integer_1
theorem fx_is_integer : ∃ f : FC, f = fnC 1 b_is_integer := ⟨_, rfl⟩
def f_is_integer : FC := Classical.choose fx_is_integer
theorem fd_is_integer : f_is_integer = fnC 1 b_is_integer := Classical.choose_spec fx_is_integer
theorem e_is_integer (w0 : W) (G : GH) : f_is_integer [w0] G = ((b_is_integer [some w0] G).fin).calm := by rw [fd_is_integer]; rfl
def t_read_body_1 : FS :=
  (gRet (gCall cTuple (gCons (gLc false (iSeq (gVar 1)) (tgName 4) gYes (gCall (cFn 3 f_row_read) (gCons (gVar 0) (gCons (gVar 4) (gCons (gVar 2) gNil)))) [4]) gNil)))
def t_read_body_2 : FS :=
  (gSeq (gIfS (gNotT (gTru (gCall cAll (gCons (gLc false (iSeq (gVar 3)) (tgName 8) gYes (gOr (gOp (fIsN false) (gVar 8) (gC .non)) (gOp (fInX false) (gVar 8) (gVar 2))) [8]) gNil))))
  (gRet (gC .non))
  gNext)
  t_read_body_1)
def t_read_body_3 : FS :=
  (gSeq (gAsg (gLc false (iSeq (gVar 1)) (tgName 4) gYes (gCall (cFn 2 f_target_place) (gCons (gVar 0) (gCons (gVar 4) gNil))) [4]) (tgName 3))
  t_read_body_2)
def t_read_body_4 : FS :=
  (gSeq (gAsg (gDc false (iRng asEnumB (gCons (gVar 1) gNil)) (tgTup 2 (tgCons (tgName 5) (tgCons (tgName 6) tgNil))) gYes (gVar 6) (gVar 5) [5, 6]) (tgName 2))
  t_read_body_3)
def t_read_body_5 : FS :=
  (gSeq (gIfS (gTest (gOp (fIsN false) (gVar 1) (gC .non)))
  (gRet (gC .non))
  gNext)
  t_read_body_4)
def t_read_body_6 : FS :=
  (gSeq (gAsg (gFrz (gCall (cFn 1 f_rows_of_words) (gCons (gVar 0) gNil))) (tgName 1))
  t_read_body_5)
def t_read_body_7 : FS :=
  (gSeq (gIfS (gNotT (gTru (gCall cAll (gCons (gLc false (iSeq (gVar 0)) (tgName 7) gYes (gCall (cFn 1 f_is_integer) (gCons (gVar 7) gNil)) [7]) gNil))))
  (gRet (gC .non))
  gNext)
  t_read_body_6)
def t_read_body_8 : FS :=
  (gSeq (gAsg (gCall cTuple (gCons (gVar 0) gNil)) (tgName 0))
  t_read_body_7)
def b_read_body : FS :=
  t_read_body_8
theorem fx_read_body : ∃ f : FC, f = fnC 9 b_read_body := ⟨_, rfl⟩
def f_read_body : FC := Classical.choose fx_read_body
theorem fd_read_body : f_read_body = fnC 9 b_read_body := Classical.choose_spec fx_read_body
theorem e_read_body (w0 : W) (G : GH) : f_read_body [w0] G = ((b_read_body [some w0, none, none, none, none, none, none, none, none] G).fin).calm := by rw [fd_read_body]; rfl
def t__law_next_1 : FS :=
  (gRet (gLst false (gCons (gOp (fAddL false) (gVar 1) (gC (.int 1))) gNil)))
def t__law_next_2 : FS :=
  (gSeq (gIfS (gAndT (gTest (gOp fEq (gOp fIx (gVar 2) (gC (.int 0))) (gC (.str "test")))) (gTest (gOp fNe (gOp fIx (gVar 2) (gC (.int 4))) (gOp (fAddL false) (gVar 1) (gC (.int 1))))))
  (gRet (gLst false (gCons (gOp (fAddL false) (gVar 1) (gC (.int 1))) (gCons (gOp fIx (gVar 2) (gC (.int 4))) gNil))))
  gNext)
  t__law_next_1)
def t__law_next_3 : FS :=
  (gSeq (gIfS (gTest (gOp fEq (gOp fIx (gVar 2) (gC (.int 0))) (gC (.str "jump"))))
  (gRet (gLst false (gCons (gOp fIx (gVar 2) (gC (.int 1))) gNil)))
  gNext)
  t__law_next_2)
def t__law_next_4 : FS :=
  (gSeq (gIfS (gOrT (gTest (gOp fEq (gOp fIx (gVar 2) (gC (.int 0))) (gC (.str "return")))) (gTest (gOp fEq (gOp fIx (gVar 2) (gC (.int 0))) (gC (.str "fail")))))
  (gRet (gLst false gNil))
  gNext)
  t__law_next_3)
def t__law_next_5 : FS :=
  (gSeq (gAsg (gOp fIx (gVar 0) (gVar 1)) (tgName 2))
  t__law_next_4)
def b__law_next : FS :=
  t__law_next_5
theorem fx__law_next : ∃ f : FC, f = fnC 3 b__law_next := ⟨_, rfl⟩
def f__law_next : FC := Classical.choose fx__law_next
theorem fd__law_next : f__law_next = fnC 3 b__law_next := Classical.choose_spec fx__law_next
theorem e__law_next (w0 w1 : W) (G : GH) : f__law_next [w0, w1] G = ((b__law_next [some w0, some w1, none] G).fin).calm := by rw [fd__law_next]; rfl
def t__law_heads_1 : FS :=
  (gIfS (gAndT (gOrT (gTest (gOp fEq (gOp fIx (gOp fIx (gVar 0) (gVar 3)) (gC (.int 0))) (gC (.str "jump")))) (gTest (gOp fEq (gOp fIx (gOp fIx (gVar 0) (gVar 3)) (gC (.int 0))) (gC (.str "test"))))) (gTest (gOp fLe (gOp fIx (gOp fIx (gVar 0) (gVar 3)) (gVar 6)) (gVar 3))))
  (gSet (gC (.bl true)) (gVar 2) (gOp fIx (gOp fIx (gVar 0) (gVar 3)) (gVar 6)))
  gNext)
def t__law_heads_2 : FS :=
  (gSeq (gAsg (gOp fSub (gCall cLen (gCons (gOp fIx (gVar 0) (gVar 3)) gNil)) (gC (.int 1))) (tgName 6))
  t__law_heads_1)
def t__law_heads_3 : FS :=
  (gIfS (gTru (gVar 4))
  (gSeq (gAsg (gMt "list" mPop (gVar 4) gNil) (tgName 3))
  (gIfS (gNotT (gTru (gOp fIx (gVar 1) (gVar 3))))
  (gSeq (gSet (gC (.bl true)) (gVar 1) (gVar 3))
  (gAsg (gOp (fAddL true) (gVar 4) (gCall (cFn 2 f__law_next) (gCons (gVar 0) (gCons (gVar 3) gNil)))) (tgName 4)))
  gNext))
  gNext)
def t__law_heads_4 : FS :=
  (gRet (gLc false (iRng asRng1 (gCons (gCall cLen (gCons (gVar 0) gNil)) gNil)) (tgName 3) (gAndT (gTru (gOp fIx (gVar 1) (gVar 3))) (gTru (gOp fIx (gVar 2) (gVar 3)))) (gVar 3) [3]))
def t__law_heads_5 : FS :=
  (gSeq (gFor (iRng asRng1 (gCons (gOp (fAddL false) (gOp fMul (gC (.int 2)) (gCall cLen (gCons (gVar 0) gNil))) (gC (.int 2))) gNil)) (tgName 5)
  t__law_heads_3)
  t__law_heads_4)
def t__law_heads_6 : FS :=
  (gSeq (gAsg (gLst true (gCons (gC (.int 0)) gNil)) (tgName 4))
  t__law_heads_5)
def t__law_heads_7 : FS :=
  (gSeq (gFor (iRng asRng1 (gCons (gCall cLen (gCons (gVar 0) gNil)) gNil)) (tgName 3)
  t__law_heads_2)
  t__law_heads_6)
def t__law_heads_8 : FS :=
  (gSeq (gAsg (gLc true (iSeq (gVar 0)) (tgName 7) gYes (gC (.bl false)) [7]) (tgName 2))
  t__law_heads_7)
def t__law_heads_9 : FS :=
  (gSeq (gAsg (gLc true (iSeq (gVar 0)) (tgName 7) gYes (gC (.bl false)) [7]) (tgName 1))
  t__law_heads_8)
def b__law_heads : FS :=
  t__law_heads_9
theorem fx__law_heads : ∃ f : FC, f = fnC 8 b__law_heads := ⟨_, rfl⟩
def f__law_heads : FC := Classical.choose fx__law_heads
theorem fd__law_heads : f__law_heads = fnC 8 b__law_heads := Classical.choose_spec fx__law_heads
theorem e__law_heads (w0 : W) (G : GH) : f__law_heads [w0] G = ((b__law_heads [some w0, none, none, none, none, none, none, none] G).fin).calm := by rw [fd__law_heads]; rfl
def t__law_draw_1 : FS :=
  (gRet (gOp fMod (gCall cInt (gCons (gOp fDiv (gVar 5) (gC (.int 7))) gNil)) (gVar 1)))
def t__law_draw_2 : FS :=
  (gSeq (gAsg (gOp fMod (gCall cInt (gCons (gOp (fAddL false) (gOp (fAddL false) (gOp fMul (gOp fDiv (gVar 4) (gC (.int 65536))) (gC (.int 40503))) (gOp fMul (gVar 4) (gC (.int 31)))) (gVar 3)) gNil)) (gC (.int 1073741789))) (tgName 5))
  t__law_draw_1)
def t__law_draw_3 : FS :=
  (gSeq (gAsg (gOp fMod (gCall cInt (gCons (gOp (fAddL false) (gOp (fAddL false) (gOp fMul (gVar 3) (gVar 3)) (gOp fMul (gC (.int 48271)) (gVar 3))) (gOp fIx (gVar 0) (gC (.int 3)))) gNil)) (gC (.int 2147483629))) (tgName 4))
  t__law_draw_2)
def t__law_draw_4 : FS :=
  (gSeq (gAsg (gOp fMod (gCall cInt (gCons (gOp (fAddL false) (gVar 2) (gOp fMul (gC (.int 7919)) (gOp fIx (gVar 0) (gC (.int 3))))) gNil)) (gC (.int 2147483647))) (tgName 3))
  t__law_draw_3)
def t__law_draw_5 : FS :=
  (gSeq (gIfS (gAndT (gTest (gOp fLe (gOp fIx (gVar 0) (gC (.int 1))) (gCall cLen (gCons (gOp fIx (gVar 0) (gC (.int 0))) gNil)))) (gTest (gOp fGe (gVar 2) (gOp fPow (gC (.int 10)) (gC (.int 18))))))
  (gSeq (gSet (gOp fDiv (gVar 2) (gVar 1)) (gVar 0) (gC (.int 2)))
  (gRet (gOp fMod (gCall cInt (gCons (gVar 2) gNil)) (gVar 1))))
  gNext)
  t__law_draw_4)
def t__law_draw_6 : FS :=
  (gSeq (gSet (gOp (fAddL false) (gOp fIx (gVar 0) (gC (.int 1))) (gC (.int 1))) (gVar 0) (gC (.int 1)))
  t__law_draw_5)
def t__law_draw_7 : FS :=
  (gSeq (gIfS (gTru (gOp fIx (gVar 0) (gC (.int 0))))
  (gAsg (gOp fIx (gOp fIx (gVar 0) (gC (.int 0))) (gOp fMod (gCall cInt (gCons (gOp fIx (gVar 0) (gC (.int 1))) gNil)) (gCall cLen (gCons (gOp fIx (gVar 0) (gC (.int 0))) gNil)))) (tgName 2))
  gNext)
  t__law_draw_6)
def t__law_draw_8 : FS :=
  (gSeq (gAsg (gC (.int 0)) (tgName 2))
  t__law_draw_7)
def t__law_draw_9 : FS :=
  (gSeq (gIfS (gTest (gOp fGe (gOp fIx (gVar 0) (gC (.int 2))) (gVar 1)))
  (gSeq (gAsg (gOp fMod (gCall cInt (gCons (gOp fIx (gVar 0) (gC (.int 2))) gNil)) (gVar 1)) (tgName 6))
  (gSeq (gSet (gOp fDiv (gOp fIx (gVar 0) (gC (.int 2))) (gVar 1)) (gVar 0) (gC (.int 2)))
  (gRet (gVar 6))))
  gNext)
  t__law_draw_8)
def t__law_draw_10 : FS :=
  (gSeq (gSet (gOp (fAddL false) (gOp fIx (gVar 0) (gC (.int 3))) (gC (.int 1))) (gVar 0) (gC (.int 3)))
  t__law_draw_9)
def b__law_draw : FS :=
  t__law_draw_10
theorem fx__law_draw : ∃ f : FC, f = fnC 7 b__law_draw := ⟨_, rfl⟩
def f__law_draw : FC := Classical.choose fx__law_draw
theorem fd__law_draw : f__law_draw = fnC 7 b__law_draw := Classical.choose_spec fx__law_draw
theorem e__law_draw (w0 w1 : W) (G : GH) : f__law_draw [w0, w1] G = ((b__law_draw [some w0, some w1, none, none, none, none, none] G).fin).calm := by rw [fd__law_draw]; rfl
def t_step_targets_1 : FS :=
  (gRet (gVar 3))
def t_step_targets_2 : FS :=
  (gSeq (gIfS (gAndT (gTest (gOp fEq (gOp fIx (gVar 2) (gC (.int 0))) (gC (.str "test")))) (gTest (gOp (fIn true) (gOp fIx (gVar 2) (gC (.int 4))) (gVar 3))))
  (gDrop (gMt "list" mAppend (gVar 3) (gCons (gOp fIx (gVar 2) (gC (.int 4))) gNil)))
  gNext)
  t_step_targets_1)
def t_step_targets_3 : FS :=
  (gSeq (gAsg (gIf (gTest (gOp fLt (gOp (fAddL false) (gVar 1) (gC (.int 1))) (gCall cLen (gCons (gVar 0) gNil)))) (gLst true (gCons (gOp (fAddL false) (gVar 1) (gC (.int 1))) gNil)) (gLst true gNil)) (tgName 3))
  t_step_targets_2)
def t_step_targets_4 : FS :=
  (gSeq (gIfS (gTest (gOp fEq (gOp fIx (gVar 2) (gC (.int 0))) (gC (.str "jump"))))
  (gRet (gLst true (gCons (gOp fIx (gVar 2) (gC (.int 1))) gNil)))
  gNext)
  t_step_targets_3)
def t_step_targets_5 : FS :=
  (gSeq (gIfS (gTest (gOp (fIn false) (gOp fIx (gVar 2) (gC (.int 0))) (gTup (gCons (gC (.str "return")) (gCons (gC (.str "fail")) gNil)))))
  (gRet (gLst true gNil))
  gNext)
  t_step_targets_4)
def t_step_targets_6 : FS :=
  (gSeq (gAsg (gOp fIx (gVar 0) (gVar 1)) (tgName 2))
  t_step_targets_5)
def b_step_targets : FS :=
  t_step_targets_6
theorem fx_step_targets : ∃ f : FC, f = fnC 4 b_step_targets := ⟨_, rfl⟩
def f_step_targets : FC := Classical.choose fx_step_targets
theorem fd_step_targets : f_step_targets = fnC 4 b_step_targets := Classical.choose_spec fx_step_targets
theorem e_step_targets (w0 w1 : W) (G : GH) : f_step_targets [w0, w1] G = ((b_step_targets [some w0, some w1, none, none] G).fin).calm := by rw [fd_step_targets]; rfl
def t_reached_1 : FS :=
  (gIfS (gTest (gOp (fInX true) (gVar 3) (gVar 1)))
  (gSeq (gSetX (gC (.bl true)) (gVar 1) (gVar 3))
  (gDrop (gMt "list" mAppend (gVar 2) (gCons (gVar 3) gNil))))
  gNext)
def t_reached_2 : FS :=
  (gFor (iSeq (gFrz (gCall (cFn 2 f_step_targets) (gCons (gVar 0) (gCons (gMt "list" mPop (gVar 2) gNil) gNil))))) (tgName 3)
  t_reached_1)
def t_reached_3 : FS :=
  (gRet (gVar 1))
def t_reached_4 : FS :=
  (gSeq (gWhile (gTest (gOp fGt (gCall cLen (gCons (gVar 2) gNil)) (gC (.int 0))))
  t_reached_2)
  t_reached_3)
def t_reached_5 : FS :=
  (gSeq (gAsg (gCall (cListD true) (gCons (gVar 1) gNil)) (tgName 2))
  t_reached_4)
def t_reached_6 : FS :=
  (gSeq (gAsg (gIf (gTest (gOp fGt (gCall cLen (gCons (gVar 0) gNil)) (gC (.int 0)))) (gDL true [(.inl (0))] [(.bl true)]) (gD0 true)) (tgName 1))
  t_reached_5)
def b_reached : FS :=
  t_reached_6
theorem fx_reached : ∃ f : FC, f = fnC 4 b_reached := ⟨_, rfl⟩
def f_reached : FC := Classical.choose fx_reached
theorem fd_reached : f_reached = fnC 4 b_reached := Classical.choose_spec fx_reached
theorem e_reached (w0 : W) (G : GH) : f_reached [w0] G = ((b_reached [some w0, none, none, none] G).fin).calm := by rw [fd_reached]; rfl
def t_heads_of_1 : FS :=
  (gIfS (gAndT (gTest (gOp (fIn false) (gOp fIx (gVar 4) (gC (.int 0))) (gTup (gCons (gC (.str "test")) (gCons (gC (.str "jump")) gNil))))) (gAndT (gTest (gOp fLe (gOp fIx (gVar 4) (gNeg (gC (.int 1)))) (gVar 3))) (gTest (gOp (fInX false) (gOp fIx (gVar 4) (gNeg (gC (.int 1)))) (gVar 1)))))
  (gSetX (gC (.bl true)) (gVar 2) (gOp fIx (gVar 4) (gNeg (gC (.int 1)))))
  gNext)
def t_heads_of_2 : FS :=
  (gRet (gCall (cSortD true) (gCons (gVar 2) gNil)))
def t_heads_of_3 : FS :=
  (gSeq (gFor (iRng asEnumB (gCons (gVar 0) gNil)) (tgTup 2 (tgCons (tgName 3) (tgCons (tgName 4) tgNil)))
  t_heads_of_1)
  t_heads_of_2)
def t_heads_of_4 : FS :=
  (gSeq (gAsg (gD0 true) (tgName 2))
  t_heads_of_3)
def t_heads_of_5 : FS :=
  (gSeq (gAsg (gFrz (gCall (cFn 1 f_reached) (gCons (gVar 0) gNil))) (tgName 1))
  t_heads_of_4)
def b_heads_of : FS :=
  t_heads_of_5
theorem fx_heads_of : ∃ f : FC, f = fnC 5 b_heads_of := ⟨_, rfl⟩
def f_heads_of : FC := Classical.choose fx_heads_of
theorem fd_heads_of : f_heads_of = fnC 5 b_heads_of := Classical.choose_spec fx_heads_of
theorem e_heads_of (w0 : W) (G : GH) : f_heads_of [w0] G = ((b_heads_of [some w0, none, none, none, none] G).fin).calm := by rw [fd_heads_of]; rfl
def t__law_asked_1 : FS :=
  (gIfS (gTest (gOp fNe (gFrz (gCall (cFn 2 f_step_targets) (gCons (gVar 0) (gCons (gVar 3) gNil)))) (gCall (cFn 2 f__law_next) (gCons (gVar 0) (gCons (gVar 3) gNil)))))
  (gRet (gC (.bl false)))
  gNext)
def t__law_asked_2 : FS :=
  (gSeq (gDrop (gMt "list" mAppend (gVar 4) (gCons (gVar 3) gNil)))
  t__law_asked_1)
def t__law_asked_3 : FS :=
  (gSeq (gIfS (gOrT (gNotT (gTru (gCall cIsa (gCons (gVar 4) (gCons (gC (.op (.ty "list"))) gNil))))) (gTest (gOp fNe (gVar 4) (gCall (cFn 2 f__law_next) (gCons (gVar 0) (gCons (gVar 3) gNil))))))
  (gRet (gC (.bl false)))
  gNext)
  t__law_asked_2)
def t__law_asked_4 : FS :=
  (gSeq (gAsg (gCall (cFn 2 f_step_targets) (gCons (gVar 0) (gCons (gVar 3) gNil))) (tgName 4))
  t__law_asked_3)
def t__law_asked_5 : FS :=
  (gRet (gOp fEq (gFrz (gCall (cFn 1 f_heads_of) (gCons (gVar 0) gNil))) (gVar 1)))
def t__law_asked_6 : FS :=
  (gSeq (gDrop (gMt "list" mInsert (gVar 2) (gCons (gC (.int 0)) (gCons (gCall cLen (gCons (gVar 0) gNil)) gNil))))
  t__law_asked_5)
def t__law_asked_7 : FS :=
  (gSeq (gFor (iRng asRng1 (gCons (gCall cLen (gCons (gVar 0) gNil)) gNil)) (tgName 3)
  t__law_asked_4)
  t__law_asked_6)
def t__law_asked_8 : FS :=
  (gSeq (gIfS (gOrT (gNotT (gTru (gCall cIsa (gCons (gVar 2) (gCons (gC (.op (.ty "list"))) gNil))))) (gOrT (gTest (gOp fNe (gVar 2) (gVar 1))) (gTest (gOp (fIn false) (gC (.bl true)) (gLc false (iSeq (gVar 2)) (tgName 3) gYes (gCall cIsa (gCons (gVar 3) (gCons (gC (.op (.ty "bool"))) gNil))) [3])))))
  (gRet (gC (.bl false)))
  gNext)
  t__law_asked_7)
def t__law_asked_9 : FS :=
  (gSeq (gAsg (gCall (cFn 1 f_heads_of) (gCons (gVar 0) gNil)) (tgName 2))
  t__law_asked_8)
def b__law_asked : FS :=
  t__law_asked_9
theorem fx__law_asked : ∃ f : FC, f = fnC 5 b__law_asked := ⟨_, rfl⟩
def f__law_asked : FC := Classical.choose fx__law_asked
theorem fd__law_asked : f__law_asked = fnC 5 b__law_asked := Classical.choose_spec fx__law_asked
theorem e__law_asked (w0 w1 : W) (G : GH) : f__law_asked [w0, w1] G = ((b__law_asked [some w0, some w1, none, none, none] G).fin).calm := by rw [fd__law_asked]; rfl
def t__law_number_1 : FS :=
  (gRet (gOp fSub (gVar 1) (gC (.int 4))))
def t__law_number_2 : FS :=
  (gSeq (gIfS (gTest (gOp fEq (gVar 1) (gC (.int 11))))
  (gRet (gOp fSub (gCall (cFn 2 f__law_draw) (gCons (gVar 0) (gCons (gOp fPow (gC (.int 10)) (gC (.int 9))) gNil))) (gOp fMul (gC (.int 5)) (gOp fPow (gC (.int 10)) (gC (.int 8))))))
  gNext)
  t__law_number_1)
def t__law_number_3 : FS :=
  (gSeq (gAsg (gCall (cFn 2 f__law_draw) (gCons (gVar 0) (gCons (gC (.int 12)) gNil))) (tgName 1))
  t__law_number_2)
def b__law_number : FS :=
  t__law_number_3
theorem fx__law_number : ∃ f : FC, f = fnC 2 b__law_number := ⟨_, rfl⟩
def f__law_number : FC := Classical.choose fx__law_number
theorem fd__law_number : f__law_number = fnC 2 b__law_number := Classical.choose_spec fx__law_number
theorem e__law_number (w0 : W) (G : GH) : f__law_number [w0] G = ((b__law_number [some w0, none] G).fin).calm := by rw [fd__law_number]; rfl
def t__law_plain_1 : FS :=
  (gRet (gTup (gCons (gC (.str "var")) (gCons (gCall (cFn 2 f__law_draw) (gCons (gVar 0) (gCons (gOp fIx (gVar 1) (gC (.int 1))) gNil))) (gCons (gOp fSub (gCall (cFn 2 f__law_draw) (gCons (gVar 0) (gCons (gC (.int 5)) gNil))) (gC (.int 2))) gNil)))))
def t__law_plain_2 : FS :=
  (gSeq (gIfS (gAndT (gTest (gOp fEq (gVar 2) (gC (.int 1)))) (gTest (gOp fGt (gOp fIx (gVar 1) (gC (.int 2))) (gC (.int 0)))))
  (gRet (gTup (gCons (gC (.str "len")) (gCons (gCall (cFn 2 f__law_draw) (gCons (gVar 0) (gCons (gOp fIx (gVar 1) (gC (.int 2))) gNil))) (gCons (gOp fSub (gCall (cFn 2 f__law_draw) (gCons (gVar 0) (gCons (gC (.int 4)) gNil))) (gC (.int 2))) gNil)))))
  gNext)
  t__law_plain_1)
def t__law_plain_3 : FS :=
  (gSeq (gIfS (gTest (gOp fEq (gVar 2) (gC (.int 0))))
  (gRet (gTup (gCons (gC (.str "num")) (gCons (gCall (cFn 1 f__law_number) (gCons (gVar 0) gNil)) gNil))))
  gNext)
  t__law_plain_2)
def t__law_plain_4 : FS :=
  (gSeq (gAsg (gCall (cFn 2 f__law_draw) (gCons (gVar 0) (gCons (gC (.int 6)) gNil))) (tgName 2))
  t__law_plain_3)
def b__law_plain : FS :=
  t__law_plain_4
theorem fx__law_plain : ∃ f : FC, f = fnC 3 b__law_plain := ⟨_, rfl⟩
def f__law_plain : FC := Classical.choose fx__law_plain
theorem fd__law_plain : f__law_plain = fnC 3 b__law_plain := Classical.choose_spec fx__law_plain
theorem e__law_plain (w0 w1 : W) (G : GH) : f__law_plain [w0, w1] G = ((b__law_plain [some w0, some w1, none] G).fin).calm := by rw [fd__law_plain]; rfl
def t__law_term_1 : FS :=
  (gRet (gVar 2))
def t__law_term_2 : FS :=
  (gSeq (gIfS (gAndT (gTest (gOp fGt (gOp fIx (gVar 1) (gC (.int 2))) (gC (.int 0)))) (gTest (gOp fEq (gCall (cFn 2 f__law_draw) (gCons (gVar 0) (gCons (gC (.int 3)) gNil))) (gC (.int 0)))))
  (gRet (gTup (gCons (gC (.str "cell")) (gCons (gCall (cFn 2 f__law_draw) (gCons (gVar 0) (gCons (gOp fIx (gVar 1) (gC (.int 2))) gNil))) (gCons (gVar 2) (gCons (gOp fSub (gCall (cFn 2 f__law_draw) (gCons (gVar 0) (gCons (gC (.int 3)) gNil))) (gC (.int 1))) gNil))))))
  gNext)
  t__law_term_1)
def t__law_term_3 : FS :=
  (gSeq (gAsg (gCall (cFn 2 f__law_plain) (gCons (gVar 0) (gCons (gVar 1) gNil))) (tgName 2))
  t__law_term_2)
def b__law_term : FS :=
  t__law_term_3
theorem fx__law_term : ∃ f : FC, f = fnC 3 b__law_term := ⟨_, rfl⟩
def f__law_term : FC := Classical.choose fx__law_term
theorem fd__law_term : f__law_term = fnC 3 b__law_term := Classical.choose_spec fx__law_term
theorem e__law_term (w0 w1 : W) (G : GH) : f__law_term [w0, w1] G = ((b__law_term [some w0, some w1, none] G).fin).calm := by rw [fd__law_term]; rfl
def t__law_arguments_1 : FS :=
  (gIfS (gOrT (gTest (gOp fEq (gVar 3) (gC (.int 0)))) (gAndT (gTest (gOp fGt (gVar 4) (gC (.int 0)))) (gTest (gOp fEq (gCall (cFn 2 f__law_draw) (gCons (gVar 0) (gCons (gC (.int 2)) gNil))) (gC (.int 0))))))
  (gSeq (gDrop (gMt "list" mAppend (gVar 5) (gCons (gTup (gCons (gC (.str "list")) (gCons (gCall (cFn 2 f__law_draw) (gCons (gVar 0) (gCons (gOp fIx (gVar 1) (gC (.int 2))) gNil))) gNil))) gNil)))
  (gAsg (gOp fSub (gVar 4) (gC (.int 1))) (tgName 4)))
  (gSeq (gDrop (gMt "list" mAppend (gVar 5) (gCons (gCall (cFn 2 f__law_plain) (gCons (gVar 0) (gCons (gVar 1) gNil))) gNil)))
  (gAsg (gOp fSub (gVar 3) (gC (.int 1))) (tgName 3))))
def t__law_arguments_2 : FS :=
  (gRet (gCall cTuple (gCons (gVar 5) gNil)))
def t__law_arguments_3 : FS :=
  (gSeq (gFor (iRng asRng1 (gCons (gOp (fAddL false) (gOp fIx (gVar 2) (gC (.int 0))) (gOp fIx (gVar 2) (gC (.int 2)))) gNil)) (tgName 6)
  t__law_arguments_1)
  t__law_arguments_2)
def t__law_arguments_4 : FS :=
  (gSeq (gAsg (gLst true gNil) (tgName 5))
  t__law_arguments_3)
def t__law_arguments_5 : FS :=
  (gSeq (gAsg (gOp fIx (gVar 2) (gC (.int 2))) (tgName 4))
  t__law_arguments_4)
def t__law_arguments_6 : FS :=
  (gSeq (gAsg (gOp fIx (gVar 2) (gC (.int 0))) (tgName 3))
  t__law_arguments_5)
def b__law_arguments : FS :=
  t__law_arguments_6
theorem fx__law_arguments : ∃ f : FC, f = fnC 7 b__law_arguments := ⟨_, rfl⟩
def f__law_arguments : FC := Classical.choose fx__law_arguments
theorem fd__law_arguments : f__law_arguments = fnC 7 b__law_arguments := Classical.choose_spec fx__law_arguments
theorem e__law_arguments (w0 w1 w2 : W) (G : GH) : f__law_arguments [w0, w1, w2] G = ((b__law_arguments [some w0, some w1, some w2, none, none, none, none] G).fin).calm := by rw [fd__law_arguments]; rfl
def t__law_straight_1 : FS :=
  (gRet (gTup (gCons (gC (.str "set")) (gCons (gVar 5) (gCons (gCall (cFn 2 f__law_term) (gCons (gVar 0) (gCons (gVar 1) gNil))) gNil)))))
def t__law_straight_2 : FS :=
  (gSeq (gIfS (gAndT (gTest (gOp fEq (gVar 4) (gC (.int 4)))) (gTru (gVar 3)))
  (gSeq (gAsg (gOp fIx (gVar 3) (gCall (cFn 2 f__law_draw) (gCons (gVar 0) (gCons (gCall cLen (gCons (gVar 3) gNil)) gNil)))) (tgName 6))
  (gIfS (gOrT (gTest (gOp fEq (gOp fIx (gOp fIx (gVar 6) (gC (.int 1))) (gC (.int 2))) (gC (.int 0)))) (gTest (gOp fGt (gOp fIx (gVar 1) (gC (.int 2))) (gC (.int 0)))))
  (gRet (gTup (gCons (gC (.str "call")) (gCons (gVar 5) (gCons (gOp fIx (gVar 6) (gC (.int 0))) (gCons (gCall (cFn 3 f__law_arguments) (gCons (gVar 0) (gCons (gVar 1) (gCons (gOp fIx (gVar 6) (gC (.int 1))) gNil)))) gNil))))))
  gNext))
  gNext)
  t__law_straight_1)
def t__law_straight_3 : FS :=
  (gSeq (gIfS (gTest (gOp fEq (gVar 4) (gC (.int 3))))
  (gRet (gTup (gCons (gC (.str "choose")) (gCons (gVar 5) (gCons (gCall (cFn 2 f__law_plain) (gCons (gVar 0) (gCons (gVar 1) gNil))) (gCons (gCall (cFn 2 f__law_plain) (gCons (gVar 0) (gCons (gVar 1) gNil))) gNil))))))
  gNext)
  t__law_straight_2)
def t__law_straight_4 : FS :=
  (gSeq (gIfS (gAndT (gTest (gOp fEq (gVar 4) (gC (.int 2)))) (gTest (gOp fGt (gOp fIx (gVar 1) (gC (.int 2))) (gC (.int 0)))))
  (gRet (gTup (gCons (gC (.str "swap")) (gCons (gCall (cFn 2 f__law_draw) (gCons (gVar 0) (gCons (gOp fIx (gVar 1) (gC (.int 2))) gNil))) (gCons (gCall (cFn 2 f__law_plain) (gCons (gVar 0) (gCons (gVar 1) gNil))) (gCons (gCall (cFn 2 f__law_plain) (gCons (gVar 0) (gCons (gVar 1) gNil))) gNil))))))
  gNext)
  t__law_straight_3)
def t__law_straight_5 : FS :=
  (gSeq (gIfS (gAndT (gTest (gOp fLt (gVar 4) (gC (.int 2)))) (gTest (gOp fGt (gOp fIx (gVar 1) (gC (.int 2))) (gC (.int 0)))))
  (gRet (gTup (gCons (gC (.str "put")) (gCons (gCall (cFn 2 f__law_draw) (gCons (gVar 0) (gCons (gOp fIx (gVar 1) (gC (.int 2))) gNil))) (gCons (gCall (cFn 2 f__law_plain) (gCons (gVar 0) (gCons (gVar 1) gNil))) (gCons (gCall (cFn 2 f__law_term) (gCons (gVar 0) (gCons (gVar 1) gNil))) gNil))))))
  gNext)
  t__law_straight_4)
def t__law_straight_6 : FS :=
  (gSeq (gAsg (gOp fIx (gVar 2) (gCall (cFn 2 f__law_draw) (gCons (gVar 0) (gCons (gCall cLen (gCons (gVar 2) gNil)) gNil)))) (tgName 5))
  t__law_straight_5)
def t__law_straight_7 : FS :=
  (gSeq (gAsg (gCall (cFn 2 f__law_draw) (gCons (gVar 0) (gCons (gC (.int 8)) gNil))) (tgName 4))
  t__law_straight_6)
def b__law_straight : FS :=
  t__law_straight_7
theorem fx__law_straight : ∃ f : FC, f = fnC 7 b__law_straight := ⟨_, rfl⟩
def f__law_straight : FC := Classical.choose fx__law_straight
theorem fd__law_straight : f__law_straight = fnC 7 b__law_straight := Classical.choose_spec fx__law_straight
theorem e__law_straight (w0 w1 w2 w3 : W) (G : GH) : f__law_straight [w0, w1, w2, w3] G = ((b__law_straight [some w0, some w1, some w2, some w3, none, none, none] G).fin).calm := by rw [fd__law_straight]; rfl
def t__law_test_1 : FS :=
  (gRet (gTup (gCons (gC (.str "test")) (gCons (gVar 3) (gCons (gCall (cFn 2 f__law_term) (gCons (gVar 0) (gCons (gVar 1) gNil))) (gCons (gCall (cFn 2 f__law_term) (gCons (gVar 0) (gCons (gVar 1) gNil))) (gCons (gVar 2) gNil)))))))
def t__law_test_2 : FS :=
  (gSeq (gAsg (gOp fIx (gLst false (gCons (gC (.str "<")) (gCons (gC (.str "<=")) (gCons (gC (.str ">")) (gCons (gC (.str ">=")) (gCons (gC (.str "==")) (gCons (gC (.str "!=")) gNil))))))) (gCall (cFn 2 f__law_draw) (gCons (gVar 0) (gCons (gC (.int 6)) gNil)))) (tgName 3))
  t__law_test_1)
def b__law_test : FS :=
  t__law_test_2
theorem fx__law_test : ∃ f : FC, f = fnC 4 b__law_test := ⟨_, rfl⟩
def f__law_test : FC := Classical.choose fx__law_test
theorem fd__law_test : f__law_test = fnC 4 b__law_test := Classical.choose_spec fx__law_test
theorem e__law_test (w0 w1 w2 : W) (G : GH) : f__law_test [w0, w1, w2] G = ((b__law_test [some w0, some w1, some w2, none] G).fin).calm := by rw [fd__law_test]; rfl
def t__law_row_1 : FS :=
  (gRet (gCall (cFn 4 f__law_straight) (gCons (gVar 0) (gCons (gVar 4) (gCons (gLst false (gCons (gC (.int 0)) (gCons (gC (.int 1)) (gCons (gC (.int 2)) gNil)))) (gCons (gLst false (gCons (gTup (gCons (gC (.int 0)) (gCons (gVar 4) gNil))) gNil)) gNil))))))
def t__law_row_2 : FS :=
  (gSeq (gIfS (gTest (gOp fEq (gVar 2) (gC (.int 3))))
  (gRet (gOp fIx (gLst false (gCons (gTup (gCons (gC (.str "fail")) (gCons (gOp (fAddL false) (gC (.int 1)) (gVar 3)) gNil))) (gCons (gTup (gCons (gC (.str "return")) (gCons (gCall (cFn 2 f__law_term) (gCons (gVar 0) (gCons (gVar 4) gNil))) gNil))) gNil))) (gCall (cFn 2 f__law_draw) (gCons (gVar 0) (gCons (gC (.int 2)) gNil)))))
  gNext)
  t__law_row_1)
def t__law_row_3 : FS :=
  (gSeq (gIfS (gTest (gOp fEq (gVar 2) (gC (.int 2))))
  (gRet (gTup (gCons (gC (.str "jump")) (gCons (gVar 3) gNil))))
  gNext)
  t__law_row_2)
def t__law_row_4 : FS :=
  (gSeq (gIfS (gTest (gOp fLt (gVar 2) (gC (.int 2))))
  (gRet (gCall (cFn 3 f__law_test) (gCons (gVar 0) (gCons (gVar 4) (gCons (gVar 3) gNil)))))
  gNext)
  t__law_row_3)
def t__law_row_5 : FS :=
  (gSeq (gAsg (gTup (gCons (gC (.int 1)) (gCons (gC (.int 3)) (gCons (gC (.int 2)) gNil)))) (tgName 4))
  t__law_row_4)
def t__law_row_6 : FS :=
  (gSeq (gAsg (gCall (cFn 2 f__law_draw) (gCons (gVar 0) (gCons (gVar 1) gNil))) (tgName 3))
  t__law_row_5)
def t__law_row_7 : FS :=
  (gSeq (gAsg (gCall (cFn 2 f__law_draw) (gCons (gVar 0) (gCons (gC (.int 8)) gNil))) (tgName 2))
  t__law_row_6)
def b__law_row : FS :=
  t__law_row_7
theorem fx__law_row : ∃ f : FC, f = fnC 5 b__law_row := ⟨_, rfl⟩
def f__law_row : FC := Classical.choose fx__law_row
theorem fd__law_row : f__law_row = fnC 5 b__law_row := Classical.choose_spec fx__law_row
theorem e__law_row (w0 w1 : W) (G : GH) : f__law_row [w0, w1] G = ((b__law_row [some w0, some w1, none, none, none] G).fin).calm := by rw [fd__law_row]; rfl
def t__law_later_1 : FS :=
  (gRet (gVar 0))
def t__law_later_2 : FS :=
  (gSeq (gIfS (gOrT (gTest (gOp fEq (gOp fIx (gVar 0) (gC (.int 0))) (gC (.str "test")))) (gTest (gOp fEq (gOp fIx (gVar 0) (gC (.int 0))) (gC (.str "jump")))))
  (gRet (gOp (fAddL false) (gSl false (gVar 0) gNoPart (gPart (gVar 1))) (gTup (gCons (gOp (fAddL false) (gOp fIx (gVar 0) (gVar 1)) (gC (.int 1))) gNil))))
  gNext)
  t__law_later_1)
def t__law_later_3 : FS :=
  (gSeq (gAsg (gOp fSub (gCall cLen (gCons (gVar 0) gNil)) (gC (.int 1))) (tgName 1))
  t__law_later_2)
def b__law_later : FS :=
  t__law_later_3
theorem fx__law_later : ∃ f : FC, f = fnC 2 b__law_later := ⟨_, rfl⟩
def f__law_later : FC := Classical.choose fx__law_later
theorem fd__law_later : f__law_later = fnC 2 b__law_later := Classical.choose_spec fx__law_later
theorem e__law_later (w0 : W) (G : GH) : f__law_later [w0] G = ((b__law_later [some w0, none] G).fin).calm := by rw [fd__law_later]; rfl
def t_law_1 : FS :=
  (gIfS (gAndT (gTest (gOp fGt (gVar 2) (gC (.int 14)))) (gTest (gOp fGt (gCall (cFn 2 f__law_draw) (gCons (gVar 1) (gCons (gC (.int 3)) gNil))) (gC (.int 0)))))
  (gSeq (gAsg (gCall cMin2 (gCons (gOp fSub (gVar 2) (gC (.int 1))) (gCons (gCall cMax2 (gCons (gC (.int 0)) (gCons (gOp fSub (gOp (fAddL false) (gVar 4) (gCall (cFn 2 f__law_draw) (gCons (gVar 1) (gCons (gC (.int 5)) gNil)))) (gC (.int 2))) gNil))) gNil))) (tgName 11))
  (gDrop (gMt "list" mAppend (gVar 3) (gCons (gTup (gCons (gC (.str "test")) (gCons (gC (.str "<")) (gCons (gTup (gCons (gC (.str "var")) (gCons (gC (.int 0)) (gCons (gC (.int 0)) gNil)))) (gCons (gTup (gCons (gC (.str "num")) (gCons (gVar 4) gNil))) (gCons (gVar 11) gNil)))))) gNil))))
  (gDrop (gMt "list" mAppend (gVar 3) (gCons (gCall (cFn 2 f__law_row) (gCons (gVar 1) (gCons (gVar 2) gNil))) gNil))))
def t_law_2 : FS :=
  (gRet (gAnd (gCall (cFn 2 f__law_asked) (gCons (gVar 10) (gCons (gCall (cFn 1 f__law_heads) (gCons (gVar 10) gNil)) gNil))) (gOp fEq (gFrz (gCall (cFn 1 f_heads_of) (gCons (gVar 6) gNil))) (gVar 9))))
def t_law_3 : FS :=
  (gSeq (gAsg (gCall cTuple (gCons (gOp (fAddL false) (gLst false (gCons (gTup (gCons (gC (.str "set")) (gCons (gC (.int 0)) (gCons (gTup (gCons (gC (.str "num")) (gCons (gC (.int 1)) gNil))) gNil)))) gNil)) (gLc false (iSeq (gVar 3)) (tgName 12) gYes (gCall (cFn 1 f__law_later) (gCons (gVar 12) gNil)) [12])) gNil)) (tgName 10))
  t_law_2)
def t_law_4 : FS :=
  (gSeq (gIfS (gOrT (gNotT (gTru (gCall (cFn 2 f__law_asked) (gCons (gVar 6) (gCons (gVar 9) gNil))))) (gTest (gOp fNe (gFrz (gCall (cFn 1 f_heads_of) (gCons (gVar 8) gNil))) (gVar 9))))
  (gRet (gC (.bl false)))
  gNext)
  t_law_3)
def t_law_5 : FS :=
  (gSeq (gAsg (gCall (cFn 1 f__law_heads) (gCons (gVar 6) gNil)) (tgName 9))
  t_law_4)
def t_law_6 : FS :=
  (gSeq (gIfS (gOrT (gNotT (gTru (gCall cIsa (gCons (gVar 8) (gCons (gC (.op (.ty "tuple"))) gNil))))) (gTest (gOp fNe (gVar 8) (gVar 6))))
  (gRet (gC (.bl false)))
  gNext)
  t_law_5)
def t_law_7 : FS :=
  (gSeq (gAsg (gCall (cFn 1 f_read_body) (gCons (gVar 7) gNil)) (tgName 8))
  t_law_6)
def t_law_8 : FS :=
  (gSeq (gAsg (gCall (cFn 1 f__law_words) (gCons (gVar 6) gNil)) (tgName 7))
  t_law_7)
def t_law_9 : FS :=
  (gSeq (gAsg (gCall cTuple (gCons (gVar 3) gNil)) (tgName 6))
  t_law_8)
def t_law_10 : FS :=
  (gSeq (gSet (gVar 5) (gVar 3) (gOp fSub (gVar 2) (gC (.int 1))))
  t_law_9)
def t_law_11 : FS :=
  (gSeq (gAsg (gOp fIx (gLst false (gCons (gTup (gCons (gC (.str "return")) (gCons (gTup (gCons (gC (.str "num")) (gCons (gVar 2) gNil))) gNil))) (gCons (gTup (gCons (gC (.str "fail")) (gCons (gVar 2) gNil))) (gCons (gTup (gCons (gC (.str "jump")) (gCons (gCall (cFn 2 f__law_draw) (gCons (gVar 1) (gCons (gVar 2) gNil))) gNil))) gNil)))) (gCall (cFn 2 f__law_draw) (gCons (gVar 1) (gCons (gC (.int 3)) gNil)))) (tgName 5))
  t_law_10)
def t_law_12 : FS :=
  (gSeq (gFor (iRng asRng1 (gCons (gVar 2) gNil)) (tgName 4)
  t_law_1)
  t_law_11)
def t_law_13 : FS :=
  (gSeq (gAsg (gLst true gNil) (tgName 3))
  t_law_12)
def t_law_14 : FS :=
  (gSeq (gIfS (gTest (gOp fEq (gCall (cFn 2 f__law_draw) (gCons (gVar 1) (gCons (gC (.int 3)) gNil))) (gC (.int 0))))
  (gAsg (gOp (fAddL false) (gVar 2) (gC (.int 16))) (tgName 2))
  gNext)
  t_law_13)
def t_law_15 : FS :=
  (gSeq (gAsg (gOp (fAddL false) (gC (.int 1)) (gCall (cFn 2 f__law_draw) (gCons (gVar 1) (gCons (gC (.int 14)) gNil)))) (tgName 2))
  t_law_14)
def t_law_16 : FS :=
  (gSeq (gAsg (gCall (cFn 1 f__law_deck) (gCons (gVar 0) gNil)) (tgName 1))
  t_law_15)
def b_law : FS :=
  t_law_16
theorem fx_law : ∃ f : FC, f = fnC 13 b_law := ⟨_, rfl⟩
def f_law : FC := Classical.choose fx_law
theorem fd_law : f_law = fnC 13 b_law := Classical.choose_spec fx_law
theorem e_law (w0 : W) (G : GH) : f_law [w0] G = ((b_law [some w0, none, none, none, none, none, none, none, none, none, none, none, none] G).fin).calm := by rw [fd_law]; rfl
end

structure Tx (K : PySem.W.Frag) (w : World) (mg : Str → Option Value) where
  a__law_deck : Addr
  d__law_deck : FuncData
  F__law_deck : Fun K "_law_deck" "_law_deck" s__law_deck a__law_deck d__law_deck
  g__law_deck : mg "_law_deck" = some (.ref a__law_deck)
  b__law_deck : Binds K d__law_deck ["script"] []
  a__law_term_words : Addr
  d__law_term_words : FuncData
  F__law_term_words : Fun K "_law_term_words" "_law_term_words" s__law_term_words a__law_term_words d__law_term_words
  g__law_term_words : mg "_law_term_words" = some (.ref a__law_term_words)
  b__law_term_words : Binds K d__law_term_words ["term", "wide"] []
  a__law_row_words : Addr
  d__law_row_words : FuncData
  F__law_row_words : Fun K "_law_row_words" "_law_row_words" s__law_row_words a__law_row_words d__law_row_words
  g__law_row_words : mg "_law_row_words" = some (.ref a__law_row_words)
  b__law_row_words : Binds K d__law_row_words ["row"] []
  a__law_words : Addr
  d__law_words : FuncData
  F__law_words : Fun K "_law_words" "_law_words" s__law_words a__law_words d__law_words
  g__law_words : mg "_law_words" = some (.ref a__law_words)
  b__law_words : Binds K d__law_words ["body"] []
  a_form_at : Addr
  d_form_at : FuncData
  F_form_at : Fun K "form_at" "form_at" s_form_at a_form_at d_form_at
  g_form_at : mg "form_at" = some (.ref a_form_at)
  b_form_at : Binds K d_form_at ["words", "at"] []
  a_is_plain : Addr
  d_is_plain : FuncData
  F_is_plain : Fun K "is_plain" "is_plain" s_is_plain a_is_plain d_is_plain
  g_is_plain : mg "is_plain" = some (.ref a_is_plain)
  b_is_plain : Binds K d_is_plain ["words"] []
  a_is_term : Addr
  d_is_term : FuncData
  F_is_term : Fun K "is_term" "is_term" s_is_term a_is_term d_is_term
  g_is_term : mg "is_term" = some (.ref a_is_term)
  b_is_term : Binds K d_is_term ["words"] []
  a_is_argument : Addr
  d_is_argument : FuncData
  F_is_argument : Fun K "is_argument" "is_argument" s_is_argument a_is_argument d_is_argument
  g_is_argument : mg "is_argument" = some (.ref a_is_argument)
  b_is_argument : Binds K d_is_argument ["words"] []
  a_fits : Addr
  d_fits : FuncData
  F_fits : Fun K "fits" "fits" s_fits a_fits d_fits
  g_fits : mg "fits" = some (.ref a_fits)
  b_fits : Binds K d_fits ["words", "part"] []
  a_behind_row : Addr
  d_behind_row : FuncData
  F_behind_row : Fun K "behind_row" "behind_row" s_behind_row a_behind_row d_behind_row
  g_behind_row : mg "behind_row" = some (.ref a_behind_row)
  b_behind_row : Binds K d_behind_row ["words", "at"] []
  a_rows_of_words : Addr
  d_rows_of_words : FuncData
  F_rows_of_words : Fun K "rows_of_words" "rows_of_words" s_rows_of_words a_rows_of_words d_rows_of_words
  g_rows_of_words : mg "rows_of_words" = some (.ref a_rows_of_words)
  b_rows_of_words : Binds K d_rows_of_words ["words"] []
  a_target_place : Addr
  d_target_place : FuncData
  F_target_place : Fun K "target_place" "target_place" s_target_place a_target_place d_target_place
  g_target_place : mg "target_place" = some (.ref a_target_place)
  b_target_place : Binds K d_target_place ["words", "at"] []
  a_plain_read : Addr
  d_plain_read : FuncData
  F_plain_read : Fun K "plain_read" "plain_read" s_plain_read a_plain_read d_plain_read
  g_plain_read : mg "plain_read" = some (.ref a_plain_read)
  b_plain_read : Binds K d_plain_read ["words", "at"] []
  a_argument_read : Addr
  d_argument_read : FuncData
  F_argument_read : Fun K "argument_read" "argument_read" s_argument_read a_argument_read d_argument_read
  g_argument_read : mg "argument_read" = some (.ref a_argument_read)
  b_argument_read : Binds K d_argument_read ["words", "at"] []
  a_call_read : Addr
  d_call_read : FuncData
  F_call_read : Fun K "call_read" "call_read" s_call_read a_call_read d_call_read
  g_call_read : mg "call_read" = some (.ref a_call_read)
  b_call_read : Binds K d_call_read ["words", "at"] []
  a_term_read : Addr
  d_term_read : FuncData
  F_term_read : Fun K "term_read" "term_read" s_term_read a_term_read d_term_read
  g_term_read : mg "term_read" = some (.ref a_term_read)
  b_term_read : Binds K d_term_read ["words", "at"] []
  a_row_read : Addr
  d_row_read : FuncData
  F_row_read : Fun K "row_read" "row_read" s_row_read a_row_read d_row_read
  g_row_read : mg "row_read" = some (.ref a_row_read)
  b_row_read : Binds K d_row_read ["words", "at", "numbers"] []
  a_is_integer : Addr
  d_is_integer : FuncData
  F_is_integer : Fun K "is_integer" "is_integer" s_is_integer a_is_integer d_is_integer
  g_is_integer : mg "is_integer" = some (.ref a_is_integer)
  b_is_integer : Binds K d_is_integer ["value"] []
  a_read_body : Addr
  d_read_body : FuncData
  F_read_body : Fun K "read_body" "read_body" s_read_body a_read_body d_read_body
  g_read_body : mg "read_body" = some (.ref a_read_body)
  b_read_body : Binds K d_read_body ["words"] []
  a__law_next : Addr
  d__law_next : FuncData
  F__law_next : Fun K "_law_next" "_law_next" s__law_next a__law_next d__law_next
  g__law_next : mg "_law_next" = some (.ref a__law_next)
  b__law_next : Binds K d__law_next ["body", "at"] []
  a__law_heads : Addr
  d__law_heads : FuncData
  F__law_heads : Fun K "_law_heads" "_law_heads" s__law_heads a__law_heads d__law_heads
  g__law_heads : mg "_law_heads" = some (.ref a__law_heads)
  b__law_heads : Binds K d__law_heads ["body"] []
  a__law_draw : Addr
  d__law_draw : FuncData
  F__law_draw : Fun K "_law_draw" "_law_draw" s__law_draw a__law_draw d__law_draw
  g__law_draw : mg "_law_draw" = some (.ref a__law_draw)
  b__law_draw : Binds K d__law_draw ["deck", "many"] []
  a_step_targets : Addr
  d_step_targets : FuncData
  F_step_targets : Fun K "step_targets" "step_targets" s_step_targets a_step_targets d_step_targets
  g_step_targets : mg "step_targets" = some (.ref a_step_targets)
  b_step_targets : Binds K d_step_targets ["body", "at"] []
  a_reached : Addr
  d_reached : FuncData
  F_reached : Fun K "reached" "reached" s_reached a_reached d_reached
  g_reached : mg "reached" = some (.ref a_reached)
  b_reached : Binds K d_reached ["body"] []
  a_heads_of : Addr
  d_heads_of : FuncData
  F_heads_of : Fun K "heads_of" "heads_of" s_heads_of a_heads_of d_heads_of
  g_heads_of : mg "heads_of" = some (.ref a_heads_of)
  b_heads_of : Binds K d_heads_of ["body"] []
  a__law_asked : Addr
  d__law_asked : FuncData
  F__law_asked : Fun K "_law_asked" "_law_asked" s__law_asked a__law_asked d__law_asked
  g__law_asked : mg "_law_asked" = some (.ref a__law_asked)
  b__law_asked : Binds K d__law_asked ["body", "due"] []
  a__law_number : Addr
  d__law_number : FuncData
  F__law_number : Fun K "_law_number" "_law_number" s__law_number a__law_number d__law_number
  g__law_number : mg "_law_number" = some (.ref a__law_number)
  b__law_number : Binds K d__law_number ["deck"] []
  a__law_plain : Addr
  d__law_plain : FuncData
  F__law_plain : Fun K "_law_plain" "_law_plain" s__law_plain a__law_plain d__law_plain
  g__law_plain : mg "_law_plain" = some (.ref a__law_plain)
  b__law_plain : Binds K d__law_plain ["deck", "kind"] []
  a__law_term : Addr
  d__law_term : FuncData
  F__law_term : Fun K "_law_term" "_law_term" s__law_term a__law_term d__law_term
  g__law_term : mg "_law_term" = some (.ref a__law_term)
  b__law_term : Binds K d__law_term ["deck", "kind"] []
  a__law_arguments : Addr
  d__law_arguments : FuncData
  F__law_arguments : Fun K "_law_arguments" "_law_arguments" s__law_arguments a__law_arguments d__law_arguments
  g__law_arguments : mg "_law_arguments" = some (.ref a__law_arguments)
  b__law_arguments : Binds K d__law_arguments ["deck", "kind", "called"] []
  a__law_straight : Addr
  d__law_straight : FuncData
  F__law_straight : Fun K "_law_straight" "_law_straight" s__law_straight a__law_straight d__law_straight
  g__law_straight : mg "_law_straight" = some (.ref a__law_straight)
  b__law_straight : Binds K d__law_straight ["deck", "kind", "free", "calls"] []
  a__law_test : Addr
  d__law_test : FuncData
  F__law_test : Fun K "_law_test" "_law_test" s__law_test a__law_test d__law_test
  g__law_test : mg "_law_test" = some (.ref a__law_test)
  b__law_test : Binds K d__law_test ["deck", "kind", "target"] []
  a__law_row : Addr
  d__law_row : FuncData
  F__law_row : Fun K "_law_row" "_law_row" s__law_row a__law_row d__law_row
  g__law_row : mg "_law_row" = some (.ref a__law_row)
  b__law_row : Binds K d__law_row ["deck", "size"] []
  a__law_later : Addr
  d__law_later : FuncData
  F__law_later : Fun K "_law_later" "_law_later" s__law_later a__law_later d__law_later
  g__law_later : mg "_law_later" = some (.ref a__law_later)
  b__law_later : Binds K d__law_later ["row"] []
  a_law : Addr
  d_law : FuncData
  F_law : Fun K "law" "law" s_law a_law d_law
  g_law : mg "law" = some (.ref a_law)
  b_law : Binds K d_law ["script"] []
  z_all : mg "all" = none
  z_bool : mg "bool" = none
  z_enumerate : mg "enumerate" = none
  z_int : mg "int" = none
  z_isinstance : mg "isinstance" = none
  z_len : mg "len" = none
  z_list : mg "list" = none
  z_max : mg "max" = none
  z_min : mg "min" = none
  z_range : mg "range" = none
  z_sorted : mg "sorted" = none
  z_str : mg "str" = none
  z_sum : mg "sum" = none
  z_tuple : mg "tuple" = none
  t_CALL : Tok
  c_CALL : mg "CALL" = some (.int (5) t_CALL)
  a_FORMS : Addr
  c_FORMS : mg "FORMS" = some (.ref a_FORMS)
  k_FORMS : KTab K w a_FORMS ([((.inl (1)), (.str "nt")), ((.inl (2)), (.str "npt")), ((.inl (3)), (.str "npp")), ((.inl (4)), (.str "npp")), ((.inl (6)), (.str "sttn")), ((.inl (7)), (.str "n")), ((.inl (8)), (.str "n")), ((.inl (9)), (.str "t"))] : List (Key × V))
  t_NUMBER : Tok
  c_NUMBER : mg "NUMBER" = some (.int (0) t_NUMBER)
  t_LENGTH : Tok
  c_LENGTH : mg "LENGTH" = some (.int (2) t_LENGTH)
  t_VARIABLE : Tok
  c_VARIABLE : mg "VARIABLE" = some (.int (1) t_VARIABLE)
  t_CELL : Tok
  c_CELL : mg "CELL" = some (.int (3) t_CELL)
  t_PLAIN_SIZE : Tok
  c_PLAIN_SIZE : mg "PLAIN_SIZE" = some (.int (4) t_PLAIN_SIZE)
  a_SIZES : Addr
  c_SIZES : mg "SIZES" = some (.ref a_SIZES)
  k_SIZES : KTab K w a_SIZES ([((.inr "n"), (.int 1)), ((.inr "s"), (.int 1)), ((.inr "p"), (.int 4)), ((.inr "t"), (.int 8)), ((.inr "a"), (.int 5))] : List (Key × V))
  a_COMPARING : Addr
  c_COMPARING : mg "COMPARING" = some (.ref a_COMPARING)
  k_COMPARING : KTupX K a_COMPARING ([(.str "<"), (.str "<="), (.str ">"), (.str ">="), (.str "=="), (.str "!=")] : List V)
  t_TEST : Tok
  c_TEST : mg "TEST" = some (.int (6) t_TEST)
  t_TERM_SIZE : Tok
  c_TERM_SIZE : mg "TERM_SIZE" = some (.int (8) t_TERM_SIZE)
  t_JUMP : Tok
  c_JUMP : mg "JUMP" = some (.int (7) t_JUMP)
  t_ARGUMENT_SIZE : Tok
  c_ARGUMENT_SIZE : mg "ARGUMENT_SIZE" = some (.int (5) t_ARGUMENT_SIZE)
  t_SET : Tok
  c_SET : mg "SET" = some (.int (1) t_SET)
  t_PUT : Tok
  c_PUT : mg "PUT" = some (.int (2) t_PUT)
  t_CHOOSE : Tok
  c_CHOOSE : mg "CHOOSE" = some (.int (4) t_CHOOSE)
  t_SWAP : Tok
  c_SWAP : mg "SWAP" = some (.int (3) t_SWAP)
  t_FAIL : Tok
  c_FAIL : mg "FAIL" = some (.int (8) t_FAIL)
section
variable {P : Program} {w : World} {K : PySem.W.Frag} {mg : Str → Option Value} {base : Heap} {cls : Nat → Addr} (T : Tx K w mg)
theorem ok__law_deck : FnOk P w K mg base CX0 1 T.a__law_deck T.d__law_deck ["script"] (absF ⟨K, cls, w⟩ 1 f__law_deck) := by
  rw [fd__law_deck]
  exact @fn0 ⟨K, cls, w⟩ P w mg base "_law_deck" "_law_deck" s__law_deck T.a__law_deck T.d__law_deck names__law_deck ["script"] 0 b__law_deck T.F__law_deck sc__law_deck fun cdv A outer s H E hr => ((fss_one (fs_ret (fe_lst (own := true) (fa_cons (fe_lc (own := false) (onames := [("cell", 1)]) rfl sc__law_deck.nd (fi_seq (fe_sl (own := false) (fe_var (pv 0)) fo_none (fo_some fe_int))) (blkOk_by (N := names__law_deck) (sc := defScope s__law_deck) (by decide +kernel)) (fun _ _ _ _ _ => (fg_name (pg_name (i := 1) sc__law_deck.nd rfl (by first | exact .inl rfl | exact .inr rfl)))) (fun _ _ _ _ _ => fts_nil) (fun _ _ _ _ _ => (fe_callTy cf_int (by rfl) T.z_int PyProof.Rows.boot_int (fa_cons (fe_var (pv 1)) fa_nil)))) (fa_cons fe_int (fa_cons fe_int (fa_cons fe_int fa_nil))))))))
theorem ok__law_term_words : ∀ d : Nat, FnOk P w K mg base CX0 (0 + d) T.a__law_term_words T.d__law_term_words ["term", "wide"] (absF ⟨K, cls, w⟩ 2 (f__law_term_words d))
  | 0 => ⟨fun vs H Q E h => h.1, fun A outer s H args us vs Q E hr e0 hb rv hsp => by
    obtain ⟨_, c, ws, _, _, _, th⟩ := hsp
    exact th.elim⟩
  | d + 1 => by
    have ih : FnOk P w K mg base CX0 (0 + d) T.a__law_term_words T.d__law_term_words ["term", "wide"] (absF ⟨K, cls, w⟩ 2 (f__law_term_words d)) := ok__law_term_words d
    exact @fn0 ⟨K, cls, w⟩ P w mg base "_law_term_words" "_law_term_words" s__law_term_words T.a__law_term_words T.d__law_term_words names__law_term_words ["term", "wide"] (0 + d) (b__law_term_words (f__law_term_words d)) T.F__law_term_words sc__law_term_words fun cdv A outer s H E hr => ((fss_cons (fs_if (ft_cmp (of_eq hr.units) (fe_ix (fe_var (pv 0)) fe_int) fe_str (by rfl))
  (fss_one (fs_ret (fe_op (of_add (own := false)) (fe_lst (own := false) (fa_cons fe_int (fa_cons (fe_ix (fe_var (pv 0)) fe_int) (fa_cons fe_int (fa_cons (fe_ix (fe_var (pv 0)) fe_int) fa_nil))))) (fe_call ih hr (by rfl) T.g__law_term_words T.F__law_term_words.kp T.b__law_term_words (fa_cons (fe_ix (fe_var (pv 0)) fe_int) (fa_cons fe_bl fa_nil))))))
  fss_nil)
  (fss_cons (fs_asg (fe_lst (own := false) (fa_cons fe_int (fa_cons fe_int (fa_cons fe_int (fa_cons (fe_ix (fe_var (pv 0)) fe_int) fa_nil))))) (fg_name (pg_name (i := 2) sc__law_term_words.nd rfl (by first | exact .inl rfl | exact .inr rfl))))
  (fss_cons (fs_if (ft_cmp (of_ne hr.units) (fe_ix (fe_var (pv 0)) fe_int) fe_str (by rfl))
  (fss_one (fs_asg (fe_lst (own := false) (fa_cons (fe_op (of_add (own := false)) fe_int (fe_callTy cf_int (by rfl) T.z_int PyProof.Rows.boot_int (fa_cons (fe_cmp (of_eq hr.units) (fe_ix (fe_var (pv 0)) fe_int) fe_str (by rfl)) fa_nil))) (fa_cons (fe_ix (fe_var (pv 0)) fe_int) (fa_cons fe_int (fa_cons (fe_ix (fe_var (pv 0)) fe_int) fa_nil))))) (fg_name (pg_name (i := 2) sc__law_term_words.nd rfl (by first | exact .inl rfl | exact .inr rfl)))))
  fss_nil)
  (fss_cons (fs_if (ft_tru (fe_var (pv 1)))
  (fss_one (fs_ret (fe_op (of_add (own := false)) (fe_var (pv 2)) (fe_lst (own := false) (fa_cons fe_int (fa_cons fe_int (fa_cons fe_int (fa_cons fe_int fa_nil))))))))
  fss_nil)
  (fss_one (fs_ret (fe_var (pv 2)))))))))
theorem ok__law_row_words : FnOk P w K mg base CX0 5 T.a__law_row_words T.d__law_row_words ["row"] (absF ⟨K, cls, w⟩ 1 f__law_row_words) := by
  rw [fd__law_row_words]
  exact @fn0 ⟨K, cls, w⟩ P w mg base "_law_row_words" "_law_row_words" s__law_row_words T.a__law_row_words T.d__law_row_words names__law_row_words ["row"] 4 b__law_row_words T.F__law_row_words sc__law_row_words fun cdv A outer s H E hr => ((fss_cons (fs_asg (fe_ix (fe_var (pv 0)) fe_int) (fg_name (pg_name (i := 1) sc__law_row_words.nd rfl (by first | exact .inl rfl | exact .inr rfl))))
  (fss_cons (fs_asg (fe_lst (own := true) (fa_cons (fe_op (of_add (own := false)) (fe_mt PySem.F.plainAttrs_list PySem.F.slot_list_index PySem.F.type_list_index mf_index (fe_lst (own := false) (fa_cons fe_str (fa_cons fe_str (fa_cons fe_str (fa_cons fe_str (fa_cons fe_str (fa_cons fe_str (fa_cons fe_str (fa_cons fe_str (fa_cons fe_str fa_nil)))))))))) (fa_cons (fe_var (pv 1)) fa_nil)) fe_int) fa_nil)) (fg_name (pg_name (i := 2) sc__law_row_words.nd rfl (by first | exact .inl rfl | exact .inr rfl))))
  (fss_cons (fs_for PassesOwn.never rfl (fi_rng2 (by rfl) T.z_range (fa_cons fe_int (fa_cons (fe_callB cf_len (by rfl) T.z_len PySem.boot_len (fa_cons (fe_var (pv 0)) fa_nil)) fa_nil))) (fg_name (pg_name (i := 3) sc__law_row_words.nd rfl (by first | exact .inl rfl | exact .inr rfl)))
  (fss_cons (fs_asg (fe_ix (fe_var (pv 0)) (fe_var (pv 3))) (fg_name (pg_name (i := 4) sc__law_row_words.nd rfl (by first | exact .inl rfl | exact .inr rfl))))
  (fss_one (fs_if (ft_tru (fe_callB cf_isa (by rfl) T.z_isinstance PyProof.Rows.boot_isinstance (fa_cons (fe_var (pv 4)) (fa_cons (fe_ty (by rfl) T.z_int PyProof.Rows.boot_int) fa_nil))))
  (fss_one (fs_expr (fe_mt PySem.F.plainAttrs_list PySem.F.slot_list_append PySem.F.type_list_append mf_append (fe_var (pv 2)) (fa_cons (fe_var (pv 4)) fa_nil))))
  (fss_one (fs_if (ft_tru (fe_callB cf_isa (by rfl) T.z_isinstance PyProof.Rows.boot_isinstance (fa_cons (fe_var (pv 4)) (fa_cons (fe_ty (by rfl) T.z_str PyProof.Rows.boot_str) fa_nil))))
  (fss_one (fs_expr (fe_mt PySem.F.plainAttrs_list PySem.F.slot_list_append PySem.F.type_list_append mf_append (fe_var (pv 2)) (fa_cons (fe_mt PySem.F.plainAttrs_list PySem.F.slot_list_index PySem.F.type_list_index mf_index (fe_lst (own := false) (fa_cons fe_str (fa_cons fe_str (fa_cons fe_str (fa_cons fe_str (fa_cons fe_str (fa_cons fe_str fa_nil))))))) (fa_cons (fe_var (pv 4)) fa_nil)) fa_nil))))
  (fss_one (fs_if (ft_cmp (of_eq hr.units) (fe_var (pv 1)) fe_str (by rfl))
  (fss_cons (fs_expr (fe_mt PySem.F.plainAttrs_list PySem.F.slot_list_append PySem.F.type_list_append mf_append (fe_var (pv 2)) (fa_cons (fe_callB cf_len (by rfl) T.z_len PySem.boot_len (fa_cons (fe_var (pv 4)) fa_nil)) fa_nil)))
  (fss_one (fs_for PassesOwn.never rfl (fi_seq (fe_var (pv 4))) (fg_name (pg_name (i := 5) sc__law_row_words.nd rfl (by first | exact .inl rfl | exact .inr rfl)))
  (fss_one (fs_if (ft_cmp (of_eq hr.units) (fe_ix (fe_var (pv 5)) fe_int) fe_str (by rfl))
  (fss_one (fs_asg (fe_op (of_add (own := true)) (fe_var (pv 2)) (fe_lst (own := false) (fa_cons fe_int (fa_cons (fe_ix (fe_var (pv 5)) fe_int) (fa_cons fe_int (fa_cons fe_int (fa_cons fe_int fa_nil))))))) (fg_name (pg_name (i := 2) sc__law_row_words.nd rfl (by first | exact .inl rfl | exact .inr rfl)))))
  (fss_one (fs_asg (fe_op (of_add (own := true)) (fe_op (of_add (own := false)) (fe_var (pv 2)) (fe_lst (own := false) (fa_cons fe_int fa_nil))) (fe_call (ok__law_term_words T 3) (hr.mono (by decide)) (by rfl) T.g__law_term_words T.F__law_term_words.kp T.b__law_term_words (fa_cons (fe_var (pv 5)) (fa_cons fe_bl fa_nil)))) (fg_name (pg_name (i := 2) sc__law_row_words.nd rfl (by first | exact .inl rfl | exact .inr rfl))))))))))
  (fss_cons (fs_asg (fe_or (fe_cmp (of_eq hr.units) (fe_var (pv 1)) fe_str (by rfl)) (fe_or (fe_cmp (of_eq hr.units) (fe_var (pv 1)) fe_str (by rfl)) (fe_or (fe_cmp (of_eq hr.units) (fe_var (pv 1)) fe_str (by rfl)) (fe_one (fe_and (fe_cmp (of_eq hr.units) (fe_var (pv 1)) fe_str (by rfl)) (fe_one (fe_cmp (of_eq hr.units) (fe_var (pv 3)) fe_int (by rfl)))))))) (fg_name (pg_name (i := 6) sc__law_row_words.nd rfl (by first | exact .inl rfl | exact .inr rfl))))
  (fss_one (fs_asg (fe_op (of_add (own := true)) (fe_var (pv 2)) (fe_call (ok__law_term_words T 3) (hr.mono (by decide)) (by rfl) T.g__law_term_words T.F__law_term_words.kp T.b__law_term_words (fa_cons (fe_var (pv 4)) (fa_cons (fe_var (pv 6)) fa_nil)))) (fg_name (pg_name (i := 2) sc__law_row_words.nd rfl (by first | exact .inl rfl | exact .inr rfl))))))))))))))
  (fss_one (fs_ret (fe_var (pv 2))))))))
theorem ok__law_words : FnOk P w K mg base CX0 6 T.a__law_words T.d__law_words ["body"] (absF ⟨K, cls, w⟩ 1 f__law_words) := by
  rw [fd__law_words]
  exact @fn0 ⟨K, cls, w⟩ P w mg base "_law_words" "_law_words" s__law_words T.a__law_words T.d__law_words names__law_words ["body"] 5 b__law_words T.F__law_words sc__law_words fun cdv A outer s H E hr => ((fss_cons (fs_asg (fe_lc (own := false) (onames := [("row", 6)]) rfl sc__law_words.nd (fi_seq (fe_var (pv 0))) (blkOk_by (N := names__law_words) (sc := defScope s__law_words) (by decide +kernel)) (fun _ _ _ _ _ => (fg_name (pg_name (i := 6) sc__law_words.nd rfl (by first | exact .inl rfl | exact .inr rfl)))) (fun _ _ _ _ _ => fts_nil) (fun _ _ _ _ _ => (fe_frz (fe_call (ok__law_row_words T) (hr.mono (by decide)) (by rfl) T.g__law_row_words T.F__law_row_words.kp T.b__law_row_words (fa_cons (fe_var (pv 6)) fa_nil))))) (fg_name (pg_name (i := 1) sc__law_words.nd rfl (by first | exact .inl rfl | exact .inr rfl))))
  (fss_cons (fs_lc (own := false) (i := 2) (onames := [("k", 4)]) rfl sc__law_words.nd rfl rfl (sw_true rfl rfl rfl (by decide +kernel)) (fi_rng1 (by rfl) T.z_range (fa_cons (fe_callB cf_len (by rfl) T.z_len PySem.boot_len (fa_cons (fe_var (pv 1)) fa_nil)) fa_nil)) (blkOk_by (N := names__law_words) (sc := defScope s__law_words) (by decide +kernel)) (fun _ _ _ _ _ => (fg_name (pg_name (i := 4) sc__law_words.nd rfl (by first | exact .inl rfl | exact .inr rfl)))) (fun _ _ _ _ _ => fts_nil) (fun _ _ _ _ _ => (fe_callB (cf_sum rfl) (by rfl) T.z_sum PyProof.Rows.boot_sum (fa_cons (fe_lc (own := false) (onames := [("part", 5)]) rfl sc__law_words.nd (fi_seq (fe_sl (own := false) (fe_var (pv 1)) fo_none (fo_some (fe_var (pv 4))))) (blkOk_by (N := names__law_words) (sc := ({ kind := PySem.ScopeKind.function, names := [ (PySem.Str.ofString ".0", PySem.NameKind.local), (PySem.Str.ofString "k", PySem.NameKind.local), (PySem.Str.ofString "sum", PySem.NameKind.globalImplicit), (PySem.Str.ofString "rows", PySem.NameKind.cell)], isGenerator := false, isCoroutine := false, more := [] : PySem.Scope })) (by decide +kernel)) (fun _ _ _ _ _ => (fg_name (pg_name (i := 5) sc__law_words.nd rfl (by first | exact .inl rfl | exact .inr rfl)))) (fun _ _ _ _ _ => fts_nil) (fun _ _ _ _ _ => (fe_callB cf_len (by rfl) T.z_len PySem.boot_len (fa_cons (fe_var (pv 5)) fa_nil)))) fa_nil))))
  (fss_cons (fs_asg (fe_lst (own := false) fa_nil) (fg_name (pg_name (i := 3) sc__law_words.nd rfl (by first | exact .inl rfl | exact .inr rfl))))
  (fss_cons (fs_for PassesOwn.never rfl (fi_rng1 (by rfl) T.z_range (fa_cons (fe_callB cf_len (by rfl) T.z_len PySem.boot_len (fa_cons (fe_var (pv 0)) fa_nil)) fa_nil)) (fg_name (pg_name (i := 4) sc__law_words.nd rfl (by first | exact .inl rfl | exact .inr rfl)))
  (fss_cons (fs_asg (fe_ix (fe_var (pv 1)) (fe_var (pv 4))) (fg_name (pg_name (i := 5) sc__law_words.nd rfl (by first | exact .inl rfl | exact .inr rfl))))
  (fss_cons (fs_if ((fw_or (ft_cmp (of_eq hr.units) (fe_ix (fe_ix (fe_var (pv 0)) (fe_var (pv 4))) fe_int) fe_str (by rfl)) (fw_or1 (ft_cmp (of_eq hr.units) (fe_ix (fe_ix (fe_var (pv 0)) (fe_var (pv 4))) fe_int) fe_str (by rfl))))).pt
  (fss_one (fs_asg (fe_op (of_add (own := false)) (fe_sl (own := false) (fe_var (pv 5)) fo_none (fo_some (fe_op of_sub (fe_callB cf_len (by rfl) T.z_len PySem.boot_len (fa_cons (fe_var (pv 5)) fa_nil)) fe_int))) (fe_lst (own := false) (fa_cons (fe_ix (fe_var (pv 2)) (fe_ix (fe_var (pv 5)) (fe_op of_sub (fe_callB cf_len (by rfl) T.z_len PySem.boot_len (fa_cons (fe_var (pv 5)) fa_nil)) fe_int))) fa_nil))) (fg_name (pg_name (i := 5) sc__law_words.nd rfl (by first | exact .inl rfl | exact .inr rfl)))))
  fss_nil)
  (fss_one (fs_asg (fe_op (of_add (own := false)) (fe_var (pv 3)) (fe_var (pv 5))) (fg_name (pg_name (i := 3) sc__law_words.nd rfl (by first | exact .inl rfl | exact .inr rfl))))))))
  (fss_one (fs_ret (fe_callTy cf_tuple (by rfl) T.z_tuple PyProof.Rows.boot_tuple (fa_cons (fe_var (pv 3)) fa_nil)))))))))
theorem ok_form_at : FnOk P w K mg base CX0 1 T.a_form_at T.d_form_at ["words", "at"] (absF ⟨K, cls, w⟩ 2 f_form_at) := by
  rw [fd_form_at]
  exact @fn0 ⟨K, cls, w⟩ P w mg base "form_at" "form_at" s_form_at T.a_form_at T.d_form_at names_form_at ["words", "at"] 0 b_form_at T.F_form_at sc_form_at fun cdv A outer s H E hr => ((fss_cons (fs_if (ft_cmp (of_ne hr.units) (fe_ix (fe_var (pv 0)) (fe_var (pv 1))) (fe_gl (v := (.int 5)) (by rfl) T.c_CALL ⟨_, rfl⟩) (by rfl))
  (fss_one (fs_ret (fe_get (fe_glD (tab := [((.inl (1)), (.str "nt")), ((.inl (2)), (.str "npt")), ((.inl (3)), (.str "npp")), ((.inl (4)), (.str "npp")), ((.inl (6)), (.str "sttn")), ((.inl (7)), (.str "n")), ((.inl (8)), (.str "n")), ((.inl (9)), (.str "t"))]) (by rfl) T.c_FORMS T.k_FORMS) (fe_ix (fe_var (pv 0)) (fe_var (pv 1))))))
  fss_nil)
  (fss_cons (fs_if ((fw_or (ft_cmp of_ge (fe_op (of_add (own := false)) (fe_var (pv 1)) fe_int) (fe_callB cf_len (by rfl) T.z_len PySem.boot_len (fa_cons (fe_var (pv 0)) fa_nil)) (by rfl)) (fw_or1 (ft_not (ft_chain of_le of_le fe_int (fe_ix (fe_var (pv 0)) (fe_op (of_add (own := false)) (fe_var (pv 1)) fe_int)) (fe_callB cf_len (by rfl) T.z_len PySem.boot_len (fa_cons (fe_var (pv 0)) fa_nil))))))).pt
  (fss_one (fs_ret fe_non))
  fss_nil)
  (fss_one (fs_ret (fe_op (of_add (own := false)) fe_str (fe_op of_mulX fe_str (fe_ix (fe_var (pv 0)) (fe_op (of_add (own := false)) (fe_var (pv 1)) fe_int)))))))))
theorem ok_is_plain : FnOk P w K mg base CX0 1 T.a_is_plain T.d_is_plain ["words"] (absF ⟨K, cls, w⟩ 1 f_is_plain) := by
  rw [fd_is_plain]
  exact @fn0 ⟨K, cls, w⟩ P w mg base "is_plain" "is_plain" s_is_plain T.a_is_plain T.d_is_plain names_is_plain ["words"] 0 b_is_plain T.F_is_plain sc_is_plain fun cdv A outer s H E hr => ((fss_cons (fs_if ((fw_and (ft_cmp (of_eq hr.units) (fe_ix (fe_var (pv 0)) fe_int) (fe_gl (v := (.int 0)) (by rfl) T.c_NUMBER ⟨_, rfl⟩) (by rfl)) (fw_and1 (ft_cmp (of_ne hr.units) (fe_ix (fe_var (pv 0)) fe_int) fe_int (by rfl))))).pt
  (fss_one (fs_ret fe_bl))
  fss_nil)
  (fss_one (fs_ret (fe_and (fe_cmp (of_in hr.units) (fe_ix (fe_var (pv 0)) fe_int) (fe_tup (fa_cons (fe_gl (v := (.int 0)) (by rfl) T.c_NUMBER ⟨_, rfl⟩) (fa_cons (fe_gl (v := (.int 1)) (by rfl) T.c_VARIABLE ⟨_, rfl⟩) (fa_cons (fe_gl (v := (.int 2)) (by rfl) T.c_LENGTH ⟨_, rfl⟩) fa_nil)))) (by rfl)) (fe_one (fe_cmp (of_eq hr.units) (fe_ix (fe_var (pv 0)) fe_int) fe_int (by rfl))))))))
theorem ok_is_term : FnOk P w K mg base CX0 2 T.a_is_term T.d_is_term ["words"] (absF ⟨K, cls, w⟩ 1 f_is_term) := by
  rw [fd_is_term]
  exact @fn0 ⟨K, cls, w⟩ P w mg base "is_term" "is_term" s_is_term T.a_is_term T.d_is_term names_is_term ["words"] 1 b_is_term T.F_is_term sc_is_term fun cdv A outer s H E hr => ((fss_cons (fs_if (ft_cmp (of_eq hr.units) (fe_ix (fe_var (pv 0)) fe_int) (fe_gl (v := (.int 3)) (by rfl) T.c_CELL ⟨_, rfl⟩) (by rfl))
  (fss_one (fs_ret (fe_and (fe_cmp (of_eq hr.units) (fe_ix (fe_var (pv 0)) fe_int) fe_int (by rfl)) (fe_one (fe_call (ok_is_plain T) (hr.mono (by decide)) (by rfl) T.g_is_plain T.F_is_plain.kp T.b_is_plain (fa_cons (fe_sl (own := false) (fe_var (pv 0)) (fo_some (fe_gl (v := (.int 4)) (by rfl) T.c_PLAIN_SIZE ⟨_, rfl⟩)) fo_none) fa_nil))))))
  fss_nil)
  (fss_one (fs_ret (fe_and (fe_call (ok_is_plain T) (hr.mono (by decide)) (by rfl) T.g_is_plain T.F_is_plain.kp T.b_is_plain (fa_cons (fe_sl (own := false) (fe_var (pv 0)) fo_none (fo_some (fe_gl (v := (.int 4)) (by rfl) T.c_PLAIN_SIZE ⟨_, rfl⟩))) fa_nil)) (fe_one (fe_cmp (of_eq hr.units) (fe_sl (own := false) (fe_var (pv 0)) (fo_some (fe_gl (v := (.int 4)) (by rfl) T.c_PLAIN_SIZE ⟨_, rfl⟩)) fo_none) (fe_tup (fa_cons fe_int (fa_cons fe_int (fa_cons fe_int (fa_cons fe_int fa_nil))))) (by rfl))))))))
theorem ok_is_argument : FnOk P w K mg base CX0 2 T.a_is_argument T.d_is_argument ["words"] (absF ⟨K, cls, w⟩ 1 f_is_argument) := by
  rw [fd_is_argument]
  exact @fn0 ⟨K, cls, w⟩ P w mg base "is_argument" "is_argument" s_is_argument T.a_is_argument T.d_is_argument names_is_argument ["words"] 1 b_is_argument T.F_is_argument sc_is_argument fun cdv A outer s H E hr => ((fss_cons (fs_if (ft_cmp (of_eq hr.units) (fe_ix (fe_var (pv 0)) fe_int) fe_int (by rfl))
  (fss_one (fs_ret (fe_cmp (of_eq hr.units) (fe_sl (own := false) (fe_var (pv 0)) (fo_some fe_int) fo_none) (fe_tup (fa_cons fe_int (fa_cons fe_int (fa_cons fe_int fa_nil)))) (by rfl))))
  fss_nil)
  (fss_one (fs_ret (fe_and (fe_cmp (of_eq hr.units) (fe_ix (fe_var (pv 0)) fe_int) fe_int (by rfl)) (fe_one (fe_call (ok_is_plain T) (hr.mono (by decide)) (by rfl) T.g_is_plain T.F_is_plain.kp T.b_is_plain (fa_cons (fe_sl (own := false) (fe_var (pv 0)) (fo_some fe_int) fo_none) fa_nil))))))))
theorem ok_fits : FnOk P w K mg base CX0 3 T.a_fits T.d_fits ["words", "part"] (absF ⟨K, cls, w⟩ 2 f_fits) := by
  rw [fd_fits]
  exact @fn0 ⟨K, cls, w⟩ P w mg base "fits" "fits" s_fits T.a_fits T.d_fits names_fits ["words", "part"] 2 b_fits T.F_fits sc_fits fun cdv A outer s H E hr => ((fss_cons (fs_if (ft_cmp (of_ne hr.units) (fe_callB cf_len (by rfl) T.z_len PySem.boot_len (fa_cons (fe_var (pv 0)) fa_nil)) (fe_ixX (fe_glD (tab := [((.inr "n"), (.int 1)), ((.inr "s"), (.int 1)), ((.inr "p"), (.int 4)), ((.inr "t"), (.int 8)), ((.inr "a"), (.int 5))]) (by rfl) T.c_SIZES T.k_SIZES) (fe_var (pv 1))) (by rfl))
  (fss_one (fs_ret fe_bl))
  fss_nil)
  (fss_cons (fs_if (ft_cmp (of_eq hr.units) (fe_var (pv 1)) fe_str (by rfl))
  (fss_one (fs_ret (fe_chain of_le of_lt fe_int (fe_ix (fe_var (pv 0)) fe_int) (fe_callB cf_len (by rfl) T.z_len PySem.boot_len (fa_cons (fe_glT (vs := [(.str "<"), (.str "<="), (.str ">"), (.str ">="), (.str "=="), (.str "!=")]) (by rfl) T.c_COMPARING T.k_COMPARING.tup) fa_nil)))))
  fss_nil)
  (fss_cons (fs_if (ft_cmp (of_eq hr.units) (fe_var (pv 1)) fe_str (by rfl))
  (fss_one (fs_ret (fe_call (ok_is_plain T) (hr.mono (by decide)) (by rfl) T.g_is_plain T.F_is_plain.kp T.b_is_plain (fa_cons (fe_var (pv 0)) fa_nil))))
  fss_nil)
  (fss_cons (fs_if (ft_cmp (of_eq hr.units) (fe_var (pv 1)) fe_str (by rfl))
  (fss_one (fs_ret (fe_call (ok_is_term T) (hr.mono (by decide)) (by rfl) T.g_is_term T.F_is_term.kp T.b_is_term (fa_cons (fe_var (pv 0)) fa_nil))))
  fss_nil)
  (fss_cons (fs_if (ft_cmp (of_eq hr.units) (fe_var (pv 1)) fe_str (by rfl))
  (fss_one (fs_ret (fe_call (ok_is_argument T) (hr.mono (by decide)) (by rfl) T.g_is_argument T.F_is_argument.kp T.b_is_argument (fa_cons (fe_var (pv 0)) fa_nil))))
  fss_nil)
  (fss_one (fs_ret fe_bl))))))))
theorem ok_behind_row : FnOk P w K mg base CX0 4 T.a_behind_row T.d_behind_row ["words", "at"] (absF ⟨K, cls, w⟩ 2 f_behind_row) := by
  rw [fd_behind_row]
  exact @fn0 ⟨K, cls, w⟩ P w mg base "behind_row" "behind_row" s_behind_row T.a_behind_row T.d_behind_row names_behind_row ["words", "at"] 3 b_behind_row T.F_behind_row sc_behind_row fun cdv A outer s H E hr => ((fss_cons (fs_asg (fe_call (ok_form_at T) (hr.mono (by decide)) (by rfl) T.g_form_at T.F_form_at.kp T.b_form_at (fa_cons (fe_var (pv 0)) (fa_cons (fe_var (pv 1)) fa_nil))) (fg_name (pg_name (i := 2) sc_behind_row.nd rfl (by first | exact .inl rfl | exact .inr rfl))))
  (fss_cons (fs_if (ft_cmp of_is (fe_var (pv 2)) fe_non (by rfl))
  (fss_one (fs_ret fe_non))
  fss_nil)
  (fss_cons (fs_asg (fe_op (of_add (own := false)) (fe_var (pv 1)) fe_int) (fg_name (pg_name (i := 3) sc_behind_row.nd rfl (by first | exact .inl rfl | exact .inr rfl))))
  (fss_cons (fs_for PassesOwn.never rfl (fi_txt (fe_var (pv 2))) (fg_name (pg_name (i := 4) sc_behind_row.nd rfl (by first | exact .inl rfl | exact .inr rfl)))
  (fss_cons (fs_asg (fe_op (of_add (own := false)) (fe_var (pv 3)) (fe_ixX (fe_glD (tab := [((.inr "n"), (.int 1)), ((.inr "s"), (.int 1)), ((.inr "p"), (.int 4)), ((.inr "t"), (.int 8)), ((.inr "a"), (.int 5))]) (by rfl) T.c_SIZES T.k_SIZES) (fe_var (pv 4)))) (fg_name (pg_name (i := 5) sc_behind_row.nd rfl (by first | exact .inl rfl | exact .inr rfl))))
  (fss_cons (fs_if (ft_not (ft_tru (fe_call (ok_fits T) (hr.mono (by decide)) (by rfl) T.g_fits T.F_fits.kp T.b_fits (fa_cons (fe_sl (own := false) (fe_var (pv 0)) (fo_some (fe_var (pv 3))) (fo_some (fe_var (pv 5)))) (fa_cons (fe_var (pv 4)) fa_nil)))))
  (fss_one (fs_ret fe_non))
  fss_nil)
  (fss_one (fs_asg (fe_var (pv 5)) (fg_name (pg_name (i := 3) sc_behind_row.nd rfl (by first | exact .inl rfl | exact .inr rfl))))))))
  (fss_one (fs_ret (fe_var (pv 3)))))))))
theorem ok_rows_of_words : FnOk P w K mg base CX0 5 T.a_rows_of_words T.d_rows_of_words ["words"] (absF ⟨K, cls, w⟩ 1 f_rows_of_words) := by
  rw [fd_rows_of_words]
  exact @fn0 ⟨K, cls, w⟩ P w mg base "rows_of_words" "rows_of_words" s_rows_of_words T.a_rows_of_words T.d_rows_of_words names_rows_of_words ["words"] 4 b_rows_of_words T.F_rows_of_words sc_rows_of_words fun cdv A outer s H E hr => ((fss_cons (fs_asg (fe_callTy cf_tuple (by rfl) T.z_tuple PyProof.Rows.boot_tuple (fa_cons (fe_var (pv 0)) fa_nil)) (fg_name (pg_name (i := 0) sc_rows_of_words.nd rfl (by first | exact .inl rfl | exact .inr rfl))))
  (fss_cons (fs_asg (fe_lst (own := true) fa_nil) (fg_name (pg_name (i := 1) sc_rows_of_words.nd rfl (by first | exact .inl rfl | exact .inr rfl))))
  (fss_cons (fs_asg fe_int (fg_name (pg_name (i := 2) sc_rows_of_words.nd rfl (by first | exact .inl rfl | exact .inr rfl))))
  (fss_cons (fs_while PassesOwn.never (ft_cmp of_lt (fe_var (pv 2)) (fe_callB cf_len (by rfl) T.z_len PySem.boot_len (fa_cons (fe_var (pv 0)) fa_nil)) (by rfl))
  (fss_cons (fs_expr (fe_mt PySem.F.plainAttrs_list PySem.F.slot_list_append PySem.F.type_list_append mf_append (fe_var (pv 1)) (fa_cons (fe_var (pv 2)) fa_nil)))
  (fss_cons (fs_asg (fe_call (ok_behind_row T) (hr.mono (by decide)) (by rfl) T.g_behind_row T.F_behind_row.kp T.b_behind_row (fa_cons (fe_var (pv 0)) (fa_cons (fe_var (pv 2)) fa_nil))) (fg_name (pg_name (i := 2) sc_rows_of_words.nd rfl (by first | exact .inl rfl | exact .inr rfl))))
  (fss_one (fs_if (ft_cmp of_is (fe_var (pv 2)) fe_non (by rfl))
  (fss_one (fs_ret fe_non))
  fss_nil)))))
  (fss_one (fs_ret (fe_var (pv 1)))))))))
theorem ok_target_place : FnOk P w K mg base CX0 1 T.a_target_place T.d_target_place ["words", "at"] (absF ⟨K, cls, w⟩ 2 f_target_place) := by
  rw [fd_target_place]
  exact @fn0 ⟨K, cls, w⟩ P w mg base "target_place" "target_place" s_target_place T.a_target_place T.d_target_place names_target_place ["words", "at"] 0 b_target_place T.F_target_place sc_target_place fun cdv A outer s H E hr => ((fss_cons (fs_if (ft_cmp (of_eq hr.units) (fe_ix (fe_var (pv 0)) (fe_var (pv 1))) (fe_gl (v := (.int 6)) (by rfl) T.c_TEST ⟨_, rfl⟩) (by rfl))
  (fss_one (fs_ret (fe_ix (fe_var (pv 0)) (fe_op (of_add (own := false)) (fe_op (of_add (own := false)) (fe_var (pv 1)) fe_int) (fe_op of_mul fe_int (fe_gl (v := (.int 8)) (by rfl) T.c_TERM_SIZE ⟨_, rfl⟩))))))
  fss_nil)
  (fss_one (fs_ret (fe_if (ft_cmp (of_eq hr.units) (fe_ix (fe_var (pv 0)) (fe_var (pv 1))) (fe_gl (v := (.int 7)) (by rfl) T.c_JUMP ⟨_, rfl⟩) (by rfl)) (fe_ix (fe_var (pv 0)) (fe_op (of_add (own := false)) (fe_var (pv 1)) fe_int)) fe_non)))))
theorem ok_plain_read : FnOk P w K mg base CX0 1 T.a_plain_read T.d_plain_read ["words", "at"] (absF ⟨K, cls, w⟩ 2 f_plain_read) := by
  rw [fd_plain_read]
  exact @fn0 ⟨K, cls, w⟩ P w mg base "plain_read" "plain_read" s_plain_read T.a_plain_read T.d_plain_read names_plain_read ["words", "at"] 0 b_plain_read T.F_plain_read sc_plain_read fun cdv A outer s H E hr => ((fss_cons (fs_if (ft_cmp (of_eq hr.units) (fe_ix (fe_var (pv 0)) (fe_var (pv 1))) (fe_gl (v := (.int 0)) (by rfl) T.c_NUMBER ⟨_, rfl⟩) (by rfl))
  (fss_one (fs_ret (fe_tup (fa_cons fe_str (fa_cons (fe_ix (fe_var (pv 0)) (fe_op (of_add (own := false)) (fe_var (pv 1)) fe_int)) fa_nil)))))
  fss_nil)
  (fss_one (fs_ret (fe_tup (fa_cons (fe_if (ft_cmp (of_eq hr.units) (fe_ix (fe_var (pv 0)) (fe_var (pv 1))) (fe_gl (v := (.int 1)) (by rfl) T.c_VARIABLE ⟨_, rfl⟩) (by rfl)) fe_str fe_str) (fa_cons (fe_ix (fe_var (pv 0)) (fe_op (of_add (own := false)) (fe_var (pv 1)) fe_int)) (fa_cons (fe_ix (fe_var (pv 0)) (fe_op (of_add (own := false)) (fe_var (pv 1)) fe_int)) fa_nil))))))))
theorem ok_argument_read : FnOk P w K mg base CX0 2 T.a_argument_read T.d_argument_read ["words", "at"] (absF ⟨K, cls, w⟩ 2 f_argument_read) := by
  rw [fd_argument_read]
  exact @fn0 ⟨K, cls, w⟩ P w mg base "argument_read" "argument_read" s_argument_read T.a_argument_read T.d_argument_read names_argument_read ["words", "at"] 1 b_argument_read T.F_argument_read sc_argument_read fun cdv A outer s H E hr => ((fss_one (fs_ret (fe_if (ft_cmp (of_eq hr.units) (fe_ix (fe_var (pv 0)) (fe_var (pv 1))) fe_int (by rfl)) (fe_tup (fa_cons fe_str (fa_cons (fe_ix (fe_var (pv 0)) (fe_op (of_add (own := false)) (fe_var (pv 1)) fe_int)) fa_nil))) (fe_call (ok_plain_read T) (hr.mono (by decide)) (by rfl) T.g_plain_read T.F_plain_read.kp T.b_plain_read (fa_cons (fe_var (pv 0)) (fa_cons (fe_op (of_add (own := false)) (fe_var (pv 1)) fe_int) fa_nil)))))))
theorem ok_call_read : FnOk P w K mg base CX0 3 T.a_call_read T.d_call_read ["words", "at"] (absF ⟨K, cls, w⟩ 2 f_call_read) := by
  rw [fd_call_read]
  exact @fn0 ⟨K, cls, w⟩ P w mg base "call_read" "call_read" s_call_read T.a_call_read T.d_call_read names_call_read ["words", "at"] 2 b_call_read T.F_call_read sc_call_read fun cdv A outer s H E hr => ((fss_cons (fs_asg (fe_lst (own := true) fa_nil) (fg_name (pg_name (i := 2) sc_call_read.nd rfl (by first | exact .inl rfl | exact .inr rfl))))
  (fss_cons (fs_for PassesOwn.never rfl (fi_rng1 (by rfl) T.z_range (fa_cons (fe_ix (fe_var (pv 0)) (fe_op (of_add (own := false)) (fe_var (pv 1)) fe_int)) fa_nil)) (fg_name (pg_name (i := 3) sc_call_read.nd rfl (by first | exact .inl rfl | exact .inr rfl)))
  (fss_one (fs_expr (fe_mt PySem.F.plainAttrs_list PySem.F.slot_list_append PySem.F.type_list_append mf_append (fe_var (pv 2)) (fa_cons (fe_call (ok_argument_read T) (hr.mono (by decide)) (by rfl) T.g_argument_read T.F_argument_read.kp T.b_argument_read (fa_cons (fe_var (pv 0)) (fa_cons (fe_op (of_add (own := false)) (fe_op (of_add (own := false)) (fe_var (pv 1)) fe_int) (fe_op of_mul (fe_var (pv 3)) (fe_gl (v := (.int 5)) (by rfl) T.c_ARGUMENT_SIZE ⟨_, rfl⟩))) fa_nil))) fa_nil)))))
  (fss_one (fs_ret (fe_tup (fa_cons fe_str (fa_cons (fe_ix (fe_var (pv 0)) (fe_op (of_add (own := false)) (fe_var (pv 1)) fe_int)) (fa_cons (fe_ix (fe_var (pv 0)) (fe_op (of_add (own := false)) (fe_var (pv 1)) fe_int)) (fa_cons (fe_callTy cf_tuple (by rfl) T.z_tuple PyProof.Rows.boot_tuple (fa_cons (fe_var (pv 2)) fa_nil)) fa_nil))))))))))
theorem ok_term_read : FnOk P w K mg base CX0 2 T.a_term_read T.d_term_read ["words", "at"] (absF ⟨K, cls, w⟩ 2 f_term_read) := by
  rw [fd_term_read]
  exact @fn0 ⟨K, cls, w⟩ P w mg base "term_read" "term_read" s_term_read T.a_term_read T.d_term_read names_term_read ["words", "at"] 1 b_term_read T.F_term_read sc_term_read fun cdv A outer s H E hr => ((fss_cons (fs_if (ft_cmp (of_eq hr.units) (fe_ix (fe_var (pv 0)) (fe_var (pv 1))) (fe_gl (v := (.int 3)) (by rfl) T.c_CELL ⟨_, rfl⟩) (by rfl))
  (fss_one (fs_ret (fe_tup (fa_cons fe_str (fa_cons (fe_ix (fe_var (pv 0)) (fe_op (of_add (own := false)) (fe_var (pv 1)) fe_int)) (fa_cons (fe_call (ok_plain_read T) (hr.mono (by decide)) (by rfl) T.g_plain_read T.F_plain_read.kp T.b_plain_read (fa_cons (fe_var (pv 0)) (fa_cons (fe_op (of_add (own := false)) (fe_var (pv 1)) (fe_gl (v := (.int 4)) (by rfl) T.c_PLAIN_SIZE ⟨_, rfl⟩)) fa_nil))) (fa_cons (fe_ix (fe_var (pv 0)) (fe_op (of_add (own := false)) (fe_var (pv 1)) fe_int)) fa_nil)))))))
  fss_nil)
  (fss_one (fs_ret (fe_call (ok_plain_read T) (hr.mono (by decide)) (by rfl) T.g_plain_read T.F_plain_read.kp T.b_plain_read (fa_cons (fe_var (pv 0)) (fa_cons (fe_var (pv 1)) fa_nil)))))))
theorem ok_row_read : FnOk P w K mg base CX0 4 T.a_row_read T.d_row_read ["words", "at", "numbers"] (absF ⟨K, cls, w⟩ 3 f_row_read) := by
  rw [fd_row_read]
  exact @fn0 ⟨K, cls, w⟩ P w mg base "row_read" "row_read" s_row_read T.a_row_read T.d_row_read names_row_read ["words", "at", "numbers"] 3 b_row_read T.F_row_read sc_row_read fun cdv A outer s H E hr => ((fss_cons (fs_par3 (i := 3) (j := 4) (l := 5) rfl sc_row_read.nd rfl rfl rfl (by decide) (by decide) (by decide) rfl rfl rfl (fa_cons (fe_ix (fe_var (pv 0)) (fe_var (pv 1))) (fa_cons (fe_ix (fe_var (pv 0)) (fe_op (of_add (own := false)) (fe_var (pv 1)) fe_int)) (fa_cons (fe_op (of_add (own := false)) (fe_var (pv 1)) fe_int) fa_nil))) (by rfl))
  (fss_cons (fs_if (ft_cmp (of_eq hr.units) (fe_var (pv 3)) (fe_gl (v := (.int 1)) (by rfl) T.c_SET ⟨_, rfl⟩) (by rfl))
  (fss_one (fs_ret (fe_tup (fa_cons fe_str (fa_cons (fe_var (pv 4)) (fa_cons (fe_call (ok_term_read T) (hr.mono (by decide)) (by rfl) T.g_term_read T.F_term_read.kp T.b_term_read (fa_cons (fe_var (pv 0)) (fa_cons (fe_var (pv 5)) fa_nil))) fa_nil))))))
  fss_nil)
  (fss_cons (fs_if (ft_cmp (of_eq hr.units) (fe_var (pv 3)) (fe_gl (v := (.int 2)) (by rfl) T.c_PUT ⟨_, rfl⟩) (by rfl))
  (fss_one (fs_ret (fe_tup (fa_cons fe_str (fa_cons (fe_var (pv 4)) (fa_cons (fe_call (ok_plain_read T) (hr.mono (by decide)) (by rfl) T.g_plain_read T.F_plain_read.kp T.b_plain_read (fa_cons (fe_var (pv 0)) (fa_cons (fe_var (pv 5)) fa_nil))) (fa_cons (fe_call (ok_term_read T) (hr.mono (by decide)) (by rfl) T.g_term_read T.F_term_read.kp T.b_term_read (fa_cons (fe_var (pv 0)) (fa_cons (fe_op (of_add (own := false)) (fe_var (pv 5)) (fe_gl (v := (.int 4)) (by rfl) T.c_PLAIN_SIZE ⟨_, rfl⟩)) fa_nil))) fa_nil)))))))
  fss_nil)
  (fss_cons (fs_if (ft_cmp (of_in hr.units) (fe_var (pv 3)) (fe_tup (fa_cons (fe_gl (v := (.int 3)) (by rfl) T.c_SWAP ⟨_, rfl⟩) (fa_cons (fe_gl (v := (.int 4)) (by rfl) T.c_CHOOSE ⟨_, rfl⟩) fa_nil))) (by rfl))
  (fss_cons (fs_asg (fe_tup (fa_cons (fe_if (ft_cmp (of_eq hr.units) (fe_var (pv 3)) (fe_gl (v := (.int 3)) (by rfl) T.c_SWAP ⟨_, rfl⟩) (by rfl)) fe_str fe_str) (fa_cons (fe_var (pv 4)) fa_nil))) (fg_name (pg_name (i := 6) sc_row_read.nd rfl (by first | exact .inl rfl | exact .inr rfl))))
  (fss_one (fs_ret (fe_op (of_add (own := false)) (fe_var (pv 6)) (fe_tup (fa_cons (fe_call (ok_plain_read T) (hr.mono (by decide)) (by rfl) T.g_plain_read T.F_plain_read.kp T.b_plain_read (fa_cons (fe_var (pv 0)) (fa_cons (fe_var (pv 5)) fa_nil))) (fa_cons (fe_call (ok_plain_read T) (hr.mono (by decide)) (by rfl) T.g_plain_read T.F_plain_read.kp T.b_plain_read (fa_cons (fe_var (pv 0)) (fa_cons (fe_op (of_add (own := false)) (fe_var (pv 5)) (fe_gl (v := (.int 4)) (by rfl) T.c_PLAIN_SIZE ⟨_, rfl⟩)) fa_nil))) fa_nil)))))))
  fss_nil)
  (fss_cons (fs_if (ft_cmp (of_eq hr.units) (fe_var (pv 3)) (fe_gl (v := (.int 5)) (by rfl) T.c_CALL ⟨_, rfl⟩) (by rfl))
  (fss_one (fs_ret (fe_call (ok_call_read T) (hr.mono (by decide)) (by rfl) T.g_call_read T.F_call_read.kp T.b_call_read (fa_cons (fe_var (pv 0)) (fa_cons (fe_var (pv 1)) fa_nil)))))
  fss_nil)
  (fss_cons (fs_if (ft_cmp (of_eq hr.units) (fe_var (pv 3)) (fe_gl (v := (.int 6)) (by rfl) T.c_TEST ⟨_, rfl⟩) (by rfl))
  (fss_cons (fs_asg (fe_tup (fa_cons fe_str (fa_cons (fe_ix (fe_glT (vs := [(.str "<"), (.str "<="), (.str ">"), (.str ">="), (.str "=="), (.str "!=")]) (by rfl) T.c_COMPARING T.k_COMPARING.tup) (fe_var (pv 4))) (fa_cons (fe_call (ok_term_read T) (hr.mono (by decide)) (by rfl) T.g_term_read T.F_term_read.kp T.b_term_read (fa_cons (fe_var (pv 0)) (fa_cons (fe_var (pv 5)) fa_nil))) (fa_cons (fe_call (ok_term_read T) (hr.mono (by decide)) (by rfl) T.g_term_read T.F_term_read.kp T.b_term_read (fa_cons (fe_var (pv 0)) (fa_cons (fe_op (of_add (own := false)) (fe_var (pv 5)) (fe_gl (v := (.int 8)) (by rfl) T.c_TERM_SIZE ⟨_, rfl⟩)) fa_nil))) fa_nil))))) (fg_name (pg_name (i := 6) sc_row_read.nd rfl (by first | exact .inl rfl | exact .inr rfl))))
  (fss_one (fs_ret (fe_op (of_add (own := false)) (fe_var (pv 6)) (fe_tup (fa_cons (fe_ixX (fe_var (pv 2)) (fe_call (ok_target_place T) (hr.mono (by decide)) (by rfl) T.g_target_place T.F_target_place.kp T.b_target_place (fa_cons (fe_var (pv 0)) (fa_cons (fe_var (pv 1)) fa_nil)))) fa_nil))))))
  fss_nil)
  (fss_cons (fs_if (ft_cmp (of_eq hr.units) (fe_var (pv 3)) (fe_gl (v := (.int 7)) (by rfl) T.c_JUMP ⟨_, rfl⟩) (by rfl))
  (fss_one (fs_ret (fe_tup (fa_cons fe_str (fa_cons (fe_ixX (fe_var (pv 2)) (fe_var (pv 4))) fa_nil)))))
  fss_nil)
  (fss_one (fs_ret (fe_if (ft_cmp (of_eq hr.units) (fe_var (pv 3)) (fe_gl (v := (.int 8)) (by rfl) T.c_FAIL ⟨_, rfl⟩) (by rfl)) (fe_tup (fa_cons fe_str (fa_cons (fe_var (pv 4)) fa_nil))) (fe_tup (fa_cons fe_str (fa_cons (fe_call (ok_term_read T) (hr.mono (by decide)) (by rfl) T.g_term_read T.F_term_read.kp T.b_term_read (fa_cons (fe_var (pv 0)) (fa_cons (fe_op (of_add (own := false)) (fe_var (pv 1)) fe_int) fa_nil))) fa_nil))))))))))))))
theorem ok_is_integer : FnOk P w K mg base CX0 1 T.a_is_integer T.d_is_integer ["value"] (absF ⟨K, cls, w⟩ 1 f_is_integer) := by
  rw [fd_is_integer]
  exact @fn0 ⟨K, cls, w⟩ P w mg base "is_integer" "is_integer" s_is_integer T.a_is_integer T.d_is_integer names_is_integer ["value"] 0 b_is_integer T.F_is_integer sc_is_integer fun cdv A outer s H E hr => ((fss_one (fs_ret (fe_and (fe_callB cf_isa (by rfl) T.z_isinstance PyProof.Rows.boot_isinstance (fa_cons (fe_var (pv 0)) (fa_cons (fe_ty (by rfl) T.z_int PyProof.Rows.boot_int) fa_nil))) (fe_one (fe_not (fe_callB cf_isa (by rfl) T.z_isinstance PyProof.Rows.boot_isinstance (fa_cons (fe_var (pv 0)) (fa_cons (fe_ty (by rfl) T.z_bool PyProof.Rows.boot_bool) fa_nil)))))))))
theorem ok_read_body : FnOk P w K mg base CX0 6 T.a_read_body T.d_read_body ["words"] (absF ⟨K, cls, w⟩ 1 f_read_body) := by
  rw [fd_read_body]
  exact @fn0 ⟨K, cls, w⟩ P w mg base "read_body" "read_body" s_read_body T.a_read_body T.d_read_body names_read_body ["words"] 5 b_read_body T.F_read_body sc_read_body fun cdv A outer s H E hr => ((fss_cons (fs_asg (fe_callTy cf_tuple (by rfl) T.z_tuple PyProof.Rows.boot_tuple (fa_cons (fe_var (pv 0)) fa_nil)) (fg_name (pg_name (i := 0) sc_read_body.nd rfl (by first | exact .inl rfl | exact .inr rfl))))
  (fss_cons (fs_if (ft_not (ft_tru (fe_callB (cf_all rfl) (by rfl) T.z_all PyProof.Rows.boot_all (fa_cons (fe_lc (own := false) (onames := [("word", 7)]) rfl sc_read_body.nd (fi_seq (fe_var (pv 0))) (blkOk_by (N := names_read_body) (sc := defScope s_read_body) (by decide +kernel)) (fun _ _ _ _ _ => (fg_name (pg_name (i := 7) sc_read_body.nd rfl (by first | exact .inl rfl | exact .inr rfl)))) (fun _ _ _ _ _ => fts_nil) (fun _ _ _ _ _ => (fe_call (ok_is_integer T) (hr.mono (by decide)) (by rfl) T.g_is_integer T.F_is_integer.kp T.b_is_integer (fa_cons (fe_var (pv 7)) fa_nil)))) fa_nil))))
  (fss_one (fs_ret fe_non))
  fss_nil)
  (fss_cons (fs_asg (fe_frz (fe_call (ok_rows_of_words T) (hr.mono (by decide)) (by rfl) T.g_rows_of_words T.F_rows_of_words.kp T.b_rows_of_words (fa_cons (fe_var (pv 0)) fa_nil))) (fg_name (pg_name (i := 1) sc_read_body.nd rfl (by first | exact .inl rfl | exact .inr rfl))))
  (fss_cons (fs_if (ft_cmp of_is (fe_var (pv 1)) fe_non (by rfl))
  (fss_one (fs_ret fe_non))
  fss_nil)
  (fss_cons (fs_asg (fe_dc (own := false) (onames := [("number", 5), ("place", 6)]) rfl sc_read_body.nd (fi_enumB (by rfl) T.z_enumerate (fa_cons (fe_var (pv 1)) fa_nil)) (blkOk_by (N := names_read_body) (sc := defScope s_read_body) (by decide +kernel)) (fun _ _ _ _ _ => (fg_tup rfl (fgs_cons (fg_name (pg_name (i := 5) sc_read_body.nd rfl (by first | exact .inl rfl | exact .inr rfl))) (fgs_cons (fg_name (pg_name (i := 6) sc_read_body.nd rfl (by first | exact .inl rfl | exact .inr rfl))) fgs_nil)))) (fun _ _ _ _ _ => fts_nil) (fun _ _ _ _ _ => (fe_var (pv 6))) (fun _ _ _ _ _ => (fe_var (pv 5)))) (fg_name (pg_name (i := 2) sc_read_body.nd rfl (by first | exact .inl rfl | exact .inr rfl))))
  (fss_cons (fs_lc (own := false) (i := 3) (onames := [("at", 4)]) rfl sc_read_body.nd rfl rfl (sw_true rfl rfl rfl (by decide +kernel)) (fi_seq (fe_var (pv 1))) (blkOk_by (N := names_read_body) (sc := defScope s_read_body) (by decide +kernel)) (fun _ _ _ _ _ => (fg_name (pg_name (i := 4) sc_read_body.nd rfl (by first | exact .inl rfl | exact .inr rfl)))) (fun _ _ _ _ _ => fts_nil) (fun _ _ _ _ _ => (fe_call (ok_target_place T) (hr.mono (by decide)) (by rfl) T.g_target_place T.F_target_place.kp T.b_target_place (fa_cons (fe_var (pv 0)) (fa_cons (fe_var (pv 4)) fa_nil)))))
  (fss_cons (fs_if (ft_not (ft_tru (fe_callB (cf_all rfl) (by rfl) T.z_all PyProof.Rows.boot_all (fa_cons (fe_lc (own := false) (onames := [("target", 8)]) rfl sc_read_body.nd (fi_seq (fe_var (pv 3))) (blkOk_by (N := names_read_body) (sc := defScope s_read_body) (by decide +kernel)) (fun _ _ _ _ _ => (fg_name (pg_name (i := 8) sc_read_body.nd rfl (by first | exact .inl rfl | exact .inr rfl)))) (fun _ _ _ _ _ => fts_nil) (fun _ _ _ _ _ => (fe_or (fe_cmp of_is (fe_var (pv 8)) fe_non (by rfl)) (fe_one (fe_cmp (of_inX hr.units) (fe_var (pv 8)) (fe_var (pv 2)) (by rfl)))))) fa_nil))))
  (fss_one (fs_ret fe_non))
  fss_nil)
  (fss_one (fs_ret (fe_callTy cf_tuple (by rfl) T.z_tuple PyProof.Rows.boot_tuple (fa_cons (fe_lc (own := false) (onames := [("at", 4)]) rfl sc_read_body.nd (fi_seq (fe_var (pv 1))) (blkOk_by (N := names_read_body) (sc := defScope s_read_body) (by decide +kernel)) (fun _ _ _ _ _ => (fg_name (pg_name (i := 4) sc_read_body.nd rfl (by first | exact .inl rfl | exact .inr rfl)))) (fun _ _ _ _ _ => fts_nil) (fun _ _ _ _ _ => (fe_call (ok_row_read T) (hr.mono (by decide)) (by rfl) T.g_row_read T.F_row_read.kp T.b_row_read (fa_cons (fe_var (pv 0)) (fa_cons (fe_var (pv 4)) (fa_cons (fe_var (pv 2)) fa_nil)))))) fa_nil))))))))))))
theorem ok__law_next : FnOk P w K mg base CX0 1 T.a__law_next T.d__law_next ["body", "at"] (absF ⟨K, cls, w⟩ 2 f__law_next) := by
  rw [fd__law_next]
  exact @fn0 ⟨K, cls, w⟩ P w mg base "_law_next" "_law_next" s__law_next T.a__law_next T.d__law_next names__law_next ["body", "at"] 0 b__law_next T.F__law_next sc__law_next fun cdv A outer s H E hr => ((fss_cons (fs_asg (fe_ix (fe_var (pv 0)) (fe_var (pv 1))) (fg_name (pg_name (i := 2) sc__law_next.nd rfl (by first | exact .inl rfl | exact .inr rfl))))
  (fss_cons (fs_if ((fw_or (ft_cmp (of_eq hr.units) (fe_ix (fe_var (pv 2)) fe_int) fe_str (by rfl)) (fw_or1 (ft_cmp (of_eq hr.units) (fe_ix (fe_var (pv 2)) fe_int) fe_str (by rfl))))).pt
  (fss_one (fs_ret (fe_lst (own := false) fa_nil)))
  fss_nil)
  (fss_cons (fs_if (ft_cmp (of_eq hr.units) (fe_ix (fe_var (pv 2)) fe_int) fe_str (by rfl))
  (fss_one (fs_ret (fe_lst (own := false) (fa_cons (fe_ix (fe_var (pv 2)) fe_int) fa_nil))))
  fss_nil)
  (fss_cons (fs_if ((fw_and (ft_cmp (of_eq hr.units) (fe_ix (fe_var (pv 2)) fe_int) fe_str (by rfl)) (fw_and1 (ft_cmp (of_ne hr.units) (fe_ix (fe_var (pv 2)) fe_int) (fe_op (of_add (own := false)) (fe_var (pv 1)) fe_int) (by rfl))))).pt
  (fss_one (fs_ret (fe_lst (own := false) (fa_cons (fe_op (of_add (own := false)) (fe_var (pv 1)) fe_int) (fa_cons (fe_ix (fe_var (pv 2)) fe_int) fa_nil)))))
  fss_nil)
  (fss_one (fs_ret (fe_lst (own := false) (fa_cons (fe_op (of_add (own := false)) (fe_var (pv 1)) fe_int) fa_nil)))))))))
theorem ok__law_heads : FnOk P w K mg base CX0 2 T.a__law_heads T.d__law_heads ["body"] (absF ⟨K, cls, w⟩ 1 f__law_heads) := by
  rw [fd__law_heads]
  exact @fn0 ⟨K, cls, w⟩ P w mg base "_law_heads" "_law_heads" s__law_heads T.a__law_heads T.d__law_heads names__law_heads ["body"] 1 b__law_heads T.F__law_heads sc__law_heads fun cdv A outer s H E hr => ((fss_cons (fs_asg (fe_lc (own := true) (onames := [("row", 7)]) rfl sc__law_heads.nd (fi_seq (fe_var (pv 0))) (blkOk_by (N := names__law_heads) (sc := defScope s__law_heads) (by decide +kernel)) (fun _ _ _ _ _ => (fg_name (pg_name (i := 7) sc__law_heads.nd rfl (by first | exact .inl rfl | exact .inr rfl)))) (fun _ _ _ _ _ => fts_nil) (fun _ _ _ _ _ => fe_bl)) (fg_name (pg_name (i := 1) sc__law_heads.nd rfl (by first | exact .inl rfl | exact .inr rfl))))
  (fss_cons (fs_asg (fe_lc (own := true) (onames := [("row", 7)]) rfl sc__law_heads.nd (fi_seq (fe_var (pv 0))) (blkOk_by (N := names__law_heads) (sc := defScope s__law_heads) (by decide +kernel)) (fun _ _ _ _ _ => (fg_name (pg_name (i := 7) sc__law_heads.nd rfl (by first | exact .inl rfl | exact .inr rfl)))) (fun _ _ _ _ _ => fts_nil) (fun _ _ _ _ _ => fe_bl)) (fg_name (pg_name (i := 2) sc__law_heads.nd rfl (by first | exact .inl rfl | exact .inr rfl))))
  (fss_cons (fs_for PassesOwn.never rfl (fi_rng1 (by rfl) T.z_range (fa_cons (fe_callB cf_len (by rfl) T.z_len PySem.boot_len (fa_cons (fe_var (pv 0)) fa_nil)) fa_nil)) (fg_name (pg_name (i := 3) sc__law_heads.nd rfl (by first | exact .inl rfl | exact .inr rfl)))
  (fss_cons (fs_asg (fe_op of_sub (fe_callB cf_len (by rfl) T.z_len PySem.boot_len (fa_cons (fe_ix (fe_var (pv 0)) (fe_var (pv 3))) fa_nil)) fe_int) (fg_name (pg_name (i := 6) sc__law_heads.nd rfl (by first | exact .inl rfl | exact .inr rfl))))
  (fss_one (fs_if ((fw_and ((fw_or (ft_cmp (of_eq hr.units) (fe_ix (fe_ix (fe_var (pv 0)) (fe_var (pv 3))) fe_int) fe_str (by rfl)) (fw_or1 (ft_cmp (of_eq hr.units) (fe_ix (fe_ix (fe_var (pv 0)) (fe_var (pv 3))) fe_int) fe_str (by rfl))))).pt (fw_and1 (ft_cmp of_le (fe_ix (fe_ix (fe_var (pv 0)) (fe_var (pv 3))) (fe_var (pv 6))) (fe_var (pv 3)) (by rfl))))).pt
  (fss_one (fs_set fe_bl (fe_var (pv 2)) (fe_ix (fe_ix (fe_var (pv 0)) (fe_var (pv 3))) (fe_var (pv 6)))))
  fss_nil))))
  (fss_cons (fs_asg (fe_lst (own := true) (fa_cons fe_int fa_nil)) (fg_name (pg_name (i := 4) sc__law_heads.nd rfl (by first | exact .inl rfl | exact .inr rfl))))
  (fss_cons (fs_for PassesOwn.never rfl (fi_rng1 (by rfl) T.z_range (fa_cons (fe_op (of_add (own := false)) (fe_op of_mul fe_int (fe_callB cf_len (by rfl) T.z_len PySem.boot_len (fa_cons (fe_var (pv 0)) fa_nil))) fe_int) fa_nil)) (fg_name (pg_name (i := 5) sc__law_heads.nd rfl (by first | exact .inl rfl | exact .inr rfl)))
  (fss_one (fs_if (ft_tru (fe_var (pv 4)))
  (fss_cons (fs_asg (fe_mt0 PySem.F.plainAttrs_list PySem.F.slot_list_pop PySem.F.type_list_pop mf_pop (fe_var (pv 4))) (fg_name (pg_name (i := 3) sc__law_heads.nd rfl (by first | exact .inl rfl | exact .inr rfl))))
  (fss_one (fs_if (ft_not (ft_tru (fe_ix (fe_var (pv 1)) (fe_var (pv 3)))))
  (fss_cons (fs_set fe_bl (fe_var (pv 1)) (fe_var (pv 3)))
  (fss_one (fs_asg (fe_op (of_add (own := true)) (fe_var (pv 4)) (fe_call (ok__law_next T) (hr.mono (by decide)) (by rfl) T.g__law_next T.F__law_next.kp T.b__law_next (fa_cons (fe_var (pv 0)) (fa_cons (fe_var (pv 3)) fa_nil)))) (fg_name (pg_name (i := 4) sc__law_heads.nd rfl (by first | exact .inl rfl | exact .inr rfl))))))
  fss_nil)))
  fss_nil)))
  (fss_one (fs_ret (fe_lc (own := false) (onames := [("at", 3)]) rfl sc__law_heads.nd (fi_rng1 (by rfl) T.z_range (fa_cons (fe_callB cf_len (by rfl) T.z_len PySem.boot_len (fa_cons (fe_var (pv 0)) fa_nil)) fa_nil)) (blkOk_by (N := names__law_heads) (sc := defScope s__law_heads) (by decide +kernel)) (fun _ _ _ _ _ => (fg_name (pg_name (i := 3) sc__law_heads.nd rfl (by first | exact .inl rfl | exact .inr rfl)))) (fun _ _ _ _ _ => (fts_one ((fw_and (ft_tru (fe_ix (fe_var (pv 1)) (fe_var (pv 3)))) (fw_and1 (ft_tru (fe_ix (fe_var (pv 2)) (fe_var (pv 3))))))).pt)) (fun _ _ _ _ _ => (fe_var (pv 3))))))))))))
theorem ok__law_draw : FnOk P w K mg base CX0 1 T.a__law_draw T.d__law_draw ["deck", "many"] (absF ⟨K, cls, w⟩ 2 f__law_draw) := by
  rw [fd__law_draw]
  exact @fn0 ⟨K, cls, w⟩ P w mg base "_law_draw" "_law_draw" s__law_draw T.a__law_draw T.d__law_draw names__law_draw ["deck", "many"] 0 b__law_draw T.F__law_draw sc__law_draw fun cdv A outer s H E hr => ((fss_cons (fs_set (fe_op (of_add (own := false)) (fe_ix (fe_var (pv 0)) fe_int) fe_int) (fe_var (pv 0)) fe_int)
  (fss_cons (fs_if (ft_cmp of_ge (fe_ix (fe_var (pv 0)) fe_int) (fe_var (pv 1)) (by rfl))
  (fss_cons (fs_asg (fe_op of_mod (fe_callTy cf_int (by rfl) T.z_int PyProof.Rows.boot_int (fa_cons (fe_ix (fe_var (pv 0)) fe_int) fa_nil)) (fe_var (pv 1))) (fg_name (pg_name (i := 6) sc__law_draw.nd rfl (by first | exact .inl rfl | exact .inr rfl))))
  (fss_cons (fs_set (fe_op of_div (fe_ix (fe_var (pv 0)) fe_int) (fe_var (pv 1))) (fe_var (pv 0)) fe_int)
  (fss_one (fs_ret (fe_var (pv 6))))))
  fss_nil)
  (fss_cons (fs_asg fe_int (fg_name (pg_name (i := 2) sc__law_draw.nd rfl (by first | exact .inl rfl | exact .inr rfl))))
  (fss_cons (fs_if (ft_tru (fe_ix (fe_var (pv 0)) fe_int))
  (fss_one (fs_asg (fe_ix (fe_ix (fe_var (pv 0)) fe_int) (fe_op of_mod (fe_callTy cf_int (by rfl) T.z_int PyProof.Rows.boot_int (fa_cons (fe_ix (fe_var (pv 0)) fe_int) fa_nil)) (fe_callB cf_len (by rfl) T.z_len PySem.boot_len (fa_cons (fe_ix (fe_var (pv 0)) fe_int) fa_nil)))) (fg_name (pg_name (i := 2) sc__law_draw.nd rfl (by first | exact .inl rfl | exact .inr rfl)))))
  fss_nil)
  (fss_cons (fs_set (fe_op (of_add (own := false)) (fe_ix (fe_var (pv 0)) fe_int) fe_int) (fe_var (pv 0)) fe_int)
  (fss_cons (fs_if ((fw_and (ft_cmp of_le (fe_ix (fe_var (pv 0)) fe_int) (fe_callB cf_len (by rfl) T.z_len PySem.boot_len (fa_cons (fe_ix (fe_var (pv 0)) fe_int) fa_nil)) (by rfl)) (fw_and1 (ft_cmp of_ge (fe_var (pv 2)) (fe_op of_pow fe_int fe_int) (by rfl))))).pt
  (fss_cons (fs_set (fe_op of_div (fe_var (pv 2)) (fe_var (pv 1))) (fe_var (pv 0)) fe_int)
  (fss_one (fs_ret (fe_op of_mod (fe_callTy cf_int (by rfl) T.z_int PyProof.Rows.boot_int (fa_cons (fe_var (pv 2)) fa_nil)) (fe_var (pv 1))))))
  fss_nil)
  (fss_cons (fs_asg (fe_op of_mod (fe_callTy cf_int (by rfl) T.z_int PyProof.Rows.boot_int (fa_cons (fe_op (of_add (own := false)) (fe_var (pv 2)) (fe_op of_mul fe_int (fe_ix (fe_var (pv 0)) fe_int))) fa_nil)) fe_int) (fg_name (pg_name (i := 3) sc__law_draw.nd rfl (by first | exact .inl rfl | exact .inr rfl))))
  (fss_cons (fs_asg (fe_op of_mod (fe_callTy cf_int (by rfl) T.z_int PyProof.Rows.boot_int (fa_cons (fe_op (of_add (own := false)) (fe_op (of_add (own := false)) (fe_op of_mul (fe_var (pv 3)) (fe_var (pv 3))) (fe_op of_mul fe_int (fe_var (pv 3)))) (fe_ix (fe_var (pv 0)) fe_int)) fa_nil)) fe_int) (fg_name (pg_name (i := 4) sc__law_draw.nd rfl (by first | exact .inl rfl | exact .inr rfl))))
  (fss_cons (fs_asg (fe_op of_mod (fe_callTy cf_int (by rfl) T.z_int PyProof.Rows.boot_int (fa_cons (fe_op (of_add (own := false)) (fe_op (of_add (own := false)) (fe_op of_mul (fe_op of_div (fe_var (pv 4)) fe_int) fe_int) (fe_op of_mul (fe_var (pv 4)) fe_int)) (fe_var (pv 3))) fa_nil)) fe_int) (fg_name (pg_name (i := 5) sc__law_draw.nd rfl (by first | exact .inl rfl | exact .inr rfl))))
  (fss_one (fs_ret (fe_op of_mod (fe_callTy cf_int (by rfl) T.z_int PyProof.Rows.boot_int (fa_cons (fe_op of_div (fe_var (pv 5)) fe_int) fa_nil)) (fe_var (pv 1)))))))))))))))
theorem ok_step_targets : FnOk P w K mg base CX0 1 T.a_step_targets T.d_step_targets ["body", "at"] (absF ⟨K, cls, w⟩ 2 f_step_targets) := by
  rw [fd_step_targets]
  exact @fn0 ⟨K, cls, w⟩ P w mg base "step_targets" "step_targets" s_step_targets T.a_step_targets T.d_step_targets names_step_targets ["body", "at"] 0 b_step_targets T.F_step_targets sc_step_targets fun cdv A outer s H E hr => ((fss_cons (fs_asg (fe_ix (fe_var (pv 0)) (fe_var (pv 1))) (fg_name (pg_name (i := 2) sc_step_targets.nd rfl (by first | exact .inl rfl | exact .inr rfl))))
  (fss_cons (fs_if (ft_cmp (of_in hr.units) (fe_ix (fe_var (pv 2)) fe_int) (fe_tup (fa_cons fe_str (fa_cons fe_str fa_nil))) (by rfl))
  (fss_one (fs_ret (fe_lst (own := true) fa_nil)))
  fss_nil)
  (fss_cons (fs_if (ft_cmp (of_eq hr.units) (fe_ix (fe_var (pv 2)) fe_int) fe_str (by rfl))
  (fss_one (fs_ret (fe_lst (own := true) (fa_cons (fe_ix (fe_var (pv 2)) fe_int) fa_nil))))
  fss_nil)
  (fss_cons (fs_asg (fe_if (ft_cmp of_lt (fe_op (of_add (own := false)) (fe_var (pv 1)) fe_int) (fe_callB cf_len (by rfl) T.z_len PySem.boot_len (fa_cons (fe_var (pv 0)) fa_nil)) (by rfl)) (fe_lst (own := true) (fa_cons (fe_op (of_add (own := false)) (fe_var (pv 1)) fe_int) fa_nil)) (fe_lst (own := true) fa_nil)) (fg_name (pg_name (i := 3) sc_step_targets.nd rfl (by first | exact .inl rfl | exact .inr rfl))))
  (fss_cons (fs_if ((fw_and (ft_cmp (of_eq hr.units) (fe_ix (fe_var (pv 2)) fe_int) fe_str (by rfl)) (fw_and1 (ft_cmp (of_notIn hr.units) (fe_ix (fe_var (pv 2)) fe_int) (fe_var (pv 3)) (by rfl))))).pt
  (fss_one (fs_expr (fe_mt PySem.F.plainAttrs_list PySem.F.slot_list_append PySem.F.type_list_append mf_append (fe_var (pv 3)) (fa_cons (fe_ix (fe_var (pv 2)) fe_int) fa_nil))))
  fss_nil)
  (fss_one (fs_ret (fe_var (pv 3))))))))))
theorem ok_reached : FnOk P w K mg base CX0 2 T.a_reached T.d_reached ["body"] (absF ⟨K, cls, w⟩ 1 f_reached) := by
  rw [fd_reached]
  exact @fn0 ⟨K, cls, w⟩ P w mg base "reached" "reached" s_reached T.a_reached T.d_reached names_reached ["body"] 1 b_reached T.F_reached sc_reached fun cdv A outer s H E hr => ((fss_cons (fs_asg (fe_if (ft_cmp of_gt (fe_callB cf_len (by rfl) T.z_len PySem.boot_len (fa_cons (fe_var (pv 0)) fa_nil)) fe_int (by rfl)) (fe_dl (own := true) (ks := [(.inl (0))]) (ls := [(.bl true)]) (pps_cons pk_int pl_bl pps_nil) rfl (by decide) (by decide) rfl rfl (by simp) (by decide)) (fe_d0 (own := true))) (fg_name (pg_name (i := 1) sc_reached.nd rfl (by first | exact .inl rfl | exact .inr rfl))))
  (fss_cons (fs_asg (fe_callTy (cf_listD (own := true) rfl) (by rfl) T.z_list PyProof.Rows.boot_list (fa_cons (fe_var (pv 1)) fa_nil)) (fg_name (pg_name (i := 2) sc_reached.nd rfl (by first | exact .inl rfl | exact .inr rfl))))
  (fss_cons (fs_while PassesOwn.never (ft_cmp of_gt (fe_callB cf_len (by rfl) T.z_len PySem.boot_len (fa_cons (fe_var (pv 2)) fa_nil)) fe_int (by rfl))
  (fss_one (fs_for PassesOwn.never rfl (fi_seq (fe_frz (fe_call (ok_step_targets T) (hr.mono (by decide)) (by rfl) T.g_step_targets T.F_step_targets.kp T.b_step_targets (fa_cons (fe_var (pv 0)) (fa_cons (fe_mt0 PySem.F.plainAttrs_list PySem.F.slot_list_pop PySem.F.type_list_pop mf_pop (fe_var (pv 2))) fa_nil))))) (fg_name (pg_name (i := 3) sc_reached.nd rfl (by first | exact .inl rfl | exact .inr rfl)))
  (fss_one (fs_if (ft_cmp (of_notInX hr.units) (fe_var (pv 3)) (fe_var (pv 1)) (by rfl))
  (fss_cons (fs_setX hr.units fe_bl (fe_var (pv 1)) (fe_var (pv 3)))
  (fss_one (fs_expr (fe_mt PySem.F.plainAttrs_list PySem.F.slot_list_append PySem.F.type_list_append mf_append (fe_var (pv 2)) (fa_cons (fe_var (pv 3)) fa_nil)))))
  fss_nil)))))
  (fss_one (fs_ret (fe_var (pv 1))))))))
theorem ok_heads_of : FnOk P w K mg base CX0 3 T.a_heads_of T.d_heads_of ["body"] (absF ⟨K, cls, w⟩ 1 f_heads_of) := by
  rw [fd_heads_of]
  exact @fn0 ⟨K, cls, w⟩ P w mg base "heads_of" "heads_of" s_heads_of T.a_heads_of T.d_heads_of names_heads_of ["body"] 2 b_heads_of T.F_heads_of sc_heads_of fun cdv A outer s H E hr => ((fss_cons (fs_asg (fe_frz (fe_call (ok_reached T) (hr.mono (by decide)) (by rfl) T.g_reached T.F_reached.kp T.b_reached (fa_cons (fe_var (pv 0)) fa_nil))) (fg_name (pg_name (i := 1) sc_heads_of.nd rfl (by first | exact .inl rfl | exact .inr rfl))))
  (fss_cons (fs_asg (fe_d0 (own := true)) (fg_name (pg_name (i := 2) sc_heads_of.nd rfl (by first | exact .inl rfl | exact .inr rfl))))
  (fss_cons (fs_for PassesOwn.never rfl (fi_enumB (by rfl) T.z_enumerate (fa_cons (fe_var (pv 0)) fa_nil)) (fg_tup rfl (fgs_cons (fg_name (pg_name (i := 3) sc_heads_of.nd rfl (by first | exact .inl rfl | exact .inr rfl))) (fgs_cons (fg_name (pg_name (i := 4) sc_heads_of.nd rfl (by first | exact .inl rfl | exact .inr rfl))) fgs_nil)))
  (fss_one (fs_if ((fw_and (ft_cmp (of_in hr.units) (fe_ix (fe_var (pv 4)) fe_int) (fe_tup (fa_cons fe_str (fa_cons fe_str fa_nil))) (by rfl)) (fw_and (ft_cmp of_le (fe_ix (fe_var (pv 4)) (fe_neg fe_int)) (fe_var (pv 3)) (by rfl)) (fw_and1 (ft_cmp (of_inX hr.units) (fe_ix (fe_var (pv 4)) (fe_neg fe_int)) (fe_var (pv 1)) (by rfl)))))).pt
  (fss_one (fs_setX hr.units fe_bl (fe_var (pv 2)) (fe_ix (fe_var (pv 4)) (fe_neg fe_int))))
  fss_nil)))
  (fss_one (fs_ret (fe_callB (cf_sortD (own := true) rfl) (by rfl) T.z_sorted PyProof.Rows.boot_sorted (fa_cons (fe_var (pv 2)) fa_nil))))))))
theorem ok__law_asked : FnOk P w K mg base CX0 4 T.a__law_asked T.d__law_asked ["body", "due"] (absF ⟨K, cls, w⟩ 2 f__law_asked) := by
  rw [fd__law_asked]
  exact @fn0 ⟨K, cls, w⟩ P w mg base "_law_asked" "_law_asked" s__law_asked T.a__law_asked T.d__law_asked names__law_asked ["body", "due"] 3 b__law_asked T.F__law_asked sc__law_asked fun cdv A outer s H E hr => ((fss_cons (fs_asg (fe_call (ok_heads_of T) (hr.mono (by decide)) (by rfl) T.g_heads_of T.F_heads_of.kp T.b_heads_of (fa_cons (fe_var (pv 0)) fa_nil)) (fg_name (pg_name (i := 2) sc__law_asked.nd rfl (by first | exact .inl rfl | exact .inr rfl))))
  (fss_cons (fs_if ((fw_or (ft_not (ft_tru (fe_callB cf_isa (by rfl) T.z_isinstance PyProof.Rows.boot_isinstance (fa_cons (fe_var (pv 2)) (fa_cons (fe_ty (by rfl) T.z_list PyProof.Rows.boot_list) fa_nil))))) (fw_or (ft_cmp (of_ne hr.units) (fe_var (pv 2)) (fe_var (pv 1)) (by rfl)) (fw_or1 (ft_cmp (of_in hr.units) fe_bl (fe_lc (own := false) (onames := [("at", 3)]) rfl sc__law_asked.nd (fi_seq (fe_var (pv 2))) (blkOk_by (N := names__law_asked) (sc := defScope s__law_asked) (by decide +kernel)) (fun _ _ _ _ _ => (fg_name (pg_name (i := 3) sc__law_asked.nd rfl (by first | exact .inl rfl | exact .inr rfl)))) (fun _ _ _ _ _ => fts_nil) (fun _ _ _ _ _ => (fe_callB cf_isa (by rfl) T.z_isinstance PyProof.Rows.boot_isinstance (fa_cons (fe_var (pv 3)) (fa_cons (fe_ty (by rfl) T.z_bool PyProof.Rows.boot_bool) fa_nil))))) (by rfl)))))).pt
  (fss_one (fs_ret fe_bl))
  fss_nil)
  (fss_cons (fs_for PassesOwn.never rfl (fi_rng1 (by rfl) T.z_range (fa_cons (fe_callB cf_len (by rfl) T.z_len PySem.boot_len (fa_cons (fe_var (pv 0)) fa_nil)) fa_nil)) (fg_name (pg_name (i := 3) sc__law_asked.nd rfl (by first | exact .inl rfl | exact .inr rfl)))
  (fss_cons (fs_asg (fe_call (ok_step_targets T) (hr.mono (by decide)) (by rfl) T.g_step_targets T.F_step_targets.kp T.b_step_targets (fa_cons (fe_var (pv 0)) (fa_cons (fe_var (pv 3)) fa_nil))) (fg_name (pg_name (i := 4) sc__law_asked.nd rfl (by first | exact .inl rfl | exact .inr rfl))))
  (fss_cons (fs_if ((fw_or (ft_not (ft_tru (fe_callB cf_isa (by rfl) T.z_isinstance PyProof.Rows.boot_isinstance (fa_cons (fe_var (pv 4)) (fa_cons (fe_ty (by rfl) T.z_list PyProof.Rows.boot_list) fa_nil))))) (fw_or1 (ft_cmp (of_ne hr.units) (fe_var (pv 4)) (fe_call (ok__law_next T) (hr.mono (by decide)) (by rfl) T.g__law_next T.F__law_next.kp T.b__law_next (fa_cons (fe_var (pv 0)) (fa_cons (fe_var (pv 3)) fa_nil))) (by rfl))))).pt
  (fss_one (fs_ret fe_bl))
  fss_nil)
  (fss_cons (fs_expr (fe_mt PySem.F.plainAttrs_list PySem.F.slot_list_append PySem.F.type_list_append mf_append (fe_var (pv 4)) (fa_cons (fe_var (pv 3)) fa_nil)))
  (fss_one (fs_if (ft_cmp (of_ne hr.units) (fe_frz (fe_call (ok_step_targets T) (hr.mono (by decide)) (by rfl) T.g_step_targets T.F_step_targets.kp T.b_step_targets (fa_cons (fe_var (pv 0)) (fa_cons (fe_var (pv 3)) fa_nil)))) (fe_call (ok__law_next T) (hr.mono (by decide)) (by rfl) T.g__law_next T.F__law_next.kp T.b__law_next (fa_cons (fe_var (pv 0)) (fa_cons (fe_var (pv 3)) fa_nil))) (by rfl))
  (fss_one (fs_ret fe_bl))
  fss_nil))))))
  (fss_cons (fs_expr (fe_mt PySem.F.plainAttrs_list PySem.F.slot_list_insert PySem.F.type_list_insert mf_insert (fe_var (pv 2)) (fa_cons fe_int (fa_cons (fe_callB cf_len (by rfl) T.z_len PySem.boot_len (fa_cons (fe_var (pv 0)) fa_nil)) fa_nil))))
  (fss_one (fs_ret (fe_cmp (of_eq hr.units) (fe_frz (fe_call (ok_heads_of T) (hr.mono (by decide)) (by rfl) T.g_heads_of T.F_heads_of.kp T.b_heads_of (fa_cons (fe_var (pv 0)) fa_nil))) (fe_var (pv 1)) (by rfl)))))))))
theorem ok__law_number : FnOk P w K mg base CX0 2 T.a__law_number T.d__law_number ["deck"] (absF ⟨K, cls, w⟩ 1 f__law_number) := by
  rw [fd__law_number]
  exact @fn0 ⟨K, cls, w⟩ P w mg base "_law_number" "_law_number" s__law_number T.a__law_number T.d__law_number names__law_number ["deck"] 1 b__law_number T.F__law_number sc__law_number fun cdv A outer s H E hr => ((fss_cons (fs_asg (fe_call (ok__law_draw T) (hr.mono (by decide)) (by rfl) T.g__law_draw T.F__law_draw.kp T.b__law_draw (fa_cons (fe_var (pv 0)) (fa_cons fe_int fa_nil))) (fg_name (pg_name (i := 1) sc__law_number.nd rfl (by first | exact .inl rfl | exact .inr rfl))))
  (fss_cons (fs_if (ft_cmp (of_eq hr.units) (fe_var (pv 1)) fe_int (by rfl))
  (fss_one (fs_ret (fe_op of_sub (fe_call (ok__law_draw T) (hr.mono (by decide)) (by rfl) T.g__law_draw T.F__law_draw.kp T.b__law_draw (fa_cons (fe_var (pv 0)) (fa_cons (fe_op of_pow fe_int fe_int) fa_nil))) (fe_op of_mul fe_int (fe_op of_pow fe_int fe_int)))))
  fss_nil)
  (fss_one (fs_ret (fe_op of_sub (fe_var (pv 1)) fe_int))))))
theorem ok__law_plain : FnOk P w K mg base CX0 3 T.a__law_plain T.d__law_plain ["deck", "kind"] (absF ⟨K, cls, w⟩ 2 f__law_plain) := by
  rw [fd__law_plain]
  exact @fn0 ⟨K, cls, w⟩ P w mg base "_law_plain" "_law_plain" s__law_plain T.a__law_plain T.d__law_plain names__law_plain ["deck", "kind"] 2 b__law_plain T.F__law_plain sc__law_plain fun cdv A outer s H E hr => ((fss_cons (fs_asg (fe_call (ok__law_draw T) (hr.mono (by decide)) (by rfl) T.g__law_draw T.F__law_draw.kp T.b__law_draw (fa_cons (fe_var (pv 0)) (fa_cons fe_int fa_nil))) (fg_name (pg_name (i := 2) sc__law_plain.nd rfl (by first | exact .inl rfl | exact .inr rfl))))
  (fss_cons (fs_if (ft_cmp (of_eq hr.units) (fe_var (pv 2)) fe_int (by rfl))
  (fss_one (fs_ret (fe_tup (fa_cons fe_str (fa_cons (fe_call (ok__law_number T) (hr.mono (by decide)) (by rfl) T.g__law_number T.F__law_number.kp T.b__law_number (fa_cons (fe_var (pv 0)) fa_nil)) fa_nil)))))
  fss_nil)
  (fss_cons (fs_if ((fw_and (ft_cmp (of_eq hr.units) (fe_var (pv 2)) fe_int (by rfl)) (fw_and1 (ft_cmp of_gt (fe_ix (fe_var (pv 1)) fe_int) fe_int (by rfl))))).pt
  (fss_one (fs_ret (fe_tup (fa_cons fe_str (fa_cons (fe_call (ok__law_draw T) (hr.mono (by decide)) (by rfl) T.g__law_draw T.F__law_draw.kp T.b__law_draw (fa_cons (fe_var (pv 0)) (fa_cons (fe_ix (fe_var (pv 1)) fe_int) fa_nil))) (fa_cons (fe_op of_sub (fe_call (ok__law_draw T) (hr.mono (by decide)) (by rfl) T.g__law_draw T.F__law_draw.kp T.b__law_draw (fa_cons (fe_var (pv 0)) (fa_cons fe_int fa_nil))) fe_int) fa_nil))))))
  fss_nil)
  (fss_one (fs_ret (fe_tup (fa_cons fe_str (fa_cons (fe_call (ok__law_draw T) (hr.mono (by decide)) (by rfl) T.g__law_draw T.F__law_draw.kp T.b__law_draw (fa_cons (fe_var (pv 0)) (fa_cons (fe_ix (fe_var (pv 1)) fe_int) fa_nil))) (fa_cons (fe_op of_sub (fe_call (ok__law_draw T) (hr.mono (by decide)) (by rfl) T.g__law_draw T.F__law_draw.kp T.b__law_draw (fa_cons (fe_var (pv 0)) (fa_cons fe_int fa_nil))) fe_int) fa_nil))))))))))
theorem ok__law_term : FnOk P w K mg base CX0 4 T.a__law_term T.d__law_term ["deck", "kind"] (absF ⟨K, cls, w⟩ 2 f__law_term) := by
  rw [fd__law_term]
  exact @fn0 ⟨K, cls, w⟩ P w mg base "_law_term" "_law_term" s__law_term T.a__law_term T.d__law_term names__law_term ["deck", "kind"] 3 b__law_term T.F__law_term sc__law_term fun cdv A outer s H E hr => ((fss_cons (fs_asg (fe_call (ok__law_plain T) (hr.mono (by decide)) (by rfl) T.g__law_plain T.F__law_plain.kp T.b__law_plain (fa_cons (fe_var (pv 0)) (fa_cons (fe_var (pv 1)) fa_nil))) (fg_name (pg_name (i := 2) sc__law_term.nd rfl (by first | exact .inl rfl | exact .inr rfl))))
  (fss_cons (fs_if ((fw_and (ft_cmp of_gt (fe_ix (fe_var (pv 1)) fe_int) fe_int (by rfl)) (fw_and1 (ft_cmp (of_eq hr.units) (fe_call (ok__law_draw T) (hr.mono (by decide)) (by rfl) T.g__law_draw T.F__law_draw.kp T.b__law_draw (fa_cons (fe_var (pv 0)) (fa_cons fe_int fa_nil))) fe_int (by rfl))))).pt
  (fss_one (fs_ret (fe_tup (fa_cons fe_str (fa_cons (fe_call (ok__law_draw T) (hr.mono (by decide)) (by rfl) T.g__law_draw T.F__law_draw.kp T.b__law_draw (fa_cons (fe_var (pv 0)) (fa_cons (fe_ix (fe_var (pv 1)) fe_int) fa_nil))) (fa_cons (fe_var (pv 2)) (fa_cons (fe_op of_sub (fe_call (ok__law_draw T) (hr.mono (by decide)) (by rfl) T.g__law_draw T.F__law_draw.kp T.b__law_draw (fa_cons (fe_var (pv 0)) (fa_cons fe_int fa_nil))) fe_int) fa_nil)))))))
  fss_nil)
  (fss_one (fs_ret (fe_var (pv 2)))))))
theorem ok__law_arguments : FnOk P w K mg base CX0 4 T.a__law_arguments T.d__law_arguments ["deck", "kind", "called"] (absF ⟨K, cls, w⟩ 3 f__law_arguments) := by
  rw [fd__law_arguments]
  exact @fn0 ⟨K, cls, w⟩ P w mg base "_law_arguments" "_law_arguments" s__law_arguments T.a__law_arguments T.d__law_arguments names__law_arguments ["deck", "kind", "called"] 3 b__law_arguments T.F__law_arguments sc__law_arguments fun cdv A outer s H E hr => ((fss_cons (fs_asg (fe_ix (fe_var (pv 2)) fe_int) (fg_name (pg_name (i := 3) sc__law_arguments.nd rfl (by first | exact .inl rfl | exact .inr rfl))))
  (fss_cons (fs_asg (fe_ix (fe_var (pv 2)) fe_int) (fg_name (pg_name (i := 4) sc__law_arguments.nd rfl (by first | exact .inl rfl | exact .inr rfl))))
  (fss_cons (fs_asg (fe_lst (own := true) fa_nil) (fg_name (pg_name (i := 5) sc__law_arguments.nd rfl (by first | exact .inl rfl | exact .inr rfl))))
  (fss_cons (fs_for PassesOwn.never rfl (fi_rng1 (by rfl) T.z_range (fa_cons (fe_op (of_add (own := false)) (fe_ix (fe_var (pv 2)) fe_int) (fe_ix (fe_var (pv 2)) fe_int)) fa_nil)) (fg_name (pg_name (i := 6) sc__law_arguments.nd rfl (by first | exact .inl rfl | exact .inr rfl)))
  (fss_one (fs_if ((fw_or (ft_cmp (of_eq hr.units) (fe_var (pv 3)) fe_int (by rfl)) (fw_or1 ((fw_and (ft_cmp of_gt (fe_var (pv 4)) fe_int (by rfl)) (fw_and1 (ft_cmp (of_eq hr.units) (fe_call (ok__law_draw T) (hr.mono (by decide)) (by rfl) T.g__law_draw T.F__law_draw.kp T.b__law_draw (fa_cons (fe_var (pv 0)) (fa_cons fe_int fa_nil))) fe_int (by rfl))))).pt))).pt
  (fss_cons (fs_expr (fe_mt PySem.F.plainAttrs_list PySem.F.slot_list_append PySem.F.type_list_append mf_append (fe_var (pv 5)) (fa_cons (fe_tup (fa_cons fe_str (fa_cons (fe_call (ok__law_draw T) (hr.mono (by decide)) (by rfl) T.g__law_draw T.F__law_draw.kp T.b__law_draw (fa_cons (fe_var (pv 0)) (fa_cons (fe_ix (fe_var (pv 1)) fe_int) fa_nil))) fa_nil))) fa_nil)))
  (fss_one (fs_asg (fe_op of_sub (fe_var (pv 4)) fe_int) (fg_name (pg_name (i := 4) sc__law_arguments.nd rfl (by first | exact .inl rfl | exact .inr rfl))))))
  (fss_cons (fs_expr (fe_mt PySem.F.plainAttrs_list PySem.F.slot_list_append PySem.F.type_list_append mf_append (fe_var (pv 5)) (fa_cons (fe_call (ok__law_plain T) (hr.mono (by decide)) (by rfl) T.g__law_plain T.F__law_plain.kp T.b__law_plain (fa_cons (fe_var (pv 0)) (fa_cons (fe_var (pv 1)) fa_nil))) fa_nil)))
  (fss_one (fs_asg (fe_op of_sub (fe_var (pv 3)) fe_int) (fg_name (pg_name (i := 3) sc__law_arguments.nd rfl (by first | exact .inl rfl | exact .inr rfl)))))))))
  (fss_one (fs_ret (fe_callTy cf_tuple (by rfl) T.z_tuple PyProof.Rows.boot_tuple (fa_cons (fe_var (pv 5)) fa_nil)))))))))
theorem ok__law_straight : FnOk P w K mg base CX0 5 T.a__law_straight T.d__law_straight ["deck", "kind", "free", "calls"] (absF ⟨K, cls, w⟩ 4 f__law_straight) := by
  rw [fd__law_straight]
  exact @fn0 ⟨K, cls, w⟩ P w mg base "_law_straight" "_law_straight" s__law_straight T.a__law_straight T.d__law_straight names__law_straight ["deck", "kind", "free", "calls"] 4 b__law_straight T.F__law_straight sc__law_straight fun cdv A outer s H E hr => ((fss_cons (fs_asg (fe_call (ok__law_draw T) (hr.mono (by decide)) (by rfl) T.g__law_draw T.F__law_draw.kp T.b__law_draw (fa_cons (fe_var (pv 0)) (fa_cons fe_int fa_nil))) (fg_name (pg_name (i := 4) sc__law_straight.nd rfl (by first | exact .inl rfl | exact .inr rfl))))
  (fss_cons (fs_asg (fe_ix (fe_var (pv 2)) (fe_call (ok__law_draw T) (hr.mono (by decide)) (by rfl) T.g__law_draw T.F__law_draw.kp T.b__law_draw (fa_cons (fe_var (pv 0)) (fa_cons (fe_callB cf_len (by rfl) T.z_len PySem.boot_len (fa_cons (fe_var (pv 2)) fa_nil)) fa_nil)))) (fg_name (pg_name (i := 5) sc__law_straight.nd rfl (by first | exact .inl rfl | exact .inr rfl))))
  (fss_cons (fs_if ((fw_and (ft_cmp of_lt (fe_var (pv 4)) fe_int (by rfl)) (fw_and1 (ft_cmp of_gt (fe_ix (fe_var (pv 1)) fe_int) fe_int (by rfl))))).pt
  (fss_one (fs_ret (fe_tup (fa_cons fe_str (fa_cons (fe_call (ok__law_draw T) (hr.mono (by decide)) (by rfl) T.g__law_draw T.F__law_draw.kp T.b__law_draw (fa_cons (fe_var (pv 0)) (fa_cons (fe_ix (fe_var (pv 1)) fe_int) fa_nil))) (fa_cons (fe_call (ok__law_plain T) (hr.mono (by decide)) (by rfl) T.g__law_plain T.F__law_plain.kp T.b__law_plain (fa_cons (fe_var (pv 0)) (fa_cons (fe_var (pv 1)) fa_nil))) (fa_cons (fe_call (ok__law_term T) (hr.mono (by decide)) (by rfl) T.g__law_term T.F__law_term.kp T.b__law_term (fa_cons (fe_var (pv 0)) (fa_cons (fe_var (pv 1)) fa_nil))) fa_nil)))))))
  fss_nil)
  (fss_cons (fs_if ((fw_and (ft_cmp (of_eq hr.units) (fe_var (pv 4)) fe_int (by rfl)) (fw_and1 (ft_cmp of_gt (fe_ix (fe_var (pv 1)) fe_int) fe_int (by rfl))))).pt
  (fss_one (fs_ret (fe_tup (fa_cons fe_str (fa_cons (fe_call (ok__law_draw T) (hr.mono (by decide)) (by rfl) T.g__law_draw T.F__law_draw.kp T.b__law_draw (fa_cons (fe_var (pv 0)) (fa_cons (fe_ix (fe_var (pv 1)) fe_int) fa_nil))) (fa_cons (fe_call (ok__law_plain T) (hr.mono (by decide)) (by rfl) T.g__law_plain T.F__law_plain.kp T.b__law_plain (fa_cons (fe_var (pv 0)) (fa_cons (fe_var (pv 1)) fa_nil))) (fa_cons (fe_call (ok__law_plain T) (hr.mono (by decide)) (by rfl) T.g__law_plain T.F__law_plain.kp T.b__law_plain (fa_cons (fe_var (pv 0)) (fa_cons (fe_var (pv 1)) fa_nil))) fa_nil)))))))
  fss_nil)
  (fss_cons (fs_if (ft_cmp (of_eq hr.units) (fe_var (pv 4)) fe_int (by rfl))
  (fss_one (fs_ret (fe_tup (fa_cons fe_str (fa_cons (fe_var (pv 5)) (fa_cons (fe_call (ok__law_plain T) (hr.mono (by decide)) (by rfl) T.g__law_plain T.F__law_plain.kp T.b__law_plain (fa_cons (fe_var (pv 0)) (fa_cons (fe_var (pv 1)) fa_nil))) (fa_cons (fe_call (ok__law_plain T) (hr.mono (by decide)) (by rfl) T.g__law_plain T.F__law_plain.kp T.b__law_plain (fa_cons (fe_var (pv 0)) (fa_cons (fe_var (pv 1)) fa_nil))) fa_nil)))))))
  fss_nil)
  (fss_cons (fs_if ((fw_and (ft_cmp (of_eq hr.units) (fe_var (pv 4)) fe_int (by rfl)) (fw_and1 (ft_tru (fe_var (pv 3)))))).pt
  (fss_cons (fs_asg (fe_ix (fe_var (pv 3)) (fe_call (ok__law_draw T) (hr.mono (by decide)) (by rfl) T.g__law_draw T.F__law_draw.kp T.b__law_draw (fa_cons (fe_var (pv 0)) (fa_cons (fe_callB cf_len (by rfl) T.z_len PySem.boot_len (fa_cons (fe_var (pv 3)) fa_nil)) fa_nil)))) (fg_name (pg_name (i := 6) sc__law_straight.nd rfl (by first | exact .inl rfl | exact .inr rfl))))
  (fss_one (fs_if ((fw_or (ft_cmp (of_eq hr.units) (fe_ix (fe_ix (fe_var (pv 6)) fe_int) fe_int) fe_int (by rfl)) (fw_or1 (ft_cmp of_gt (fe_ix (fe_var (pv 1)) fe_int) fe_int (by rfl))))).pt
  (fss_one (fs_ret (fe_tup (fa_cons fe_str (fa_cons (fe_var (pv 5)) (fa_cons (fe_ix (fe_var (pv 6)) fe_int) (fa_cons (fe_call (ok__law_arguments T) (hr.mono (by decide)) (by rfl) T.g__law_arguments T.F__law_arguments.kp T.b__law_arguments (fa_cons (fe_var (pv 0)) (fa_cons (fe_var (pv 1)) (fa_cons (fe_ix (fe_var (pv 6)) fe_int) fa_nil)))) fa_nil)))))))
  fss_nil)))
  fss_nil)
  (fss_one (fs_ret (fe_tup (fa_cons fe_str (fa_cons (fe_var (pv 5)) (fa_cons (fe_call (ok__law_term T) (hr.mono (by decide)) (by rfl) T.g__law_term T.F__law_term.kp T.b__law_term (fa_cons (fe_var (pv 0)) (fa_cons (fe_var (pv 1)) fa_nil))) fa_nil)))))))))))))
theorem ok__law_test : FnOk P w K mg base CX0 5 T.a__law_test T.d__law_test ["deck", "kind", "target"] (absF ⟨K, cls, w⟩ 3 f__law_test) := by
  rw [fd__law_test]
  exact @fn0 ⟨K, cls, w⟩ P w mg base "_law_test" "_law_test" s__law_test T.a__law_test T.d__law_test names__law_test ["deck", "kind", "target"] 4 b__law_test T.F__law_test sc__law_test fun cdv A outer s H E hr => ((fss_cons (fs_asg (fe_ix (fe_lst (own := false) (fa_cons fe_str (fa_cons fe_str (fa_cons fe_str (fa_cons fe_str (fa_cons fe_str (fa_cons fe_str fa_nil))))))) (fe_call (ok__law_draw T) (hr.mono (by decide)) (by rfl) T.g__law_draw T.F__law_draw.kp T.b__law_draw (fa_cons (fe_var (pv 0)) (fa_cons fe_int fa_nil)))) (fg_name (pg_name (i := 3) sc__law_test.nd rfl (by first | exact .inl rfl | exact .inr rfl))))
  (fss_one (fs_ret (fe_tup (fa_cons fe_str (fa_cons (fe_var (pv 3)) (fa_cons (fe_call (ok__law_term T) (hr.mono (by decide)) (by rfl) T.g__law_term T.F__law_term.kp T.b__law_term (fa_cons (fe_var (pv 0)) (fa_cons (fe_var (pv 1)) fa_nil))) (fa_cons (fe_call (ok__law_term T) (hr.mono (by decide)) (by rfl) T.g__law_term T.F__law_term.kp T.b__law_term (fa_cons (fe_var (pv 0)) (fa_cons (fe_var (pv 1)) fa_nil))) (fa_cons (fe_var (pv 2)) fa_nil))))))))))
theorem ok__law_row : FnOk P w K mg base CX0 6 T.a__law_row T.d__law_row ["deck", "size"] (absF ⟨K, cls, w⟩ 2 f__law_row) := by
  rw [fd__law_row]
  exact @fn0 ⟨K, cls, w⟩ P w mg base "_law_row" "_law_row" s__law_row T.a__law_row T.d__law_row names__law_row ["deck", "size"] 5 b__law_row T.F__law_row sc__law_row fun cdv A outer s H E hr => ((fss_cons (fs_asg (fe_call (ok__law_draw T) (hr.mono (by decide)) (by rfl) T.g__law_draw T.F__law_draw.kp T.b__law_draw (fa_cons (fe_var (pv 0)) (fa_cons fe_int fa_nil))) (fg_name (pg_name (i := 2) sc__law_row.nd rfl (by first | exact .inl rfl | exact .inr rfl))))
  (fss_cons (fs_asg (fe_call (ok__law_draw T) (hr.mono (by decide)) (by rfl) T.g__law_draw T.F__law_draw.kp T.b__law_draw (fa_cons (fe_var (pv 0)) (fa_cons (fe_var (pv 1)) fa_nil))) (fg_name (pg_name (i := 3) sc__law_row.nd rfl (by first | exact .inl rfl | exact .inr rfl))))
  (fss_cons (fs_asg (fe_tup (fa_cons fe_int (fa_cons fe_int (fa_cons fe_int fa_nil)))) (fg_name (pg_name (i := 4) sc__law_row.nd rfl (by first | exact .inl rfl | exact .inr rfl))))
  (fss_cons (fs_if (ft_cmp of_lt (fe_var (pv 2)) fe_int (by rfl))
  (fss_one (fs_ret (fe_call (ok__law_test T) (hr.mono (by decide)) (by rfl) T.g__law_test T.F__law_test.kp T.b__law_test (fa_cons (fe_var (pv 0)) (fa_cons (fe_var (pv 4)) (fa_cons (fe_var (pv 3)) fa_nil))))))
  fss_nil)
  (fss_cons (fs_if (ft_cmp (of_eq hr.units) (fe_var (pv 2)) fe_int (by rfl))
  (fss_one (fs_ret (fe_tup (fa_cons fe_str (fa_cons (fe_var (pv 3)) fa_nil)))))
  fss_nil)
  (fss_cons (fs_if (ft_cmp (of_eq hr.units) (fe_var (pv 2)) fe_int (by rfl))
  (fss_one (fs_ret (fe_ix (fe_lst (own := false) (fa_cons (fe_tup (fa_cons fe_str (fa_cons (fe_op (of_add (own := false)) fe_int (fe_var (pv 3))) fa_nil))) (fa_cons (fe_tup (fa_cons fe_str (fa_cons (fe_call (ok__law_term T) (hr.mono (by decide)) (by rfl) T.g__law_term T.F__law_term.kp T.b__law_term (fa_cons (fe_var (pv 0)) (fa_cons (fe_var (pv 4)) fa_nil))) fa_nil))) fa_nil))) (fe_call (ok__law_draw T) (hr.mono (by decide)) (by rfl) T.g__law_draw T.F__law_draw.kp T.b__law_draw (fa_cons (fe_var (pv 0)) (fa_cons fe_int fa_nil))))))
  fss_nil)
  (fss_one (fs_ret (fe_call (ok__law_straight T) (hr.mono (by decide)) (by rfl) T.g__law_straight T.F__law_straight.kp T.b__law_straight (fa_cons (fe_var (pv 0)) (fa_cons (fe_var (pv 4)) (fa_cons (fe_lst (own := false) (fa_cons fe_int (fa_cons fe_int (fa_cons fe_int fa_nil)))) (fa_cons (fe_lst (own := false) (fa_cons (fe_tup (fa_cons fe_int (fa_cons (fe_var (pv 4)) fa_nil))) fa_nil)) fa_nil))))))))))))))
theorem ok__law_later : FnOk P w K mg base CX0 1 T.a__law_later T.d__law_later ["row"] (absF ⟨K, cls, w⟩ 1 f__law_later) := by
  rw [fd__law_later]
  exact @fn0 ⟨K, cls, w⟩ P w mg base "_law_later" "_law_later" s__law_later T.a__law_later T.d__law_later names__law_later ["row"] 0 b__law_later T.F__law_later sc__law_later fun cdv A outer s H E hr => ((fss_cons (fs_asg (fe_op of_sub (fe_callB cf_len (by rfl) T.z_len PySem.boot_len (fa_cons (fe_var (pv 0)) fa_nil)) fe_int) (fg_name (pg_name (i := 1) sc__law_later.nd rfl (by first | exact .inl rfl | exact .inr rfl))))
  (fss_cons (fs_if ((fw_or (ft_cmp (of_eq hr.units) (fe_ix (fe_var (pv 0)) fe_int) fe_str (by rfl)) (fw_or1 (ft_cmp (of_eq hr.units) (fe_ix (fe_var (pv 0)) fe_int) fe_str (by rfl))))).pt
  (fss_one (fs_ret (fe_op (of_add (own := false)) (fe_sl (own := false) (fe_var (pv 0)) fo_none (fo_some (fe_var (pv 1)))) (fe_tup (fa_cons (fe_op (of_add (own := false)) (fe_ix (fe_var (pv 0)) (fe_var (pv 1))) fe_int) fa_nil)))))
  fss_nil)
  (fss_one (fs_ret (fe_var (pv 0)))))))
theorem ok_law : FnOk P w K mg base CX0 7 T.a_law T.d_law ["script"] (absF ⟨K, cls, w⟩ 1 f_law) := by
  rw [fd_law]
  exact @fn0 ⟨K, cls, w⟩ P w mg base "law" "law" s_law T.a_law T.d_law names_law ["script"] 6 b_law T.F_law sc_law fun cdv A outer s H E hr => ((fss_cons (fs_asg (fe_call (ok__law_deck T) (hr.mono (by decide)) (by rfl) T.g__law_deck T.F__law_deck.kp T.b__law_deck (fa_cons (fe_var (pv 0)) fa_nil)) (fg_name (pg_name (i := 1) sc_law.nd rfl (by first | exact .inl rfl | exact .inr rfl))))
  (fss_cons (fs_asg (fe_op (of_add (own := false)) fe_int (fe_call (ok__law_draw T) (hr.mono (by decide)) (by rfl) T.g__law_draw T.F__law_draw.kp T.b__law_draw (fa_cons (fe_var (pv 1)) (fa_cons fe_int fa_nil)))) (fg_name (pg_name (i := 2) sc_law.nd rfl (by first | exact .inl rfl | exact .inr rfl))))
  (fss_cons (fs_if (ft_cmp (of_eq hr.units) (fe_call (ok__law_draw T) (hr.mono (by decide)) (by rfl) T.g__law_draw T.F__law_draw.kp T.b__law_draw (fa_cons (fe_var (pv 1)) (fa_cons fe_int fa_nil))) fe_int (by rfl))
  (fss_one (fs_asg (fe_op (of_add (own := false)) (fe_var (pv 2)) fe_int) (fg_name (pg_name (i := 2) sc_law.nd rfl (by first | exact .inl rfl | exact .inr rfl)))))
  fss_nil)
  (fss_cons (fs_asg (fe_lst (own := true) fa_nil) (fg_name (pg_name (i := 3) sc_law.nd rfl (by first | exact .inl rfl | exact .inr rfl))))
  (fss_cons (fs_for PassesOwn.never rfl (fi_rng1 (by rfl) T.z_range (fa_cons (fe_var (pv 2)) fa_nil)) (fg_name (pg_name (i := 4) sc_law.nd rfl (by first | exact .inl rfl | exact .inr rfl)))
  (fss_one (fs_if ((fw_and (ft_cmp of_gt (fe_var (pv 2)) fe_int (by rfl)) (fw_and1 (ft_cmp of_gt (fe_call (ok__law_draw T) (hr.mono (by decide)) (by rfl) T.g__law_draw T.F__law_draw.kp T.b__law_draw (fa_cons (fe_var (pv 1)) (fa_cons fe_int fa_nil))) fe_int (by rfl))))).pt
  (fss_cons (fs_asg (fe_callB (cf_min2 rfl) (by rfl) T.z_min PyProof.Rows.boot_min (fa_cons (fe_op of_sub (fe_var (pv 2)) fe_int) (fa_cons (fe_callB (cf_max2 rfl) (by rfl) T.z_max PyProof.Rows.boot_max (fa_cons fe_int (fa_cons (fe_op of_sub (fe_op (of_add (own := false)) (fe_var (pv 4)) (fe_call (ok__law_draw T) (hr.mono (by decide)) (by rfl) T.g__law_draw T.F__law_draw.kp T.b__law_draw (fa_cons (fe_var (pv 1)) (fa_cons fe_int fa_nil)))) fe_int) fa_nil))) fa_nil))) (fg_name (pg_name (i := 11) sc_law.nd rfl (by first | exact .inl rfl | exact .inr rfl))))
  (fss_one (fs_expr (fe_mt PySem.F.plainAttrs_list PySem.F.slot_list_append PySem.F.type_list_append mf_append (fe_var (pv 3)) (fa_cons (fe_tup (fa_cons fe_str (fa_cons fe_str (fa_cons (fe_tup (fa_cons fe_str (fa_cons fe_int (fa_cons fe_int fa_nil)))) (fa_cons (fe_tup (fa_cons fe_str (fa_cons (fe_var (pv 4)) fa_nil))) (fa_cons (fe_var (pv 11)) fa_nil)))))) fa_nil)))))
  (fss_one (fs_expr (fe_mt PySem.F.plainAttrs_list PySem.F.slot_list_append PySem.F.type_list_append mf_append (fe_var (pv 3)) (fa_cons (fe_call (ok__law_row T) (hr.mono (by decide)) (by rfl) T.g__law_row T.F__law_row.kp T.b__law_row (fa_cons (fe_var (pv 1)) (fa_cons (fe_var (pv 2)) fa_nil))) fa_nil)))))))
  (fss_cons (fs_asg (fe_ix (fe_lst (own := false) (fa_cons (fe_tup (fa_cons fe_str (fa_cons (fe_tup (fa_cons fe_str (fa_cons (fe_var (pv 2)) fa_nil))) fa_nil))) (fa_cons (fe_tup (fa_cons fe_str (fa_cons (fe_var (pv 2)) fa_nil))) (fa_cons (fe_tup (fa_cons fe_str (fa_cons (fe_call (ok__law_draw T) (hr.mono (by decide)) (by rfl) T.g__law_draw T.F__law_draw.kp T.b__law_draw (fa_cons (fe_var (pv 1)) (fa_cons (fe_var (pv 2)) fa_nil))) fa_nil))) fa_nil)))) (fe_call (ok__law_draw T) (hr.mono (by decide)) (by rfl) T.g__law_draw T.F__law_draw.kp T.b__law_draw (fa_cons (fe_var (pv 1)) (fa_cons fe_int fa_nil)))) (fg_name (pg_name (i := 5) sc_law.nd rfl (by first | exact .inl rfl | exact .inr rfl))))
  (fss_cons (fs_set (fe_var (pv 5)) (fe_var (pv 3)) (fe_op of_sub (fe_var (pv 2)) fe_int))
  (fss_cons (fs_asg (fe_callTy cf_tuple (by rfl) T.z_tuple PyProof.Rows.boot_tuple (fa_cons (fe_var (pv 3)) fa_nil)) (fg_name (pg_name (i := 6) sc_law.nd rfl (by first | exact .inl rfl | exact .inr rfl))))
  (fss_cons (fs_asg (fe_call (ok__law_words T) (hr.mono (by decide)) (by rfl) T.g__law_words T.F__law_words.kp T.b__law_words (fa_cons (fe_var (pv 6)) fa_nil)) (fg_name (pg_name (i := 7) sc_law.nd rfl (by first | exact .inl rfl | exact .inr rfl))))
  (fss_cons (fs_asg (fe_call (ok_read_body T) (hr.mono (by decide)) (by rfl) T.g_read_body T.F_read_body.kp T.b_read_body (fa_cons (fe_var (pv 7)) fa_nil)) (fg_name (pg_name (i := 8) sc_law.nd rfl (by first | exact .inl rfl | exact .inr rfl))))
  (fss_cons (fs_if ((fw_or (ft_not (ft_tru (fe_callB cf_isa (by rfl) T.z_isinstance PyProof.Rows.boot_isinstance (fa_cons (fe_var (pv 8)) (fa_cons (fe_ty (by rfl) T.z_tuple PyProof.Rows.boot_tuple) fa_nil))))) (fw_or1 (ft_cmp (of_ne hr.units) (fe_var (pv 8)) (fe_var (pv 6)) (by rfl))))).pt
  (fss_one (fs_ret fe_bl))
  fss_nil)
  (fss_cons (fs_asg (fe_call (ok__law_heads T) (hr.mono (by decide)) (by rfl) T.g__law_heads T.F__law_heads.kp T.b__law_heads (fa_cons (fe_var (pv 6)) fa_nil)) (fg_name (pg_name (i := 9) sc_law.nd rfl (by first | exact .inl rfl | exact .inr rfl))))
  (fss_cons (fs_if ((fw_or (ft_not (ft_tru (fe_call (ok__law_asked T) (hr.mono (by decide)) (by rfl) T.g__law_asked T.F__law_asked.kp T.b__law_asked (fa_cons (fe_var (pv 6)) (fa_cons (fe_var (pv 9)) fa_nil))))) (fw_or1 (ft_cmp (of_ne hr.units) (fe_frz (fe_call (ok_heads_of T) (hr.mono (by decide)) (by rfl) T.g_heads_of T.F_heads_of.kp T.b_heads_of (fa_cons (fe_var (pv 8)) fa_nil))) (fe_var (pv 9)) (by rfl))))).pt
  (fss_one (fs_ret fe_bl))
  fss_nil)
  (fss_cons (fs_asg (fe_callTy cf_tuple (by rfl) T.z_tuple PyProof.Rows.boot_tuple (fa_cons (fe_op (of_add (own := false)) (fe_lst (own := false) (fa_cons (fe_tup (fa_cons fe_str (fa_cons fe_int (fa_cons (fe_tup (fa_cons fe_str (fa_cons fe_int fa_nil))) fa_nil)))) fa_nil)) (fe_lc (own := false) (onames := [("row", 12)]) rfl sc_law.nd (fi_seq (fe_var (pv 3))) (blkOk_by (N := names_law) (sc := defScope s_law) (by decide +kernel)) (fun _ _ _ _ _ => (fg_name (pg_name (i := 12) sc_law.nd rfl (by first | exact .inl rfl | exact .inr rfl)))) (fun _ _ _ _ _ => fts_nil) (fun _ _ _ _ _ => (fe_call (ok__law_later T) (hr.mono (by decide)) (by rfl) T.g__law_later T.F__law_later.kp T.b__law_later (fa_cons (fe_var (pv 12)) fa_nil))))) fa_nil)) (fg_name (pg_name (i := 10) sc_law.nd rfl (by first | exact .inl rfl | exact .inr rfl))))
  (fss_one (fs_ret (fe_and (fe_call (ok__law_asked T) (hr.mono (by decide)) (by rfl) T.g__law_asked T.F__law_asked.kp T.b__law_asked (fa_cons (fe_var (pv 10)) (fa_cons (fe_call (ok__law_heads T) (hr.mono (by decide)) (by rfl) T.g__law_heads T.F__law_heads.kp T.b__law_heads (fa_cons (fe_var (pv 10)) fa_nil)) fa_nil))) (fe_one (fe_cmp (of_eq hr.units) (fe_frz (fe_call (ok_heads_of T) (hr.mono (by decide)) (by rfl) T.g_heads_of T.F_heads_of.kp T.b_heads_of (fa_cons (fe_var (pv 6)) fa_nil))) (fe_var (pv 9)) (by rfl)))))))))))))))))))))
end
theorem all_mk {K : PySem.W.Frag} {w : World} {h : Heap} {mg : Str → Option Value} {fa : Addr} (X : K.In h) (G : h.Ns mainGlobals mg) (hfa : mg "law" = some (.ref fa))
    {f0 : Addr} {od0 an0 : Option Addr} {sl0 : Array (Option Value)} {oc0 kV0 dc0 pm0 cd0 ct0 : Value}
    (a0 : PySem.W.nsIn K mainGlobals "_law_deck" = some (some (.ref f0))) (l0 : K.lookup f0 = some ⟨oc0, od0, .func (PySem.W.fnOf "_law_deck" "_law_deck" (defArgs s__law_deck) (defBody s__law_deck) (defScope s__law_deck) .none kV0 dc0 pm0 an0 cd0 ct0), sl0⟩) (c0 : PySem.W.codeIn K cd0 "_law_deck" = true) (k0 : PySem.W.keepIn K (.ref f0) = true)
    {f1 : Addr} {od1 an1 : Option Addr} {sl1 : Array (Option Value)} {oc1 kV1 dc1 pm1 cd1 ct1 : Value}
    (a1 : PySem.W.nsIn K mainGlobals "_law_term_words" = some (some (.ref f1))) (l1 : K.lookup f1 = some ⟨oc1, od1, .func (PySem.W.fnOf "_law_term_words" "_law_term_words" (defArgs s__law_term_words) (defBody s__law_term_words) (defScope s__law_term_words) .none kV1 dc1 pm1 an1 cd1 ct1), sl1⟩) (c1 : PySem.W.codeIn K cd1 "_law_term_words" = true) (k1 : PySem.W.keepIn K (.ref f1) = true)
    {f2 : Addr} {od2 an2 : Option Addr} {sl2 : Array (Option Value)} {oc2 kV2 dc2 pm2 cd2 ct2 : Value}
    (a2 : PySem.W.nsIn K mainGlobals "_law_row_words" = some (some (.ref f2))) (l2 : K.lookup f2 = some ⟨oc2, od2, .func (PySem.W.fnOf "_law_row_words" "_law_row_words" (defArgs s__law_row_words) (defBody s__law_row_words) (defScope s__law_row_words) .none kV2 dc2 pm2 an2 cd2 ct2), sl2⟩) (c2 : PySem.W.codeIn K cd2 "_law_row_words" = true) (k2 : PySem.W.keepIn K (.ref f2) = true)
    {f3 : Addr} {od3 an3 : Option Addr} {sl3 : Array (Option Value)} {oc3 kV3 dc3 pm3 cd3 ct3 : Value}
    (a3 : PySem.W.nsIn K mainGlobals "_law_words" = some (some (.ref f3))) (l3 : K.lookup f3 = some ⟨oc3, od3, .func (PySem.W.fnOf "_law_words" "_law_words" (defArgs s__law_words) (defBody s__law_words) (defScope s__law_words) .none kV3 dc3 pm3 an3 cd3 ct3), sl3⟩) (c3 : PySem.W.codeIn K cd3 "_law_words" = true) (k3 : PySem.W.keepIn K (.ref f3) = true)
    {f4 : Addr} {od4 an4 : Option Addr} {sl4 : Array (Option Value)} {oc4 kV4 dc4 pm4 cd4 ct4 : Value}
    (a4 : PySem.W.nsIn K mainGlobals "form_at" = some (some (.ref f4))) (l4 : K.lookup f4 = some ⟨oc4, od4, .func (PySem.W.fnOf "form_at" "form_at" (defArgs s_form_at) (defBody s_form_at) (defScope s_form_at) .none kV4 dc4 pm4 an4 cd4 ct4), sl4⟩) (c4 : PySem.W.codeIn K cd4 "form_at" = true) (k4 : PySem.W.keepIn K (.ref f4) = true)
    {f5 : Addr} {od5 an5 : Option Addr} {sl5 : Array (Option Value)} {oc5 kV5 dc5 pm5 cd5 ct5 : Value}
    (a5 : PySem.W.nsIn K mainGlobals "is_plain" = some (some (.ref f5))) (l5 : K.lookup f5 = some ⟨oc5, od5, .func (PySem.W.fnOf "is_plain" "is_plain" (defArgs s_is_plain) (defBody s_is_plain) (defScope s_is_plain) .none kV5 dc5 pm5 an5 cd5 ct5), sl5⟩) (c5 : PySem.W.codeIn K cd5 "is_plain" = true) (k5 : PySem.W.keepIn K (.ref f5) = true)
    {f6 : Addr} {od6 an6 : Option Addr} {sl6 : Array (Option Value)} {oc6 kV6 dc6 pm6 cd6 ct6 : Value}
    (a6 : PySem.W.nsIn K mainGlobals "is_term" = some (some (.ref f6))) (l6 : K.lookup f6 = some ⟨oc6, od6, .func (PySem.W.fnOf "is_term" "is_term" (defArgs s_is_term) (defBody s_is_term) (defScope s_is_term) .none kV6 dc6 pm6 an6 cd6 ct6), sl6⟩) (c6 : PySem.W.codeIn K cd6 "is_term" = true) (k6 : PySem.W.keepIn K (.ref f6) = true)
    {f7 : Addr} {od7 an7 : Option Addr} {sl7 : Array (Option Value)} {oc7 kV7 dc7 pm7 cd7 ct7 : Value}
    (a7 : PySem.W.nsIn K mainGlobals "is_argument" = some (some (.ref f7))) (l7 : K.lookup f7 = some ⟨oc7, od7, .func (PySem.W.fnOf "is_argument" "is_argument" (defArgs s_is_argument) (defBody s_is_argument) (defScope s_is_argument) .none kV7 dc7 pm7 an7 cd7 ct7), sl7⟩) (c7 : PySem.W.codeIn K cd7 "is_argument" = true) (k7 : PySem.W.keepIn K (.ref f7) = true)
    {f8 : Addr} {od8 an8 : Option Addr} {sl8 : Array (Option Value)} {oc8 kV8 dc8 pm8 cd8 ct8 : Value}
    (a8 : PySem.W.nsIn K mainGlobals "fits" = some (some (.ref f8))) (l8 : K.lookup f8 = some ⟨oc8, od8, .func (PySem.W.fnOf "fits" "fits" (defArgs s_fits) (defBody s_fits) (defScope s_fits) .none kV8 dc8 pm8 an8 cd8 ct8), sl8⟩) (c8 : PySem.W.codeIn K cd8 "fits" = true) (k8 : PySem.W.keepIn K (.ref f8) = true)
    {f9 : Addr} {od9 an9 : Option Addr} {sl9 : Array (Option Value)} {oc9 kV9 dc9 pm9 cd9 ct9 : Value}
    (a9 : PySem.W.nsIn K mainGlobals "behind_row" = some (some (.ref f9))) (l9 : K.lookup f9 = some ⟨oc9, od9, .func (PySem.W.fnOf "behind_row" "behind_row" (defArgs s_behind_row) (defBody s_behind_row) (defScope s_behind_row) .none kV9 dc9 pm9 an9 cd9 ct9), sl9⟩) (c9 : PySem.W.codeIn K cd9 "behind_row" = true) (k9 : PySem.W.keepIn K (.ref f9) = true)
    {f10 : Addr} {od10 an10 : Option Addr} {sl10 : Array (Option Value)} {oc10 kV10 dc10 pm10 cd10 ct10 : Value}
    (a10 : PySem.W.nsIn K mainGlobals "rows_of_words" = some (some (.ref f10))) (l10 : K.lookup f10 = some ⟨oc10, od10, .func (PySem.W.fnOf "rows_of_words" "rows_of_words" (defArgs s_rows_of_words) (defBody s_rows_of_words) (defScope s_rows_of_words) .none kV10 dc10 pm10 an10 cd10 ct10), sl10⟩) (c10 : PySem.W.codeIn K cd10 "rows_of_words" = true) (k10 : PySem.W.keepIn K (.ref f10) = true)
    {f11 : Addr} {od11 an11 : Option Addr} {sl11 : Array (Option Value)} {oc11 kV11 dc11 pm11 cd11 ct11 : Value}
    (a11 : PySem.W.nsIn K mainGlobals "target_place" = some (some (.ref f11))) (l11 : K.lookup f11 = some ⟨oc11, od11, .func (PySem.W.fnOf "target_place" "target_place" (defArgs s_target_place) (defBody s_target_place) (defScope s_target_place) .none kV11 dc11 pm11 an11 cd11 ct11), sl11⟩) (c11 : PySem.W.codeIn K cd11 "target_place" = true) (k11 : PySem.W.keepIn K (.ref f11) = true)
    {f12 : Addr} {od12 an12 : Option Addr} {sl12 : Array (Option Value)} {oc12 kV12 dc12 pm12 cd12 ct12 : Value}
    (a12 : PySem.W.nsIn K mainGlobals "plain_read" = some (some (.ref f12))) (l12 : K.lookup f12 = some ⟨oc12, od12, .func (PySem.W.fnOf "plain_read" "plain_read" (defArgs s_plain_read) (defBody s_plain_read) (defScope s_plain_read) .none kV12 dc12 pm12 an12 cd12 ct12), sl12⟩) (c12 : PySem.W.codeIn K cd12 "plain_read" = true) (k12 : PySem.W.keepIn K (.ref f12) = true)
    {f13 : Addr} {od13 an13 : Option Addr} {sl13 : Array (Option Value)} {oc13 kV13 dc13 pm13 cd13 ct13 : Value}
    (a13 : PySem.W.nsIn K mainGlobals "argument_read" = some (some (.ref f13))) (l13 : K.lookup f13 = some ⟨oc13, od13, .func (PySem.W.fnOf "argument_read" "argument_read" (defArgs s_argument_read) (defBody s_argument_read) (defScope s_argument_read) .none kV13 dc13 pm13 an13 cd13 ct13), sl13⟩) (c13 : PySem.W.codeIn K cd13 "argument_read" = true) (k13 : PySem.W.keepIn K (.ref f13) = true)
    {f14 : Addr} {od14 an14 : Option Addr} {sl14 : Array (Option Value)} {oc14 kV14 dc14 pm14 cd14 ct14 : Value}
    (a14 : PySem.W.nsIn K mainGlobals "call_read" = some (some (.ref f14))) (l14 : K.lookup f14 = some ⟨oc14, od14, .func (PySem.W.fnOf "call_read" "call_read" (defArgs s_call_read) (defBody s_call_read) (defScope s_call_read) .none kV14 dc14 pm14 an14 cd14 ct14), sl14⟩) (c14 : PySem.W.codeIn K cd14 "call_read" = true) (k14 : PySem.W.keepIn K (.ref f14) = true)
    {f15 : Addr} {od15 an15 : Option Addr} {sl15 : Array (Option Value)} {oc15 kV15 dc15 pm15 cd15 ct15 : Value}
    (a15 : PySem.W.nsIn K mainGlobals "term_read" = some (some (.ref f15))) (l15 : K.lookup f15 = some ⟨oc15, od15, .func (PySem.W.fnOf "term_read" "term_read" (defArgs s_term_read) (defBody s_term_read) (defScope s_term_read) .none kV15 dc15 pm15 an15 cd15 ct15), sl15⟩) (c15 : PySem.W.codeIn K cd15 "term_read" = true) (k15 : PySem.W.keepIn K (.ref f15) = true)
    {f16 : Addr} {od16 an16 : Option Addr} {sl16 : Array (Option Value)} {oc16 kV16 dc16 pm16 cd16 ct16 : Value}
    (a16 : PySem.W.nsIn K mainGlobals "row_read" = some (some (.ref f16))) (l16 : K.lookup f16 = some ⟨oc16, od16, .func (PySem.W.fnOf "row_read" "row_read" (defArgs s_row_read) (defBody s_row_read) (defScope s_row_read) .none kV16 dc16 pm16 an16 cd16 ct16), sl16⟩) (c16 : PySem.W.codeIn K cd16 "row_read" = true) (k16 : PySem.W.keepIn K (.ref f16) = true)
    {f17 : Addr} {od17 an17 : Option Addr} {sl17 : Array (Option Value)} {oc17 kV17 dc17 pm17 cd17 ct17 : Value}
    (a17 : PySem.W.nsIn K mainGlobals "is_integer" = some (some (.ref f17))) (l17 : K.lookup f17 = some ⟨oc17, od17, .func (PySem.W.fnOf "is_integer" "is_integer" (defArgs s_is_integer) (defBody s_is_integer) (defScope s_is_integer) .none kV17 dc17 pm17 an17 cd17 ct17), sl17⟩) (c17 : PySem.W.codeIn K cd17 "is_integer" = true) (k17 : PySem.W.keepIn K (.ref f17) = true)
    {f18 : Addr} {od18 an18 : Option Addr} {sl18 : Array (Option Value)} {oc18 kV18 dc18 pm18 cd18 ct18 : Value}
    (a18 : PySem.W.nsIn K mainGlobals "read_body" = some (some (.ref f18))) (l18 : K.lookup f18 = some ⟨oc18, od18, .func (PySem.W.fnOf "read_body" "read_body" (defArgs s_read_body) (defBody s_read_body) (defScope s_read_body) .none kV18 dc18 pm18 an18 cd18 ct18), sl18⟩) (c18 : PySem.W.codeIn K cd18 "read_body" = true) (k18 : PySem.W.keepIn K (.ref f18) = true)
    {f19 : Addr} {od19 an19 : Option Addr} {sl19 : Array (Option Value)} {oc19 kV19 dc19 pm19 cd19 ct19 : Value}
    (a19 : PySem.W.nsIn K mainGlobals "_law_next" = some (some (.ref f19))) (l19 : K.lookup f19 = some ⟨oc19, od19, .func (PySem.W.fnOf "_law_next" "_law_next" (defArgs s__law_next) (defBody s__law_next) (defScope s__law_next) .none kV19 dc19 pm19 an19 cd19 ct19), sl19⟩) (c19 : PySem.W.codeIn K cd19 "_law_next" = true) (k19 : PySem.W.keepIn K (.ref f19) = true)
    {f20 : Addr} {od20 an20 : Option Addr} {sl20 : Array (Option Value)} {oc20 kV20 dc20 pm20 cd20 ct20 : Value}
    (a20 : PySem.W.nsIn K mainGlobals "_law_heads" = some (some (.ref f20))) (l20 : K.lookup f20 = some ⟨oc20, od20, .func (PySem.W.fnOf "_law_heads" "_law_heads" (defArgs s__law_heads) (defBody s__law_heads) (defScope s__law_heads) .none kV20 dc20 pm20 an20 cd20 ct20), sl20⟩) (c20 : PySem.W.codeIn K cd20 "_law_heads" = true) (k20 : PySem.W.keepIn K (.ref f20) = true)
    {f21 : Addr} {od21 an21 : Option Addr} {sl21 : Array (Option Value)} {oc21 kV21 dc21 pm21 cd21 ct21 : Value}
    (a21 : PySem.W.nsIn K mainGlobals "_law_draw" = some (some (.ref f21))) (l21 : K.lookup f21 = some ⟨oc21, od21, .func (PySem.W.fnOf "_law_draw" "_law_draw" (defArgs s__law_draw) (defBody s__law_draw) (defScope s__law_draw) .none kV21 dc21 pm21 an21 cd21 ct21), sl21⟩) (c21 : PySem.W.codeIn K cd21 "_law_draw" = true) (k21 : PySem.W.keepIn K (.ref f21) = true)
    {f22 : Addr} {od22 an22 : Option Addr} {sl22 : Array (Option Value)} {oc22 kV22 dc22 pm22 cd22 ct22 : Value}
    (a22 : PySem.W.nsIn K mainGlobals "step_targets" = some (some (.ref f22))) (l22 : K.lookup f22 = some ⟨oc22, od22, .func (PySem.W.fnOf "step_targets" "step_targets" (defArgs s_step_targets) (defBody s_step_targets) (defScope s_step_targets) .none kV22 dc22 pm22 an22 cd22 ct22), sl22⟩) (c22 : PySem.W.codeIn K cd22 "step_targets" = true) (k22 : PySem.W.keepIn K (.ref f22) = true)
    {f23 : Addr} {od23 an23 : Option Addr} {sl23 : Array (Option Value)} {oc23 kV23 dc23 pm23 cd23 ct23 : Value}
    (a23 : PySem.W.nsIn K mainGlobals "reached" = some (some (.ref f23))) (l23 : K.lookup f23 = some ⟨oc23, od23, .func (PySem.W.fnOf "reached" "reached" (defArgs s_reached) (defBody s_reached) (defScope s_reached) .none kV23 dc23 pm23 an23 cd23 ct23), sl23⟩) (c23 : PySem.W.codeIn K cd23 "reached" = true) (k23 : PySem.W.keepIn K (.ref f23) = true)
    {f24 : Addr} {od24 an24 : Option Addr} {sl24 : Array (Option Value)} {oc24 kV24 dc24 pm24 cd24 ct24 : Value}
    (a24 : PySem.W.nsIn K mainGlobals "heads_of" = some (some (.ref f24))) (l24 : K.lookup f24 = some ⟨oc24, od24, .func (PySem.W.fnOf "heads_of" "heads_of" (defArgs s_heads_of) (defBody s_heads_of) (defScope s_heads_of) .none kV24 dc24 pm24 an24 cd24 ct24), sl24⟩) (c24 : PySem.W.codeIn K cd24 "heads_of" = true) (k24 : PySem.W.keepIn K (.ref f24) = true)
    {f25 : Addr} {od25 an25 : Option Addr} {sl25 : Array (Option Value)} {oc25 kV25 dc25 pm25 cd25 ct25 : Value}
    (a25 : PySem.W.nsIn K mainGlobals "_law_asked" = some (some (.ref f25))) (l25 : K.lookup f25 = some ⟨oc25, od25, .func (PySem.W.fnOf "_law_asked" "_law_asked" (defArgs s__law_asked) (defBody s__law_asked) (defScope s__law_asked) .none kV25 dc25 pm25 an25 cd25 ct25), sl25⟩) (c25 : PySem.W.codeIn K cd25 "_law_asked" = true) (k25 : PySem.W.keepIn K (.ref f25) = true)
    {f26 : Addr} {od26 an26 : Option Addr} {sl26 : Array (Option Value)} {oc26 kV26 dc26 pm26 cd26 ct26 : Value}
    (a26 : PySem.W.nsIn K mainGlobals "_law_number" = some (some (.ref f26))) (l26 : K.lookup f26 = some ⟨oc26, od26, .func (PySem.W.fnOf "_law_number" "_law_number" (defArgs s__law_number) (defBody s__law_number) (defScope s__law_number) .none kV26 dc26 pm26 an26 cd26 ct26), sl26⟩) (c26 : PySem.W.codeIn K cd26 "_law_number" = true) (k26 : PySem.W.keepIn K (.ref f26) = true)
    {f27 : Addr} {od27 an27 : Option Addr} {sl27 : Array (Option Value)} {oc27 kV27 dc27 pm27 cd27 ct27 : Value}
    (a27 : PySem.W.nsIn K mainGlobals "_law_plain" = some (some (.ref f27))) (l27 : K.lookup f27 = some ⟨oc27, od27, .func (PySem.W.fnOf "_law_plain" "_law_plain" (defArgs s__law_plain) (defBody s__law_plain) (defScope s__law_plain) .none kV27 dc27 pm27 an27 cd27 ct27), sl27⟩) (c27 : PySem.W.codeIn K cd27 "_law_plain" = true) (k27 : PySem.W.keepIn K (.ref f27) = true)
    {f28 : Addr} {od28 an28 : Option Addr} {sl28 : Array (Option Value)} {oc28 kV28 dc28 pm28 cd28 ct28 : Value}
    (a28 : PySem.W.nsIn K mainGlobals "_law_term" = some (some (.ref f28))) (l28 : K.lookup f28 = some ⟨oc28, od28, .func (PySem.W.fnOf "_law_term" "_law_term" (defArgs s__law_term) (defBody s__law_term) (defScope s__law_term) .none kV28 dc28 pm28 an28 cd28 ct28), sl28⟩) (c28 : PySem.W.codeIn K cd28 "_law_term" = true) (k28 : PySem.W.keepIn K (.ref f28) = true)
    {f29 : Addr} {od29 an29 : Option Addr} {sl29 : Array (Option Value)} {oc29 kV29 dc29 pm29 cd29 ct29 : Value}
    (a29 : PySem.W.nsIn K mainGlobals "_law_arguments" = some (some (.ref f29))) (l29 : K.lookup f29 = some ⟨oc29, od29, .func (PySem.W.fnOf "_law_arguments" "_law_arguments" (defArgs s__law_arguments) (defBody s__law_arguments) (defScope s__law_arguments) .none kV29 dc29 pm29 an29 cd29 ct29), sl29⟩) (c29 : PySem.W.codeIn K cd29 "_law_arguments" = true) (k29 : PySem.W.keepIn K (.ref f29) = true)
    {f30 : Addr} {od30 an30 : Option Addr} {sl30 : Array (Option Value)} {oc30 kV30 dc30 pm30 cd30 ct30 : Value}
    (a30 : PySem.W.nsIn K mainGlobals "_law_straight" = some (some (.ref f30))) (l30 : K.lookup f30 = some ⟨oc30, od30, .func (PySem.W.fnOf "_law_straight" "_law_straight" (defArgs s__law_straight) (defBody s__law_straight) (defScope s__law_straight) .none kV30 dc30 pm30 an30 cd30 ct30), sl30⟩) (c30 : PySem.W.codeIn K cd30 "_law_straight" = true) (k30 : PySem.W.keepIn K (.ref f30) = true)
    {f31 : Addr} {od31 an31 : Option Addr} {sl31 : Array (Option Value)} {oc31 kV31 dc31 pm31 cd31 ct31 : Value}
    (a31 : PySem.W.nsIn K mainGlobals "_law_test" = some (some (.ref f31))) (l31 : K.lookup f31 = some ⟨oc31, od31, .func (PySem.W.fnOf "_law_test" "_law_test" (defArgs s__law_test) (defBody s__law_test) (defScope s__law_test) .none kV31 dc31 pm31 an31 cd31 ct31), sl31⟩) (c31 : PySem.W.codeIn K cd31 "_law_test" = true) (k31 : PySem.W.keepIn K (.ref f31) = true)
    {f32 : Addr} {od32 an32 : Option Addr} {sl32 : Array (Option Value)} {oc32 kV32 dc32 pm32 cd32 ct32 : Value}
    (a32 : PySem.W.nsIn K mainGlobals "_law_row" = some (some (.ref f32))) (l32 : K.lookup f32 = some ⟨oc32, od32, .func (PySem.W.fnOf "_law_row" "_law_row" (defArgs s__law_row) (defBody s__law_row) (defScope s__law_row) .none kV32 dc32 pm32 an32 cd32 ct32), sl32⟩) (c32 : PySem.W.codeIn K cd32 "_law_row" = true) (k32 : PySem.W.keepIn K (.ref f32) = true)
    {f33 : Addr} {od33 an33 : Option Addr} {sl33 : Array (Option Value)} {oc33 kV33 dc33 pm33 cd33 ct33 : Value}
    (a33 : PySem.W.nsIn K mainGlobals "_law_later" = some (some (.ref f33))) (l33 : K.lookup f33 = some ⟨oc33, od33, .func (PySem.W.fnOf "_law_later" "_law_later" (defArgs s__law_later) (defBody s__law_later) (defScope s__law_later) .none kV33 dc33 pm33 an33 cd33 ct33), sl33⟩) (c33 : PySem.W.codeIn K cd33 "_law_later" = true) (k33 : PySem.W.keepIn K (.ref f33) = true)
    {f34 : Addr} {od34 an34 : Option Addr} {sl34 : Array (Option Value)} {oc34 kV34 dc34 pm34 cd34 ct34 : Value}
    (a34 : PySem.W.nsIn K mainGlobals "law" = some (some (.ref f34))) (l34 : K.lookup f34 = some ⟨oc34, od34, .func (PySem.W.fnOf "law" "law" (defArgs s_law) (defBody s_law) (defScope s_law) .none kV34 dc34 pm34 an34 cd34 ct34), sl34⟩) (c34 : PySem.W.codeIn K cd34 "law" = true) (k34 : PySem.W.keepIn K (.ref f34) = true)
    (z0 : PySem.W.nsIn K mainGlobals "all" = some none)
    (z1 : PySem.W.nsIn K mainGlobals "bool" = some none)
    (z2 : PySem.W.nsIn K mainGlobals "enumerate" = some none)
    (z3 : PySem.W.nsIn K mainGlobals "int" = some none)
    (z4 : PySem.W.nsIn K mainGlobals "isinstance" = some none)
    (z5 : PySem.W.nsIn K mainGlobals "len" = some none)
    (z6 : PySem.W.nsIn K mainGlobals "list" = some none)
    (z7 : PySem.W.nsIn K mainGlobals "max" = some none)
    (z8 : PySem.W.nsIn K mainGlobals "min" = some none)
    (z9 : PySem.W.nsIn K mainGlobals "range" = some none)
    (z10 : PySem.W.nsIn K mainGlobals "sorted" = some none)
    (z11 : PySem.W.nsIn K mainGlobals "str" = some none)
    (z12 : PySem.W.nsIn K mainGlobals "sum" = some none)
    (z13 : PySem.W.nsIn K mainGlobals "tuple" = some none)
    {t_0 : Tok} (u0 : PySem.W.nsIn K mainGlobals "CALL" = some (some (.int (5) t_0)))
    {p1 : Addr} {n1 : Nat}
    (u1 : PySem.W.nsIn K mainGlobals "FORMS" = some (some (.ref p1)))
    {t_1_0 t_1_1 t_1_2 t_1_3 t_1_4 t_1_5 t_1_6 t_1_7 t_1_8 t_1_9 t_1_10 t_1_11 t_1_12 t_1_13 t_1_14 t_1_15 : Tok} {h_1_0 h_1_1 h_1_2 h_1_3 h_1_4 h_1_5 h_1_6 h_1_7 : Int}
    (v1 : K.lookup p1 = some ⟨.type "dict", none, .dict #[⟨h_1_0, (.int (1) t_1_0), (.str "nt" t_1_1)⟩, ⟨h_1_1, (.int (2) t_1_2), (.str "npt" t_1_3)⟩, ⟨h_1_2, (.int (3) t_1_4), (.str "npp" t_1_5)⟩, ⟨h_1_3, (.int (4) t_1_6), (.str "npp" t_1_7)⟩, ⟨h_1_4, (.int (6) t_1_8), (.str "sttn" t_1_9)⟩, ⟨h_1_5, (.int (7) t_1_10), (.str "n" t_1_11)⟩, ⟨h_1_6, (.int (8) t_1_12), (.str "n" t_1_13)⟩, ⟨h_1_7, (.int (9) t_1_14), (.str "t" t_1_15)⟩] n1, #[]⟩)
    (y1 : (p1 == sysModules) = false)
    (r1 : [h_1_0, h_1_1, h_1_2, h_1_3, h_1_4, h_1_5, h_1_6, h_1_7] = [keyH w (.inl (1)), keyH w (.inl (2)), keyH w (.inl (3)), keyH w (.inl (4)), keyH w (.inl (6)), keyH w (.inl (7)), keyH w (.inl (8)), keyH w (.inl (9))])
    {t_2 : Tok} (u2 : PySem.W.nsIn K mainGlobals "NUMBER" = some (some (.int (0) t_2)))
    {t_3 : Tok} (u3 : PySem.W.nsIn K mainGlobals "LENGTH" = some (some (.int (2) t_3)))
    {t_4 : Tok} (u4 : PySem.W.nsIn K mainGlobals "VARIABLE" = some (some (.int (1) t_4)))
    {t_5 : Tok} (u5 : PySem.W.nsIn K mainGlobals "CELL" = some (some (.int (3) t_5)))
    {t_6 : Tok} (u6 : PySem.W.nsIn K mainGlobals "PLAIN_SIZE" = some (some (.int (4) t_6)))
    {p7 : Addr} {n7 : Nat}
    (u7 : PySem.W.nsIn K mainGlobals "SIZES" = some (some (.ref p7)))
    {t_7_0 t_7_1 t_7_2 t_7_3 t_7_4 t_7_5 t_7_6 t_7_7 t_7_8 t_7_9 : Tok} {h_7_0 h_7_1 h_7_2 h_7_3 h_7_4 : Int}
    (v7 : K.lookup p7 = some ⟨.type "dict", none, .dict #[⟨h_7_0, (.str "n" t_7_0), (.int (1) t_7_1)⟩, ⟨h_7_1, (.str "s" t_7_2), (.int (1) t_7_3)⟩, ⟨h_7_2, (.str "p" t_7_4), (.int (4) t_7_5)⟩, ⟨h_7_3, (.str "t" t_7_6), (.int (8) t_7_7)⟩, ⟨h_7_4, (.str "a" t_7_8), (.int (5) t_7_9)⟩] n7, #[]⟩)
    (y7 : (p7 == sysModules) = false)
    (r7 : [h_7_0, h_7_1, h_7_2, h_7_3, h_7_4] = [keyH w (.inr "n"), keyH w (.inr "s"), keyH w (.inr "p"), keyH w (.inr "t"), keyH w (.inr "a")])
    {p8 : Addr} {n8 : Nat} {x8 : Array (Option Value)}
    (u8 : PySem.W.nsIn K mainGlobals "COMPARING" = some (some (.ref p8)))
    {t_8_0 t_8_1 t_8_2 t_8_3 t_8_4 t_8_5 : Tok}
    (v8 : K.lookup p8 = some ⟨.type "tuple", none, .seq #[(.str "<" t_8_0), (.str "<=" t_8_1), (.str ">" t_8_2), (.str ">=" t_8_3), (.str "==" t_8_4), (.str "!=" t_8_5)] n8, x8⟩)
    {t_9 : Tok} (u9 : PySem.W.nsIn K mainGlobals "TEST" = some (some (.int (6) t_9)))
    {t_10 : Tok} (u10 : PySem.W.nsIn K mainGlobals "TERM_SIZE" = some (some (.int (8) t_10)))
    {t_11 : Tok} (u11 : PySem.W.nsIn K mainGlobals "JUMP" = some (some (.int (7) t_11)))
    {t_12 : Tok} (u12 : PySem.W.nsIn K mainGlobals "ARGUMENT_SIZE" = some (some (.int (5) t_12)))
    {t_13 : Tok} (u13 : PySem.W.nsIn K mainGlobals "SET" = some (some (.int (1) t_13)))
    {t_14 : Tok} (u14 : PySem.W.nsIn K mainGlobals "PUT" = some (some (.int (2) t_14)))
    {t_15 : Tok} (u15 : PySem.W.nsIn K mainGlobals "CHOOSE" = some (some (.int (4) t_15)))
    {t_16 : Tok} (u16 : PySem.W.nsIn K mainGlobals "SWAP" = some (some (.int (3) t_16)))
    {t_17 : Tok} (u17 : PySem.W.nsIn K mainGlobals "FAIL" = some (some (.int (8) t_17)))
    : ∃ (T : Tx K w mg), T.a_law = fa := by
  have k1_ : KTab K w p1 ([((.inl (1)), (.str "nt")), ((.inl (2)), (.str "npt")), ((.inl (3)), (.str "npp")), ((.inl (4)), (.str "npp")), ((.inl (6)), (.str "sttn")), ((.inl (7)), (.str "n")), ((.inl (8)), (.str "n")), ((.inl (9)), (.str "t"))] : List (Key × V)) := by
    simp only [List.cons.injEq, and_true] at r1
    exact ⟨⟨_, _, v1, (.cons ⟨keyIs_int _ _, r1.1, ⟨_, rfl⟩⟩ (.cons ⟨keyIs_int _ _, r1.2.1, ⟨_, rfl⟩⟩ (.cons ⟨keyIs_int _ _, r1.2.2.1, ⟨_, rfl⟩⟩ (.cons ⟨keyIs_int _ _, r1.2.2.2.1, ⟨_, rfl⟩⟩ (.cons ⟨keyIs_int _ _, r1.2.2.2.2.1, ⟨_, rfl⟩⟩ (.cons ⟨keyIs_int _ _, r1.2.2.2.2.2.1, ⟨_, rfl⟩⟩ (.cons ⟨keyIs_int _ _, r1.2.2.2.2.2.2.1, ⟨_, rfl⟩⟩ (.cons ⟨keyIs_int _ _, r1.2.2.2.2.2.2.2, ⟨_, rfl⟩⟩ .nil))))))))⟩, y1, by decide⟩
  have k7_ : KTab K w p7 ([((.inr "n"), (.int 1)), ((.inr "s"), (.int 1)), ((.inr "p"), (.int 4)), ((.inr "t"), (.int 8)), ((.inr "a"), (.int 5))] : List (Key × V)) := by
    simp only [List.cons.injEq, and_true] at r7
    exact ⟨⟨_, _, v7, (.cons ⟨keyIs_str _ _, r7.1, ⟨_, rfl⟩⟩ (.cons ⟨keyIs_str _ _, r7.2.1, ⟨_, rfl⟩⟩ (.cons ⟨keyIs_str _ _, r7.2.2.1, ⟨_, rfl⟩⟩ (.cons ⟨keyIs_str _ _, r7.2.2.2.1, ⟨_, rfl⟩⟩ (.cons ⟨keyIs_str _ _, r7.2.2.2.2, ⟨_, rfl⟩⟩ .nil)))))⟩, y7, by decide⟩
  have k8_ : KTupX K p8 ([(.str "<"), (.str "<="), (.str ">"), (.str ">="), (.str "=="), (.str "!=")] : List V) := ⟨_, _, _, v8, rfl, rfl, rfl, len_le' (show 6 ≤ 1000 by decide), (.cons ⟨_, rfl⟩ (.cons ⟨_, rfl⟩ (.cons ⟨_, rfl⟩ (.cons ⟨_, rfl⟩ (.cons ⟨_, rfl⟩ (.cons ⟨_, rfl⟩ .nil))))))⟩
  have F0 := fun_mk (st := s__law_deck) l0 c0 k0
  have b0 := F0.binds (ps := ["script"]) fun _ _ _ _ _ _ us hl => match us, hl with | [_], _ => rfl
  have F1 := fun_mk (st := s__law_term_words) l1 c1 k1
  have b1 := F1.binds (ps := ["term", "wide"]) fun _ _ _ _ _ _ us hl => match us, hl with | [_, _], _ => rfl
  have F2 := fun_mk (st := s__law_row_words) l2 c2 k2
  have b2 := F2.binds (ps := ["row"]) fun _ _ _ _ _ _ us hl => match us, hl with | [_], _ => rfl
  have F3 := fun_mk (st := s__law_words) l3 c3 k3
  have b3 := F3.binds (ps := ["body"]) fun _ _ _ _ _ _ us hl => match us, hl with | [_], _ => rfl
  have F4 := fun_mk (st := s_form_at) l4 c4 k4
  have b4 := F4.binds (ps := ["words", "at"]) fun _ _ _ _ _ _ us hl => match us, hl with | [_, _], _ => rfl
  have F5 := fun_mk (st := s_is_plain) l5 c5 k5
  have b5 := F5.binds (ps := ["words"]) fun _ _ _ _ _ _ us hl => match us, hl with | [_], _ => rfl
  have F6 := fun_mk (st := s_is_term) l6 c6 k6
  have b6 := F6.binds (ps := ["words"]) fun _ _ _ _ _ _ us hl => match us, hl with | [_], _ => rfl
  have F7 := fun_mk (st := s_is_argument) l7 c7 k7
  have b7 := F7.binds (ps := ["words"]) fun _ _ _ _ _ _ us hl => match us, hl with | [_], _ => rfl
  have F8 := fun_mk (st := s_fits) l8 c8 k8
  have b8 := F8.binds (ps := ["words", "part"]) fun _ _ _ _ _ _ us hl => match us, hl with | [_, _], _ => rfl
  have F9 := fun_mk (st := s_behind_row) l9 c9 k9
  have b9 := F9.binds (ps := ["words", "at"]) fun _ _ _ _ _ _ us hl => match us, hl with | [_, _], _ => rfl
  have F10 := fun_mk (st := s_rows_of_words) l10 c10 k10
  have b10 := F10.binds (ps := ["words"]) fun _ _ _ _ _ _ us hl => match us, hl with | [_], _ => rfl
  have F11 := fun_mk (st := s_target_place) l11 c11 k11
  have b11 := F11.binds (ps := ["words", "at"]) fun _ _ _ _ _ _ us hl => match us, hl with | [_, _], _ => rfl
  have F12 := fun_mk (st := s_plain_read) l12 c12 k12
  have b12 := F12.binds (ps := ["words", "at"]) fun _ _ _ _ _ _ us hl => match us, hl with | [_, _], _ => rfl
  have F13 := fun_mk (st := s_argument_read) l13 c13 k13
  have b13 := F13.binds (ps := ["words", "at"]) fun _ _ _ _ _ _ us hl => match us, hl with | [_, _], _ => rfl
  have F14 := fun_mk (st := s_call_read) l14 c14 k14
  have b14 := F14.binds (ps := ["words", "at"]) fun _ _ _ _ _ _ us hl => match us, hl with | [_, _], _ => rfl
  have F15 := fun_mk (st := s_term_read) l15 c15 k15
  have b15 := F15.binds (ps := ["words", "at"]) fun _ _ _ _ _ _ us hl => match us, hl with | [_, _], _ => rfl
  have F16 := fun_mk (st := s_row_read) l16 c16 k16
  have b16 := F16.binds (ps := ["words", "at", "numbers"]) fun _ _ _ _ _ _ us hl => match us, hl with | [_, _, _], _ => rfl
  have F17 := fun_mk (st := s_is_integer) l17 c17 k17
  have b17 := F17.binds (ps := ["value"]) fun _ _ _ _ _ _ us hl => match us, hl with | [_], _ => rfl
  have F18 := fun_mk (st := s_read_body) l18 c18 k18
  have b18 := F18.binds (ps := ["words"]) fun _ _ _ _ _ _ us hl => match us, hl with | [_], _ => rfl
  have F19 := fun_mk (st := s__law_next) l19 c19 k19
  have b19 := F19.binds (ps := ["body", "at"]) fun _ _ _ _ _ _ us hl => match us, hl with | [_, _], _ => rfl
  have F20 := fun_mk (st := s__law_heads) l20 c20 k20
  have b20 := F20.binds (ps := ["body"]) fun _ _ _ _ _ _ us hl => match us, hl with | [_], _ => rfl
  have F21 := fun_mk (st := s__law_draw) l21 c21 k21
  have b21 := F21.binds (ps := ["deck", "many"]) fun _ _ _ _ _ _ us hl => match us, hl with | [_, _], _ => rfl
  have F22 := fun_mk (st := s_step_targets) l22 c22 k22
  have b22 := F22.binds (ps := ["body", "at"]) fun _ _ _ _ _ _ us hl => match us, hl with | [_, _], _ => rfl
  have F23 := fun_mk (st := s_reached) l23 c23 k23
  have b23 := F23.binds (ps := ["body"]) fun _ _ _ _ _ _ us hl => match us, hl with | [_], _ => rfl
  have F24 := fun_mk (st := s_heads_of) l24 c24 k24
  have b24 := F24.binds (ps := ["body"]) fun _ _ _ _ _ _ us hl => match us, hl with | [_], _ => rfl
  have F25 := fun_mk (st := s__law_asked) l25 c25 k25
  have b25 := F25.binds (ps := ["body", "due"]) fun _ _ _ _ _ _ us hl => match us, hl with | [_, _], _ => rfl
  have F26 := fun_mk (st := s__law_number) l26 c26 k26
  have b26 := F26.binds (ps := ["deck"]) fun _ _ _ _ _ _ us hl => match us, hl with | [_], _ => rfl
  have F27 := fun_mk (st := s__law_plain) l27 c27 k27
  have b27 := F27.binds (ps := ["deck", "kind"]) fun _ _ _ _ _ _ us hl => match us, hl with | [_, _], _ => rfl
  have F28 := fun_mk (st := s__law_term) l28 c28 k28
  have b28 := F28.binds (ps := ["deck", "kind"]) fun _ _ _ _ _ _ us hl => match us, hl with | [_, _], _ => rfl
  have F29 := fun_mk (st := s__law_arguments) l29 c29 k29
  have b29 := F29.binds (ps := ["deck", "kind", "called"]) fun _ _ _ _ _ _ us hl => match us, hl with | [_, _, _], _ => rfl
  have F30 := fun_mk (st := s__law_straight) l30 c30 k30
  have b30 := F30.binds (ps := ["deck", "kind", "free", "calls"]) fun _ _ _ _ _ _ us hl => match us, hl with | [_, _, _, _], _ => rfl
  have F31 := fun_mk (st := s__law_test) l31 c31 k31
  have b31 := F31.binds (ps := ["deck", "kind", "target"]) fun _ _ _ _ _ _ us hl => match us, hl with | [_, _, _], _ => rfl
  have F32 := fun_mk (st := s__law_row) l32 c32 k32
  have b32 := F32.binds (ps := ["deck", "size"]) fun _ _ _ _ _ _ us hl => match us, hl with | [_, _], _ => rfl
  have F33 := fun_mk (st := s__law_later) l33 c33 k33
  have b33 := F33.binds (ps := ["row"]) fun _ _ _ _ _ _ us hl => match us, hl with | [_], _ => rfl
  have F34 := fun_mk (st := s_law) l34 c34 k34
  have b34 := F34.binds (ps := ["script"]) fun _ _ _ _ _ _ us hl => match us, hl with | [_], _ => rfl
  have e := hfa.symm.trans (PySem.W.mg_of X G a34)
  cases e
  exact ⟨{ a__law_deck := f0, d__law_deck := _, F__law_deck := F0, g__law_deck := PySem.W.mg_of X G a0, b__law_deck := b0, a__law_term_words := f1, d__law_term_words := _, F__law_term_words := F1, g__law_term_words := PySem.W.mg_of X G a1, b__law_term_words := b1, a__law_row_words := f2, d__law_row_words := _, F__law_row_words := F2, g__law_row_words := PySem.W.mg_of X G a2, b__law_row_words := b2, a__law_words := f3, d__law_words := _, F__law_words := F3, g__law_words := PySem.W.mg_of X G a3, b__law_words := b3, a_form_at := f4, d_form_at := _, F_form_at := F4, g_form_at := PySem.W.mg_of X G a4, b_form_at := b4, a_is_plain := f5, d_is_plain := _, F_is_plain := F5, g_is_plain := PySem.W.mg_of X G a5, b_is_plain := b5, a_is_term := f6, d_is_term := _, F_is_term := F6, g_is_term := PySem.W.mg_of X G a6, b_is_term := b6, a_is_argument := f7, d_is_argument := _, F_is_argument := F7, g_is_argument := PySem.W.mg_of X G a7, b_is_argument := b7, a_fits := f8, d_fits := _, F_fits := F8, g_fits := PySem.W.mg_of X G a8, b_fits := b8, a_behind_row := f9, d_behind_row := _, F_behind_row := F9, g_behind_row := PySem.W.mg_of X G a9, b_behind_row := b9, a_rows_of_words := f10, d_rows_of_words := _, F_rows_of_words := F10, g_rows_of_words := PySem.W.mg_of X G a10, b_rows_of_words := b10, a_target_place := f11, d_target_place := _, F_target_place := F11, g_target_place := PySem.W.mg_of X G a11, b_target_place := b11, a_plain_read := f12, d_plain_read := _, F_plain_read := F12, g_plain_read := PySem.W.mg_of X G a12, b_plain_read := b12, a_argument_read := f13, d_argument_read := _, F_argument_read := F13, g_argument_read := PySem.W.mg_of X G a13, b_argument_read := b13, a_call_read := f14, d_call_read := _, F_call_read := F14, g_call_read := PySem.W.mg_of X G a14, b_call_read := b14, a_term_read := f15, d_term_read := _, F_term_read := F15, g_term_read := PySem.W.mg_of X G a15, b_term_read := b15, a_row_read := f16, d_row_read := _, F_row_read := F16, g_row_read := PySem.W.mg_of X G a16, b_row_read := b16, a_is_integer := f17, d_is_integer := _, F_is_integer := F17, g_is_integer := PySem.W.mg_of X G a17, b_is_integer := b17, a_read_body := f18, d_read_body := _, F_read_body := F18, g_read_body := PySem.W.mg_of X G a18, b_read_body := b18, a__law_next := f19, d__law_next := _, F__law_next := F19, g__law_next := PySem.W.mg_of X G a19, b__law_next := b19, a__law_heads := f20, d__law_heads := _, F__law_heads := F20, g__law_heads := PySem.W.mg_of X G a20, b__law_heads := b20, a__law_draw := f21, d__law_draw := _, F__law_draw := F21, g__law_draw := PySem.W.mg_of X G a21, b__law_draw := b21, a_step_targets := f22, d_step_targets := _, F_step_targets := F22, g_step_targets := PySem.W.mg_of X G a22, b_step_targets := b22, a_reached := f23, d_reached := _, F_reached := F23, g_reached := PySem.W.mg_of X G a23, b_reached := b23, a_heads_of := f24, d_heads_of := _, F_heads_of := F24, g_heads_of := PySem.W.mg_of X G a24, b_heads_of := b24, a__law_asked := f25, d__law_asked := _, F__law_asked := F25, g__law_asked := PySem.W.mg_of X G a25, b__law_asked := b25, a__law_number := f26, d__law_number := _, F__law_number := F26, g__law_number := PySem.W.mg_of X G a26, b__law_number := b26, a__law_plain := f27, d__law_plain := _, F__law_plain := F27, g__law_plain := PySem.W.mg_of X G a27, b__law_plain := b27, a__law_term := f28, d__law_term := _, F__law_term := F28, g__law_term := PySem.W.mg_of X G a28, b__law_term := b28, a__law_arguments := f29, d__law_arguments := _, F__law_arguments := F29, g__law_arguments := PySem.W.mg_of X G a29, b__law_arguments := b29, a__law_straight := f30, d__law_straight := _, F__law_straight := F30, g__law_straight := PySem.W.mg_of X G a30, b__law_straight := b30, a__law_test := f31, d__law_test := _, F__law_test := F31, g__law_test := PySem.W.mg_of X G a31, b__law_test := b31, a__law_row := f32, d__law_row := _, F__law_row := F32, g__law_row := PySem.W.mg_of X G a32, b__law_row := b32, a__law_later := f33, d__law_later := _, F__law_later := F33, g__law_later := PySem.W.mg_of X G a33, b__law_later := b33, a_law := fa, d_law := _, F_law := F34, g_law := PySem.W.mg_of X G a34, b_law := b34, z_all := PySem.W.mg_none_of X G z0, z_bool := PySem.W.mg_none_of X G z1, z_enumerate := PySem.W.mg_none_of X G z2, z_int := PySem.W.mg_none_of X G z3, z_isinstance := PySem.W.mg_none_of X G z4, z_len := PySem.W.mg_none_of X G z5, z_list := PySem.W.mg_none_of X G z6, z_max := PySem.W.mg_none_of X G z7, z_min := PySem.W.mg_none_of X G z8, z_range := PySem.W.mg_none_of X G z9, z_sorted := PySem.W.mg_none_of X G z10, z_str := PySem.W.mg_none_of X G z11, z_sum := PySem.W.mg_none_of X G z12, z_tuple := PySem.W.mg_none_of X G z13, t_CALL := t_0, c_CALL := PySem.W.mg_of X G u0, a_FORMS := p1, c_FORMS := PySem.W.mg_of X G u1, k_FORMS := k1_, t_NUMBER := t_2, c_NUMBER := PySem.W.mg_of X G u2, t_LENGTH := t_3, c_LENGTH := PySem.W.mg_of X G u3, t_VARIABLE := t_4, c_VARIABLE := PySem.W.mg_of X G u4, t_CELL := t_5, c_CELL := PySem.W.mg_of X G u5, t_PLAIN_SIZE := t_6, c_PLAIN_SIZE := PySem.W.mg_of X G u6, a_SIZES := p7, c_SIZES := PySem.W.mg_of X G u7, k_SIZES := k7_, a_COMPARING := p8, c_COMPARING := PySem.W.mg_of X G u8, k_COMPARING := k8_, t_TEST := t_9, c_TEST := PySem.W.mg_of X G u9, t_TERM_SIZE := t_10, c_TERM_SIZE := PySem.W.mg_of X G u10, t_JUMP := t_11, c_JUMP := PySem.W.mg_of X G u11, t_ARGUMENT_SIZE := t_12, c_ARGUMENT_SIZE := PySem.W.mg_of X G u12, t_SET := t_13, c_SET := PySem.W.mg_of X G u13, t_PUT := t_14, c_PUT := PySem.W.mg_of X G u14, t_CHOOSE := t_15, c_CHOOSE := PySem.W.mg_of X G u15, t_SWAP := t_16, c_SWAP := PySem.W.mg_of X G u16, t_FAIL := t_17, c_FAIL := PySem.W.mg_of X G u17 }, rfl⟩
end Lw

set_option Elab.async false
set_option linter.all false
set_option maxRecDepth 100000
namespace Lw
open PySem PySem.Spec PyProof.Rows L2 Fn
/-! ### words -/
def ix (ws : List Int) (i : Int) : Int := ws.getD i.toNat 0
abbrev tw (ws : List Int) : W := .tup (ws.map W.int)
section
variable {G : GH} {ws : List Int} {p : Int}
theorem ix_ok {i : Int} (h0 : 0 ≤ i) (h : i < ws.length) : L2.atI (ws.map W.int) i = some (.int (ix ws i)) := by
  refine atI_at h0 ?_
  rw [List.getElem?_map, List.getElem?_eq_getElem (by omega)]
  unfold ix
  rw [List.getD_eq_getElem?_getD, List.getElem?_eq_getElem (by omega)]
  rfl
theorem cut_map (lo hi : Option Int) : cutW (ws.map W.int) lo hi = (((ws.drop (HT.sIx ws.length 0 lo)).take (HT.sIx ws.length ws.length hi - HT.sIx ws.length 0 lo)).map W.int) := by
  unfold cutW
  rw [List.length_map, List.map_take, List.map_drop]
theorem sIx_int {n d : Nat} {i : Int} (h : 0 ≤ i) (h2 : i ≤ n) : HT.sIx n d (some i) = i.toNat := by
  obtain ⟨k, rfl⟩ := Int.eq_ofNat_of_zero_le h
  rw [HT.sIx_nat]; simp; omega
/-- the words from p to q -/
def seg (ws : List Int) (p n : Int) : List Int := (ws.drop p.toNat).take n.toNat
theorem cut_seg {n : Int} (h0 : 0 ≤ p) (hn : 0 ≤ n) (h : p + n ≤ ws.length) : cutW (ws.map W.int) (some p) (some (p + n)) = (seg ws p n).map W.int := by
  rw [cut_map, sIx_int h0 (by omega), sIx_int (by omega) (by omega)]
  unfold seg
  rw [show (p + n).toNat - p.toNat = n.toNat by omega]
theorem seg_len {n : Int} (h0 : 0 ≤ p) (hn : 0 ≤ n) (h : p + n ≤ ws.length) : (seg ws p n).length = n.toNat := by
  unfold seg
  rw [List.length_take, List.length_drop]; omega
theorem seg_cons {n : Int} (h0 : 0 ≤ p) (hn : 0 < n) (h : p + n ≤ ws.length) : seg ws p n = ix ws p :: seg ws (p + 1) (n - 1) := by
  unfold seg ix
  rw [List.drop_eq_getElem_cons (by omega), show n.toNat = (n - 1).toNat + 1 by omega, List.take_succ_cons, List.getD_eq_getElem?_getD, List.getElem?_eq_getElem (by omega), show (p + 1).toNat = p.toNat + 1 by omega]
  rfl
theorem seg_nil : seg ws p 0 = [] := by unfold seg; simp
theorem seg1 (h0 : 0 ≤ p) (h : p + 1 ≤ ws.length) : seg ws p 1 = [ix ws p] := by rw [seg_cons h0 (by omega) h]; exact congrArg _ seg_nil
theorem seg3 (h0 : 0 ≤ p) (h : p + 3 ≤ ws.length) : seg ws p 3 = [ix ws p, ix ws (p + 1), ix ws (p + 2)] := by
  rw [seg_cons h0 (by omega) h, show (3 : Int) - 1 = 2 by omega, seg_cons (by omega) (by omega) (by omega), show (2 : Int) - 1 = 1 by omega, seg1 (by omega) (by omega), show p + 1 + 1 = p + 2 by omega]
theorem seg4 (h0 : 0 ≤ p) (h : p + 4 ≤ ws.length) : seg ws p 4 = [ix ws p, ix ws (p + 1), ix ws (p + 2), ix ws (p + 3)] := by
  rw [seg_cons h0 (by omega) h, show (4 : Int) - 1 = 3 by omega, seg3 (by omega) (by omega), show p + 1 + 1 = p + 2 by omega, show p + 1 + 2 = p + 3 by omega]
theorem seg5 (h0 : 0 ≤ p) (h : p + 5 ≤ ws.length) : seg ws p 5 = [ix ws p, ix ws (p + 1), ix ws (p + 2), ix ws (p + 3), ix ws (p + 4)] := by
  rw [seg_cons h0 (by omega) h, show (5 : Int) - 1 = 4 by omega, seg4 (by omega) (by omega), show p + 1 + 1 = p + 2 by omega, show p + 1 + 2 = p + 3 by omega, show p + 1 + 3 = p + 4 by omega]
theorem seg8 (h0 : 0 ≤ p) (h : p + 8 ≤ ws.length) : seg ws p 8 = [ix ws p, ix ws (p + 1), ix ws (p + 2), ix ws (p + 3), ix ws (p + 4), ix ws (p + 5), ix ws (p + 6), ix ws (p + 7)] := by
  rw [seg_cons h0 (by omega) h, show (8 : Int) - 1 = 7 by omega, seg_cons (by omega) (by omega) (by omega), show (7 : Int) - 1 = 6 by omega, seg_cons (by omega) (by omega) (by omega), show (6 : Int) - 1 = 5 by omega, seg5 (by omega) (by omega)]
  simp only [Int.add_assoc]
  rfl
/-! ### what stands there -/
def plainS (a b c d : Int) : Option W :=
  if a = 0 ∧ b = 0 ∧ c = 0 then some (.tup [.str "num", .int d]) else if a = 1 ∧ c = 0 then some (.tup [.str "var", .int b, .int d]) else if a = 2 ∧ c = 0 then some (.tup [.str "len", .int b, .int d]) else none
def plainA (ws : List Int) (p : Int) : Option W := plainS (ix ws p) (ix ws (p + 1)) (ix ws (p + 2)) (ix ws (p + 3))
def termA (ws : List Int) (p : Int) : Option W :=
  if ix ws p = 3 then (if ix ws (p + 2) = 0 then (plainA ws (p + 4)).map fun v => .tup [.str "cell", .int (ix ws (p + 1)), v, .int (ix ws (p + 3))] else none)
  else if ix ws (p + 4) = 0 ∧ ix ws (p + 5) = 0 ∧ ix ws (p + 6) = 0 ∧ ix ws (p + 7) = 0 then plainA ws p else none
def argA (ws : List Int) (p : Int) : Option W :=
  if ix ws p = 1 then plainA ws (p + 1) else if ix ws p = 0 ∧ ix ws (p + 2) = 0 ∧ ix ws (p + 3) = 0 ∧ ix ws (p + 4) = 0 then some (.tup [.str "list", .int (ix ws (p + 1))]) else none
def oW : Option W → W
  | some w => w
  | none => .non
theorem inWs_ints (a : Int) : ∀ xs : List Int, inWs (.int a) (xs.map W.int) = decide (a ∈ xs)
  | [] => by simp [inWs]
  | x :: xs => by
    rw [List.map_cons, inWs, inWs_ints a xs]
    by_cases h : x = a
    · subst h; simp [eqW]
    · simp [eqW, h, Ne.symm h]
theorem pls_ints : ∀ xs : List Int, W.pls (xs.map W.int) = true
  | [] => rfl
  | x :: xs => by rw [List.map_cons, W.pls, pls_ints xs]; rfl
theorem deps_ints : ∀ xs : List Int, W.deps (xs.map W.int) = 0
  | [] => rfl
  | x :: xs => by rw [List.map_cons, W.deps, deps_ints xs]; rfl
theorem nbs_ints : ∀ xs : List Int, W.nbs (xs.map W.int) = true
  | [] => rfl
  | x :: xs => by rw [List.map_cons, W.nbs, nbs_ints xs]; rfl
theorem fIn_ints (a : Int) (xs : List Int) : fIn false (.int a) (.tup (xs.map W.int)) G = .ok (.bl (decide (a ∈ xs))) G := by
  unfold fIn res itemsD
  simp only [W.pl, pls_ints, deps_ints, inWs_ints, W.dep]
  rfl
theorem eqWs_ints : ∀ xs ys : List Int, eqWs (xs.map W.int) (ys.map W.int) = decide (xs = ys)
  | [], [] => by simp [eqWs]
  | [], _ :: _ => by simp [eqWs]
  | _ :: _, [] => by simp [eqWs]
  | x :: xs, y :: ys => by
    rw [List.map_cons, List.map_cons, eqWs, eqWs_ints xs ys]
    by_cases h : x = y
    · subst h; simp [eqW]
    · simp [eqW, h]
theorem fEq_ints (xs ys : List Int) : fEq (.tup (xs.map W.int)) (.tup (ys.map W.int)) G = .ok (.bl (decide (xs = ys))) G := by
  rw [fEq_nb (by simp only [W.nb]; exact nbs_ints xs) (by simp only [W.nb]; exact nbs_ints ys) (by simp only [W.dep, deps_ints]; decide)]
  rw [show eqW (.tup (xs.map W.int)) (.tup (ys.map W.int)) = eqWs (xs.map W.int) (ys.map W.int) from by simp only [eqW], eqWs_ints]
theorem fNe_intsL (xs ys : List Int) : fNe (.lst (xs.map W.int)) (.lst (ys.map W.int)) G = .ok (.bl (!decide (xs = ys))) G := by
  rw [fNe_nb (by simp only [W.nb]; exact nbs_ints xs) (by simp only [W.nb]; exact nbs_ints ys) (by simp only [W.dep, deps_ints]; decide)]
  rw [show eqW (.lst (xs.map W.int)) (.lst (ys.map W.int)) = eqWs (xs.map W.int) (ys.map W.int) from by simp only [eqW], eqWs_ints]
theorem fEq_intsL (xs ys : List Int) : fEq (.lst (xs.map W.int)) (.lst (ys.map W.int)) G = .ok (.bl (decide (xs = ys))) G := by
  rw [fEq_nb (by simp only [W.nb]; exact nbs_ints xs) (by simp only [W.nb]; exact nbs_ints ys) (by simp only [W.dep, deps_ints]; decide)]
  rw [show eqW (.lst (xs.map W.int)) (.lst (ys.map W.int)) = eqWs (xs.map W.int) (ys.map W.int) from by simp only [eqW], eqWs_ints]
theorem is_plain_ok (a b c d : Int) (l : List W) : f_is_plain [.tup (.int a :: .int b :: .int c :: l)] G = .ok (.bl (plainS a b c d).isSome) G := by
  rw [e_is_plain]
  unfold b_is_plain t_is_plain_2 t_is_plain_1 plainS
  have e := fIn_ints (G := G) a [0, 1, 2]
  simp only [List.map_cons, List.map_nil] at e
  by_cases ha : a = 0
  · subst ha
    by_cases hb : b = 0 <;> by_cases hc : c = 0 <;> simp [hb, hc, lens, e]
  · by_cases ha1 : a = 1
    · subst ha1
      by_cases hc : c = 0 <;> simp [hc, lens, e]
    · by_cases ha2 : a = 2
      · subst ha2
        by_cases hc : c = 0 <;> simp [hc, lens, e]
      · simp [ha, ha1, ha2, lens, e]
theorem plain_read_ok (h0 : 0 ≤ p) (h : p + 4 ≤ ws.length) {v : W} (e : plainA ws p = some v) : f_plain_read [tw ws, .int p] G = .ok v G := by
  rw [e_plain_read]
  unfold b_plain_read t_plain_read_2 t_plain_read_1
  unfold plainA plainS at e
  have i0 := ix_ok (ws := ws) (i := p) h0 (by omega)
  have i1 := ix_ok (ws := ws) (i := p + 1) (by omega) (by omega)
  have i3 := ix_ok (ws := ws) (i := p + 3) (by omega) (by omega)
  generalize ix ws p = a at i0 e
  generalize ix ws (p + 1) = b at i1 e
  generalize ix ws (p + 2) = c at e
  generalize ix ws (p + 3) = d at i3 e
  split at e
  · rename_i h1
    obtain ⟨rfl, rfl, rfl⟩ := h1
    cases e
    simp [i0, i3, lens]
  · split at e
    · rename_i h1
      obtain ⟨rfl, rfl⟩ := h1
      cases e
      simp [i0, i1, i3, lens]
    · split at e
      · rename_i h1
        obtain ⟨rfl, rfl⟩ := h1
        cases e
        simp [i0, i1, i3, lens]
      · cases e
theorem plainA_three {v : W} (e : plainA ws p = some v) : ix ws p ≠ 3 := fun h => by
  unfold plainA plainS at e
  rw [h] at e
  simp at e
theorem termA_eq (h3 : ix ws p ≠ 3) : termA ws p = if ix ws (p + 4) = 0 ∧ ix ws (p + 5) = 0 ∧ ix ws (p + 6) = 0 ∧ ix ws (p + 7) = 0 then plainA ws p else none := by unfold termA; rw [if_neg h3]
theorem is_term_ok (h0 : 0 ≤ p) (h : p + 8 ≤ ws.length) : f_is_term [.tup ((seg ws p 8).map W.int)] G = .ok (.bl (termA ws p).isSome) G := by
  rw [seg8 h0 h, e_is_term]
  unfold b_is_term t_is_term_2 t_is_term_1
  simp only [List.map_cons, List.map_nil]
  have c1 : cutW [W.int (ix ws p), .int (ix ws (p + 1)), .int (ix ws (p + 2)), .int (ix ws (p + 3)), .int (ix ws (p + 4)), .int (ix ws (p + 5)), .int (ix ws (p + 6)), .int (ix ws (p + 7))] none (some 4) = [W.int (ix ws p), .int (ix ws (p + 1)), .int (ix ws (p + 2)), .int (ix ws (p + 3))] := cut_at (k := 4)
  have c2 : cutW [W.int (ix ws p), .int (ix ws (p + 1)), .int (ix ws (p + 2)), .int (ix ws (p + 3)), .int (ix ws (p + 4)), .int (ix ws (p + 5)), .int (ix ws (p + 6)), .int (ix ws (p + 7))] (some 4) none = [.int (ix ws (p + 4)), .int (ix ws (p + 5)), .int (ix ws (p + 6)), .int (ix ws (p + 7))] := cut_from (k := 4)
  have q1 := is_plain_ok (G := G) (ix ws p) (ix ws (p + 1)) (ix ws (p + 2)) (ix ws (p + 3)) [.int (ix ws (p + 3))]
  have q2 := is_plain_ok (G := G) (ix ws (p + 4)) (ix ws (p + 5)) (ix ws (p + 6)) (ix ws (p + 7)) [.int (ix ws (p + 7))]
  have e5 : p + 4 + 1 = p + 5 := by omega
  have e6 : p + 4 + 2 = p + 6 := by omega
  have e7 : p + 4 + 3 = p + 7 := by omega
  have ee := fEq_ints (G := G) [ix ws (p + 4), ix ws (p + 5), ix ws (p + 6), ix ws (p + 7)] [0, 0, 0, 0]
  simp only [List.map_cons, List.map_nil] at ee
  unfold termA plainA
  rw [e5, e6, e7]
  generalize ix ws p = a at *
  generalize ix ws (p + 1) = b at *
  generalize ix ws (p + 2) = c at *
  generalize ix ws (p + 3) = d at *
  generalize ix ws (p + 4) = a' at *
  generalize ix ws (p + 5) = b' at *
  generalize ix ws (p + 6) = c' at *
  generalize ix ws (p + 7) = d' at *
  by_cases ha : a = 3
  · subst ha
    by_cases hc : c = 0
    · subst hc
      simp [c2, q2]
    · simp [hc]
  · by_cases hz : a' = 0 ∧ b' = 0 ∧ c' = 0 ∧ d' = 0
    · obtain ⟨rfl, rfl, rfl, rfl⟩ := hz
      cases hp : (plainS a b c d).isSome <;> simp [ha, c1, c2, q1, lens, ee, hp]
    · have hd : decide ([a', b', c', d'] = [0, 0, 0, 0]) = false := by
        rw [decide_eq_false_iff_not]
        simpa using hz
      rw [hd] at ee
      cases hp : (plainS a b c d).isSome <;> simp [ha, c1, c2, q1, lens, ee, hp, hz]
theorem is_arg_ok (h0 : 0 ≤ p) (h : p + 5 ≤ ws.length) : f_is_argument [.tup ((seg ws p 5).map W.int)] G = .ok (.bl (argA ws p).isSome) G := by
  rw [seg5 h0 h, e_is_argument]
  unfold b_is_argument t_is_argument_2 t_is_argument_1
  simp only [List.map_cons, List.map_nil]
  have c1 : cutW [W.int (ix ws p), .int (ix ws (p + 1)), .int (ix ws (p + 2)), .int (ix ws (p + 3)), .int (ix ws (p + 4))] (some 1) none = [.int (ix ws (p + 1)), .int (ix ws (p + 2)), .int (ix ws (p + 3)), .int (ix ws (p + 4))] := cut_from (k := 1)
  have c2 : cutW [W.int (ix ws p), .int (ix ws (p + 1)), .int (ix ws (p + 2)), .int (ix ws (p + 3)), .int (ix ws (p + 4))] (some 2) none = [.int (ix ws (p + 2)), .int (ix ws (p + 3)), .int (ix ws (p + 4))] := cut_from (k := 2)
  have q2 := is_plain_ok (G := G) (ix ws (p + 1)) (ix ws (p + 2)) (ix ws (p + 3)) (ix ws (p + 4)) [.int (ix ws (p + 4))]
  have ee := fEq_ints (G := G) [ix ws (p + 2), ix ws (p + 3), ix ws (p + 4)] [0, 0, 0]
  simp only [List.map_cons, List.map_nil] at ee
  unfold argA plainA
  rw [show p + 1 + 1 = p + 2 by omega, show p + 1 + 2 = p + 3 by omega, show p + 1 + 3 = p + 4 by omega]
  generalize ix ws p = a at *
  generalize ix ws (p + 1) = b at *
  generalize ix ws (p + 2) = c at *
  generalize ix ws (p + 3) = d at *
  generalize ix ws (p + 4) = a' at *
  by_cases ha : a = 0
  · subst ha
    by_cases hz : c = 0 ∧ d = 0 ∧ a' = 0
    · obtain ⟨rfl, rfl, rfl⟩ := hz
      simp [c2, lens, ee]
    · have hd : decide ([c, d, a'] = [0, 0, 0]) = false := by
        rw [decide_eq_false_iff_not]
        simpa using hz
      rw [hd] at ee
      simp [c2, lens, ee, hz]
  · by_cases ha1 : a = 1
    · subst ha1
      simp [c1, q2]
    · simp [ha, ha1]
theorem term_read_ok (h0 : 0 ≤ p) (h : p + 8 ≤ ws.length) {v : W} (e : termA ws p = some v) : f_term_read [tw ws, .int p] G = .ok v G := by
  rw [e_term_read]
  unfold b_term_read t_term_read_2 t_term_read_1
  have i0 := ix_ok (ws := ws) (i := p) h0 (by omega)
  have i1 := ix_ok (ws := ws) (i := p + 1) (by omega) (by omega)
  have i3 := ix_ok (ws := ws) (i := p + 3) (by omega) (by omega)
  by_cases k3 : ix ws p = 3
  · unfold termA at e
    rw [if_pos k3] at e
    split at e
    · obtain ⟨u, eu, rfl⟩ := Option.map_eq_some_iff.mp e
      have pr := plain_read_ok (G := G) (p := p + 4) (by omega) (by omega) eu
      rw [k3] at i0
      simp [i0, i1, i3, pr, lens]
    · cases e
  · rw [termA_eq k3] at e
    split at e
    · have pr := plain_read_ok (G := G) h0 (by omega) e
      simp [i0, k3, pr]
    · cases e
theorem arg_read_ok (h0 : 0 ≤ p) (h : p + 5 ≤ ws.length) {v : W} (e : argA ws p = some v) : f_argument_read [tw ws, .int p] G = .ok v G := by
  rw [e_argument_read]
  unfold b_argument_read t_argument_read_1
  have i0 := ix_ok (ws := ws) (i := p) h0 (by omega)
  have i1 := ix_ok (ws := ws) (i := p + 1) (by omega) (by omega)
  unfold argA at e
  split at e
  · rename_i k1
    have pr := plain_read_ok (G := G) (p := p + 1) (by omega) (by omega) e
    rw [k1] at i0
    simp [i0, pr]
  · split at e
    · rename_i k0
      cases e
      rw [k0.1] at i0
      simp [i0, i1, lens]
    · cases e
end
end Lw

set_option Elab.async false
set_option linter.all false
set_option maxRecDepth 100000
namespace Lw
open PySem PySem.Spec PyProof.Rows L2 Fn
/-- what stood stays -/
def Grow (G G' : GH) : Prop := G.n ≤ G'.n ∧ ∀ m, m < G.n → G'.at_ m = G.at_ m
theorem Grow.refl (G : GH) : Grow G G := ⟨Nat.le_refl _, fun _ _ => rfl⟩
theorem Grow.trans {A B C : GH} (x : Grow A B) (y : Grow B C) : Grow A C := ⟨Nat.le_trans x.1 y.1, fun m h => (y.2 m (Nat.lt_of_lt_of_le h x.1)).trans (x.2 m h)⟩
theorem Grow.push (G : GH) (o : AO) : Grow G (G.push o) := ⟨Nat.le_succ _, fun m h => push_ne (by omega)⟩
theorem Grow.set {G G' : GH} (x : Grow G G') {n : Nat} (hn : G.n ≤ n) (o : AO) : Grow G (G'.set n o) := ⟨x.1, fun m h => by rw [set_ne (by omega)]; exact x.2 m h⟩
theorem Grow.del {G G' : GH} (x : Grow G G') {n : Nat} (hn : G.n ≤ n) : Grow G (G'.del n) := ⟨x.1, fun m h => by
  unfold GH.del
  simp only
  rw [if_neg (by omega)]; exact x.2 m h⟩
section
variable {G : GH} {ws : List Int} {p : Int}
theorem plainS_nb {a b c d : Int} {v : W} (h : plainS a b c d = some v) : v.nb = true ∧ v.dep ≤ 1 ∧ Fn.isNon v = some false := by
  unfold plainS at h
  split at h
  · cases h; exact ⟨rfl, by simp [W.dep, W.deps], rfl⟩
  · split at h
    · cases h; exact ⟨rfl, by simp [W.dep, W.deps], rfl⟩
    · split at h
      · cases h; exact ⟨rfl, by simp [W.dep, W.deps], rfl⟩
      · cases h
theorem plainA_nb {v : W} (h : plainA ws p = some v) : v.nb = true ∧ v.dep ≤ 1 ∧ Fn.isNon v = some false := plainS_nb h
theorem termA_nb {v : W} (h : termA ws p = some v) : v.nb = true ∧ v.dep ≤ 2 ∧ Fn.isNon v = some false := by
  unfold termA at h
  split at h
  · split at h
    · obtain ⟨u, eu, rfl⟩ := Option.map_eq_some_iff.mp h
      obtain ⟨a, b, c⟩ := plainA_nb eu
      exact ⟨by simp [W.nb, W.nbs, a], by simp [W.dep, W.deps]; omega, rfl⟩
    · cases h
  · split at h
    · obtain ⟨a, b, c⟩ := plainA_nb h
      exact ⟨a, by omega, c⟩
    · cases h
theorem argA_nb {v : W} (h : argA ws p = some v) : v.nb = true ∧ v.dep ≤ 1 ∧ Fn.isNon v = some false := by
  unfold argA at h
  split at h
  · exact plainA_nb h
  · split at h
    · cases h; exact ⟨rfl, by simp [W.dep, W.deps], rfl⟩
    · cases h
/-- a part that may be none -/
def Pt (o : Option W) : Prop := ∀ v, o = some v → v.nb = true ∧ v.dep ≤ 10 ∧ Fn.isNon v = some false
theorem oW_nb {o : Option W} (h : Pt o) : (oW o).nb = true ∧ (oW o).dep ≤ 10 := by
  cases o with
  | none => exact ⟨rfl, Nat.zero_le _⟩
  | some v => exact ⟨(h v rfl).1, (h v rfl).2.1⟩
theorem eqW_non {o : Option W} (h : Pt o) : eqW (oW o) .non = o.isNone := by
  cases o with
  | none => rfl
  | some v =>
    obtain ⟨a, _, c⟩ := h v rfl
    show eqW v .non = false
    cases v <;> first | (simp at c; done) | rfl | cases a
theorem nbs_opts : ∀ os : List (Option W), (∀ o ∈ os, Pt o) → W.nbs (os.map oW) = true ∧ W.deps (os.map oW) ≤ 10
  | [], _ => ⟨rfl, Nat.zero_le _⟩
  | o :: os, h => by
    obtain ⟨a, b⟩ := oW_nb (h o List.mem_cons_self)
    obtain ⟨c, d⟩ := nbs_opts os fun x m => h x (List.mem_cons_of_mem _ m)
    exact ⟨by simp only [List.map_cons, W.nbs, a, c, Bool.and_self], by simp only [List.map_cons, W.deps]; omega⟩
/-- the values, where none is missing -/
def allW : List (Option W) → Option (List W)
  | [] => some []
  | some w :: os => (allW os).map (w :: ·)
  | none :: _ => none
theorem allW_none : ∀ {os : List (Option W)}, allW os = none ↔ os.any (·.isNone) = true
  | [] => by simp [allW]
  | some w :: os => by simp [allW, allW_none (os := os)]
  | none :: os => by simp [allW]
theorem allW_some : ∀ {os : List (Option W)} {ws : List W}, allW os = some ws → os = ws.map some ∧ os.map oW = ws
  | [], ws, h => by cases h; exact ⟨rfl, rfl⟩
  | some w :: os, ws, h => by
    unfold allW at h
    obtain ⟨us, eu, rfl⟩ := Option.map_eq_some_iff.mp h
    obtain ⟨a, b⟩ := allW_some eu
    exact ⟨by rw [a]; rfl, by rw [List.map_cons, b]; rfl⟩
  | none :: os, ws, h => by cases h
/-! ### the arguments of a call -/
def argsA (ws : List Int) (p : Int) (n : Nat) : List (Option W) := (List.range n).map fun (k : Nat) => argA ws (p + 4 + 5 * (k : Int))
theorem argsA_succ (n : Nat) : argsA ws p (n + 1) = argsA ws p n ++ [argA ws (p + 4 + 5 * (n : Int))] := by unfold argsA; rw [List.range_succ, List.map_append]; rfl
theorem argsA_len (n : Nat) : (argsA ws p n).length = n := by unfold argsA; simp
theorem argsA_pt (n : Nat) : ∀ o ∈ argsA ws p n, Pt o := fun o m v e => by
  unfold argsA at m
  obtain ⟨k, _, rfl⟩ := List.mem_map.mp m
  obtain ⟨a, b, c⟩ := argA_nb e
  exact ⟨a, by omega, c⟩
def callA (ws : List Int) (p : Int) : Option W := (allW (argsA ws p (ix ws (p + 3)).toNat)).map fun us => .tup [.str "call", .int (ix ws (p + 1)), .int (ix ws (p + 2)), .tup us]
theorem small_ok {n : Int} (h0 : 0 ≤ n) (h : n < 2 ^ 61) : small62 n = true := by unfold small62; simp; omega
theorem argsA_get {n : Nat} {us : List W} (h : allW (argsA ws p n) = some us) {k : Nat} (hk : k < n) : ∃ v, argA ws (p + 4 + 5 * (k : Int)) = some v ∧ us[k]? = some v := by
  obtain ⟨e, _⟩ := allW_some h
  have g : (argsA ws p n)[k]? = some (argA ws (p + 4 + 5 * (k : Int))) := by
    unfold argsA
    rw [List.getElem?_map, List.getElem?_range hk]
    rfl
  rw [e, List.getElem?_map] at g
  cases hu : us[k]? with
  | none => rw [hu] at g; cases g
  | some v => rw [hu] at g; exact ⟨v, (Option.some.inj g).symm, rfl⟩
theorem cr_args {G1 : GH} {n : Nat} {v : W} {j : Int} (ar : f_argument_read [tw ws, .int (p + 4 + j * 5)] G1 = .ok v G1) : (gCons (gCall (cFn 2 f_argument_read) (gCons (gVar 0) (gCons (gOp (fAddL false) (gOp (fAddL false) (gVar 1) (gC (.int 4))) (gOp fMul (gVar 3) (gC (.int 5)))) gNil))) gNil) [some (tw ws), some (.int p), some (.ref n), some (.int j)] G1 = .ok [v] G1 := by
  have mu := fMul_i (G := G1) (i := j) (j := 5) (.inr (by decide))
  simp [mu, ar]
theorem cr_turn {G1 : GH} {n : Nat} {us : List W} {v : W} {j : Int} (hG : G1.at_ n = some (.lst us)) (hl : us.length < 1000000) (ar : f_argument_read [tw ws, .int (p + 4 + j * 5)] G1 = .ok v G1) :
    t_call_read_1 [some (tw ws), some (.int p), some (.ref n), some (.int j)] G1 = .nx [some (tw ws), some (.int p), some (.ref n), some (.int j)] (G1.set n (.lst (us ++ [v]))) := by
  have ap := mAppend_at (w := v) hG hl
  have ty := isTy_at hG
  have ca := cr_args (n := n) ar
  unfold t_call_read_1
  rw [gDrop_ev, gMt_ev, gVar_ev (i := 2) (w := .ref n) rfl, bind_ok, if_pos ty, ca, bind_ok, ap]
  rfl
theorem call_read_ok (h0 : 0 ≤ p) (n0 : 0 ≤ ix ws (p + 3)) (h : p + 4 + 5 * ix ws (p + 3) ≤ ws.length) (hz : ws.length ≤ 100000) {v : W} (hv : callA ws p = some v) :
    ∃ G', f_call_read [tw ws, .int p] G = .ok v G' ∧ Grow G G' := by
  rw [e_call_read]
  unfold b_call_read t_call_read_4 t_call_read_3
  have i1 := ix_ok (ws := ws) (i := p + 1) (by omega) (by omega)
  have i2 := ix_ok (ws := ws) (i := p + 2) (by omega) (by omega)
  have i3 := ix_ok (ws := ws) (i := p + 3) (by omega) (by omega)
  have sm := small_ok (n := ix ws (p + 3)) n0 (by omega)
  unfold callA at hv
  obtain ⟨us, hu, rfl⟩ := Option.map_eq_some_iff.mp hv
  have lu : us.length = (ix ws (p + 3)).toNat := by
    have := (allW_some hu).1
    have l := congrArg List.length this
    rw [argsA_len, List.length_map] at l
    exact l.symm
  obtain ⟨ρ', G', e2, x3, G2, rfl, hat, gr, -⟩ := for_invN (t := tgName 3) (b := t_call_read_1) (fun i ρ G1 => ∃ x3 G2, ρ = [some (tw ws), some (.int p), some (.ref G.n), x3] ∧ G1.at_ G.n = some (.lst (us.take i)) ∧ Grow G G1 ∧ G2 = G1) (rngW 0 (ix ws (p + 3)).toNat) 0
    (fun j w hj ρ G1 ⟨x3, G2, e, hat, gr, _⟩ => by
      have hj1 := (List.getElem?_eq_some_iff.mp hj).1
      rw [rngW_length] at hj1
      rw [rngW_get _ _ _ hj1] at hj
      cases hj
      subst e
      rw [Nat.zero_add] at hat ⊢
      obtain ⟨v, ev, eu⟩ := argsA_get hu hj1
      have ar := arg_read_ok (G := G1) (ws := ws) (p := p + 4 + 5 * (j : Int)) (by omega) (by omega) ev
      have tn := cr_turn (ws := ws) (p := p) (j := (j : Int)) hat (by rw [List.length_take]; omega) (by rw [Int.mul_comm]; exact ar)
      refine ⟨[some (tw ws), some (.int p), some (.ref G.n), some (.int j)], G1, [some (tw ws), some (.int p), some (.ref G.n), some (.int j)], G1.set G.n (.lst (us.take j ++ [v])), by simp [tgName], .inl tn, some (.int j), _, rfl, ?_, gr.set (Nat.le_refl _) _, rfl⟩
      rw [set_same, List.take_succ, eu, Option.toList_some])
    [some (tw ws), some (.int p), some (.ref G.n), none] (G.push (.lst [])) ⟨none, _, rfl, push_same, Grow.push G _, rfl⟩
  rw [rngW_length, Nat.zero_add, ← lu, List.take_length] at hat
  unfold t_call_read_2
  refine ⟨G', ?_, gr⟩
  simp [lens, i3, sm, e2, i1, i2, cTuple_at hat]
end
end Lw

set_option Elab.async false
set_option linter.all false
set_option maxRecDepth 100000
namespace Lw
open PySem PySem.Spec PyProof.Rows L2 Fn
def sgn (i : Int) : W := .str (["<", "<=", ">", ">=", "==", "!="].getD i.toNat "<")
/-- the parts of a row that is no call -/
def partsA (ws : List Int) (p : Int) : List (Option W) :=
  if ix ws p = 1 then [some (.str "set"), some (.int (ix ws (p + 1))), termA ws (p + 2)]
  else if ix ws p = 2 then [some (.str "put"), some (.int (ix ws (p + 1))), plainA ws (p + 2), termA ws (p + 6)]
  else if ix ws p = 3 then [some (.str "swap"), some (.int (ix ws (p + 1))), plainA ws (p + 2), plainA ws (p + 6)]
  else if ix ws p = 4 then [some (.str "choose"), some (.int (ix ws (p + 1))), plainA ws (p + 2), plainA ws (p + 6)]
  else if ix ws p = 6 then [some (.str "test"), if 0 ≤ ix ws (p + 1) ∧ ix ws (p + 1) ≤ 5 then some (sgn (ix ws (p + 1))) else none, termA ws (p + 2), termA ws (p + 10), some (.int (ix ws (p + 18)))]
  else if ix ws p = 7 then [some (.str "jump"), some (.int (ix ws (p + 1)))]
  else if ix ws p = 8 then [some (.str "fail"), some (.int (ix ws (p + 1)))]
  else [some (.str "return"), termA ws (p + 1)]
def rowA (ws : List Int) (p : Int) : Option W := if ix ws p = 5 then callA ws p else (allW (partsA ws p)).map .tup
def sizeA (ws : List Int) (p : Int) : Int :=
  if ix ws p = 1 then 10 else if ix ws p = 2 then 14 else if ix ws p = 3 then 10 else if ix ws p = 4 then 10 else if ix ws p = 5 then 4 + 5 * ix ws (p + 3) else if ix ws p = 6 then 19 else if ix ws p = 7 then 2 else if ix ws p = 8 then 2 else 9
section
variable {G : GH} {ws : List Int} {p : Int}
theorem pt_str (x : Str) : Pt (some (.str x)) := fun v e => by cases e; exact ⟨rfl, Nat.zero_le _, rfl⟩
theorem pt_int (x : Int) : Pt (some (.int x)) := fun v e => by cases e; exact ⟨rfl, Nat.zero_le _, rfl⟩
theorem pt_term (p : Int) : Pt (termA ws p) := fun v e => by
  obtain ⟨a, b, c⟩ := termA_nb e
  exact ⟨a, by omega, c⟩
theorem pt_plain (p : Int) : Pt (plainA ws p) := fun v e => by
  obtain ⟨a, b, c⟩ := plainA_nb e
  exact ⟨a, by omega, c⟩
end
end Lw

set_option Elab.async false
set_option linter.all false
set_option maxRecDepth 100000
namespace Lw
open PySem PySem.Spec PyProof.Rows L2 Fn
/-! ### the program's look at a row -/
def szW : W := .dic [.inr "n", .inr "s", .inr "p", .inr "t", .inr "a"] [.int 1, .int 1, .int 4, .int 8, .int 5]
/-- a part, by its letter -/
inductive Lt where
  | n | s | p | t | a
def Lt.str : Lt → Str
  | .n => "n" | .s => "s" | .p => "p" | .t => "t" | .a => "a"
def Lt.sz : Lt → Int
  | .n => 1 | .s => 1 | .p => 4 | .t => 8 | .a => 5
def Lt.ok (ws : List Int) (q : Int) : Lt → Bool
  | .n => true
  | .s => decide (0 ≤ ix ws q ∧ ix ws q < 6)
  | .p => (plainA ws q).isSome
  | .t => (termA ws q).isSome
  | .a => (argA ws q).isSome
section
variable {G : GH} {ws : List Int} {p q : Int}
theorem sz_ok (c : Lt) : fIxX szW (.str c.str) G = .ok (.int c.sz) G := by
  cases c <;> simp [szW, fIxX, dlook, keyW, getW, Lt.str, Lt.sz]
theorem cut_short {n : Int} (h0 : 0 ≤ q) (hq : q ≤ ws.length) (hn : 0 ≤ n) (h : ¬ q + n ≤ ws.length) : ∃ l : List W, cutW (ws.map W.int) (some q) (some (q + n)) = l ∧ (l.length : Int) < n := by
  refine ⟨_, rfl, ?_⟩
  rw [cut_map, sIx_int h0 hq]
  obtain ⟨k, hk⟩ := Int.eq_ofNat_of_zero_le (show 0 ≤ q + n by omega)
  rw [hk, HT.sIx_nat, List.length_map, List.length_take, List.length_drop]
  omega
theorem fits_ok (c : Lt) (h0 : 0 ≤ q) (hq : q ≤ ws.length) : f_fits [.tup (cutW (ws.map W.int) (some q) (some (q + c.sz))), .str c.str] G = .ok (.bl (decide (q + c.sz ≤ ws.length) && c.ok ws q)) G := by
  rw [e_fits]
  unfold b_fits t_fits_6 t_fits_5 t_fits_4 t_fits_3 t_fits_2 t_fits_1
  have sz := sz_ok (G := G) c
  unfold szW at sz
  by_cases hb : q + c.sz ≤ ws.length
  · rw [cut_seg h0 (by cases c <;> decide) hb, decide_eq_true hb]
    have ln : ((seg ws q c.sz).length : Int) = c.sz := by
      rw [seg_len h0 (by cases c <;> decide) hb]; cases c <;> rfl
    cases c with
    | n =>
      simp only [Lt.sz, Lt.str] at sz ln hb ⊢
      simp [sz, ln, Lt.ok]
    | s =>
      simp only [Lt.sz, Lt.str] at sz ln hb ⊢
      rw [seg1 h0 hb] at ln ⊢
      by_cases h1 : 0 ≤ ix ws q <;> by_cases h2 : ix ws q < 6 <;> simp [sz, Lt.ok, gChain, h1, h2, lens]
    | p =>
      simp only [Lt.sz, Lt.str] at sz ln hb ⊢
      have ip := is_plain_ok (G := G) (ix ws q) (ix ws (q + 1)) (ix ws (q + 2)) (ix ws (q + 3)) [.int (ix ws (q + 3))]
      rw [seg4 h0 hb] at ln ⊢
      simp [sz, Lt.ok, ip, plainA]
    | t =>
      simp only [Lt.sz, Lt.str] at sz ln hb ⊢
      have it := is_term_ok (G := G) h0 hb
      simp [sz, ln, Lt.ok, it]
    | a =>
      simp only [Lt.sz, Lt.str] at sz ln hb ⊢
      have it := is_arg_ok (G := G) h0 hb
      simp [sz, ln, Lt.ok, it]
  · obtain ⟨l, el, ll⟩ := cut_short (ws := ws) h0 hq (n := c.sz) (by cases c <;> decide) hb
    rw [el, decide_eq_false hb]
    have nl : ¬ (l.length : Int) = c.sz := by omega
    simp [sz, nl]
/-- the parts lie there, and are right -/
def goes (ws : List Int) : Int → List Lt → Bool
  | _, [] => true
  | q, c :: cs => (decide (q + c.sz ≤ ws.length) && c.ok ws q) && goes ws (q + c.sz) cs
def total : List Lt → Int
  | [] => 0
  | c :: cs => c.sz + total cs
theorem walk_ok (x0 x1 x2 : Option W) : ∀ (cs : List Lt) (q : Int) (x4 x5 : Option W), x0 = some (tw ws) → 0 ≤ q → q ≤ ws.length →
    (goes ws q cs = true ∧ ∃ y4 y5, forF (tgName 4) t_behind_row_3 (cs.map fun c => .str c.str) [x0, x1, x2, some (.int q), x4, x5] G = .nx [x0, x1, x2, some (.int (q + total cs)), y4, y5] G) ∨
    (goes ws q cs = false ∧ forF (tgName 4) t_behind_row_3 (cs.map fun c => .str c.str) [x0, x1, x2, some (.int q), x4, x5] G = .rt .non G)
  | [], q, x4, x5, _, _, _ => .inl ⟨rfl, x4, x5, by rw [total, Int.add_zero]; rfl⟩
  | c :: cs, q, x4, x5, e0, h0, hq => by
    have sz := sz_ok (G := G) c
    have fo := fits_ok (G := G) c h0 hq
    have s0 : 0 ≤ c.sz := by cases c <;> decide
    cases hb : (decide (q + c.sz ≤ ws.length) && c.ok ws q) with
    | false =>
      rw [hb] at fo
      have tn : t_behind_row_3 [x0, x1, x2, some (.int q), some (.str c.str), x5] G = .rt .non G := by
        unfold t_behind_row_3 t_behind_row_2
        unfold szW at sz
        subst e0
        simp [sz, fo]
      refine .inr ⟨by rw [goes, hb]; rfl, ?_⟩
      rw [List.map_cons]
      exact forF_rt rfl tn
    | true =>
      rw [hb] at fo
      have hle : q + c.sz ≤ ws.length := by
        rw [Bool.and_eq_true, decide_eq_true_eq] at hb
        exact hb.1
      have tn : t_behind_row_3 [x0, x1, x2, some (.int q), some (.str c.str), x5] G = .nx [x0, x1, x2, some (.int (q + c.sz)), some (.str c.str), some (.int (q + c.sz))] G := by
        unfold t_behind_row_3 t_behind_row_2 t_behind_row_1
        unfold szW at sz
        subst e0
        simp [sz, fo]
      rw [List.map_cons, forF_nx (w := .str c.str) (ρ := [x0, x1, x2, some (.int q), x4, x5]) (G := G) rfl tn]
      rcases walk_ok x0 x1 x2 cs (q + c.sz) (some (.str c.str)) (some (.int (q + c.sz))) e0 (by omega) hle with ⟨g, y4, y5, e⟩ | ⟨g, e⟩
      · exact .inl ⟨by rw [goes, hb, g]; rfl, y4, y5, by rw [e, total, Int.add_assoc]⟩
      · exact .inr ⟨by rw [goes, hb, g]; rfl, e⟩
end
end Lw

set_option Elab.async false
set_option linter.all false
set_option maxRecDepth 100000
namespace Lw
open PySem PySem.Spec PyProof.Rows L2 Fn
section
variable {G : GH} {ws : List Int} {p q : Int}
theorem chars_lit (l : List Char) : charsW (Str.ofString (String.ofList l)) = l.map fun ch => .str ⟨#[ch.toNat]⟩ := by
  unfold charsW
  rw [Str.ofString_eq_toList]
  simp
theorem lit1 (ch : Char) : (⟨#[ch.toNat]⟩ : Str) = Str.ofString (String.ofList [ch]) := by rw [Str.ofString_eq_toList]; simp
example : charsW "nt" = [Lt.n, Lt.t].map fun c => .str c.str := by
  have := chars_lit ['n', 't']
  simp only [List.map_cons, List.map_nil, lit1] at this
  exact this
theorem cat_chars (a b : Str) : charsW (a ++ b) = charsW a ++ charsW b := by
  unfold charsW
  rw [← List.map_append]
  congr 1
  show (a.cps ++ b.cps).toList = _
  simp
theorem fold_cat (x : Array Nat) : ∀ (n : Nat) (acc : Array Nat), ((List.replicate n x).foldl (· ++ ·) acc).toList = acc.toList ++ (List.replicate n x.toList).flatten
  | 0, acc => by simp
  | n + 1, acc => by
    rw [List.replicate_succ, List.foldl_cons, fold_cat x n, List.replicate_succ, List.flatten_cons]
    simp
theorem flat_one {α : Type} (a : α) : ∀ n : Nat, (List.replicate n [a]).flatten = List.replicate n a
  | 0 => rfl
  | n + 1 => by rw [List.replicate_succ, List.flatten_cons, flat_one a n, List.replicate_succ]; rfl
theorem a_cps : (Str.ofString "a").cps.toList = [97] := by
  have := lit1 'a'
  have e : (Str.ofString "a").cps = #['a'.toNat] := (congrArg Str.cps this).symm
  rw [e]
  rfl
theorem a_chars : charsW "a" = [.str "a"] := by
  have := chars_lit ['a']
  simp only [List.map_cons, List.map_nil, lit1] at this
  exact this
theorem mul_chars (n : Nat) : charsW (strMul "a" (n : Int)) = List.replicate n (.str "a") ∧ (strMul "a" (n : Int)).length = n := by
  have al : (Str.ofString "a").length = 1 := by
    show (Str.ofString "a").cps.size = 1
    rw [← Array.length_toList, a_cps]; rfl
  unfold strMul
  by_cases h0 : (n : Int) < 1
  · have : n = 0 := by omega
    subst this
    rw [if_pos h0]
    exact ⟨rfl, rfl⟩
  · rw [if_neg h0]
    by_cases h1 : n = 1
    · subst h1
      rw [if_pos (by simp)]
      exact ⟨a_chars, al⟩
    · rw [if_neg (by simp [al]; omega)]
      have e := fold_cat (Str.ofString "a").cps n #[]
      rw [a_cps, flat_one] at e
      constructor
      · unfold charsW
        show (((List.replicate (n : Int).toNat (Str.ofString "a").cps).foldl (· ++ ·) #[]).toList.map _) = _
        rw [Int.toNat_natCast, e]
        have l1 := lit1 'a'
        simp
        exact .inr l1
      · show ((List.replicate (n : Int).toNat (Str.ofString "a").cps).foldl (· ++ ·) #[]).size = n
        rw [Int.toNat_natCast, ← Array.length_toList, e]
        simp
/-- the form of a row -/
def formOf (ws : List Int) (p : Int) : Option (List Lt) :=
  if ix ws p = 1 then some [.n, .t] else if ix ws p = 2 then some [.n, .p, .t] else if ix ws p = 3 then some [.n, .p, .p] else if ix ws p = 4 then some [.n, .p, .p]
  else if ix ws p = 5 then (if p + 3 < ws.length ∧ 0 ≤ ix ws (p + 3) ∧ ix ws (p + 3) ≤ ws.length then some ([.n, .n, .n] ++ List.replicate (ix ws (p + 3)).toNat .a) else none)
  else if ix ws p = 6 then some [.s, .t, .t, .n] else if ix ws p = 7 then some [.n] else if ix ws p = 8 then some [.n] else if ix ws p = 9 then some [.t] else none
theorem lit_form (l : List Char) : charsW (Str.ofString (String.ofList l)) = l.map fun ch => .str (Str.ofString (String.ofList [ch])) := by
  rw [chars_lit]
  congr 1
  funext ch
  rw [lit1]
theorem str_a_len : (Str.ofString "a").length = 1 := by
  show (Str.ofString "a").cps.size = 1
  rw [← Array.length_toList, a_cps]; rfl
theorem str_nnn_len : (Str.ofString "nnn").length = 3 := by
  show (Str.ofString "nnn").cps.size = 3
  rw [Str.ofString_eq_toList]; rfl
theorem mulX_ok {z : Str} {n : Int} (h0 : 0 ≤ n) (h1 : n < 2 ^ 31) (h2 : z.length * n.toNat ≤ sizeLine) (h3 : (strMul z n).length ≤ sizeLine) : fMulX (.str z) (.int n) G = .ok (.str (strMul z n)) G := by
  unfold fMulX
  simp only
  rw [if_pos ⟨h0, h1, h2, h3⟩]
theorem addS_ok {a b : Str} (h : a.length + b.length ≤ sizeLine) : fAddL false (.str a) (.str b) G = .ok (.str (a ++ b)) G := by
  unfold fAddL
  simp only
  rw [if_pos h]
theorem form_tail {n : Int} {s : Str} (h0 : 0 ≤ p) (h : p + 3 < ws.length) (e : ix ws (p + 3) = n) (b0 : 0 ≤ n) (b1 : n ≤ ws.length) (mu : fMulX (.str "a") (.int n) G = .ok (.str s) G) {r : W} (ad : fAddL false (.str "nnn") (.str s) G = .ok r G) :
    (t_form_at_2 [some (tw ws), some (.int p)] G).fin.calm = .ok r G := by
  have i3 := ix_ok (ws := ws) (i := p + 3) (by omega) h
  rw [e] at i3
  have h3' : ¬ (ws.length : Int) ≤ p + 3 := by omega
  have t1 : (t_form_at_1 [some (tw ws), some (.int p)] G) = .rt r G := by
    unfold t_form_at_1
    have e1 : gOp fMulX (gC (.str "a")) (gOp fIx (gVar 0) (gOp (fAddL false) (gVar 1) (gC (.int 3)))) [some (tw ws), some (.int p)] G = .ok (.str s) G := by
      rw [gOp_ev, gC_ev, bind_ok]
      have e2 : gOp fIx (gVar 0) (gOp (fAddL false) (gVar 1) (gC (.int 3))) [some (tw ws), some (.int p)] G = .ok (.int n) G := by simp [i3]
      rw [e2, bind_ok, mu]
    rw [gRet_ev, gOp_ev, gC_ev, bind_ok, e1, bind_ok, ad]
    rfl
  unfold t_form_at_2
  simp [i3, h3', gChain, b0, b1, t1]
theorem form_ok (h0 : 0 ≤ p) (hp : p < ws.length) (hz : ws.length ≤ 100000) : ∃ w, f_form_at [tw ws, .int p] G = .ok w G ∧
    ((∃ cs s, formOf ws p = some cs ∧ w = .str s ∧ charsW s = cs.map fun c => .str c.str) ∨ (formOf ws p = none ∧ w = .non)) := by
  rw [e_form_at]
  unfold b_form_at t_form_at_3 formOf
  have i0 := ix_ok (ws := ws) (i := p) h0 hp
  have g : ∀ k : Int, k ≠ 5 → gGet (gC (.dic [(.inl (1)), (.inl (2)), (.inl (3)), (.inl (4)), (.inl (6)), (.inl (7)), (.inl (8)), (.inl (9))] [(.str "nt"), (.str "npt"), (.str "npp"), (.str "npp"), (.str "sttn"), (.str "n"), (.str "n"), (.str "t")])) (gC (.int k)) = gGet (gC (.dic [(.inl (1)), (.inl (2)), (.inl (3)), (.inl (4)), (.inl (6)), (.inl (7)), (.inl (8)), (.inl (9))] [(.str "nt"), (.str "npt"), (.str "npp"), (.str "npp"), (.str "sttn"), (.str "n"), (.str "n"), (.str "t")])) (gC (.int k)) := fun _ _ => rfl
  by_cases k5 : ix ws p = 5
  · rw [k5] at i0 ⊢
    by_cases h3 : p + 3 < ws.length
    · have i3 := ix_ok (ws := ws) (i := p + 3) (by omega) h3
      by_cases hb : 0 ≤ ix ws (p + 3) ∧ ix ws (p + 3) ≤ ws.length
      · obtain ⟨b0, b1⟩ := hb
        obtain ⟨m, hm⟩ := Int.eq_ofNat_of_zero_le b0
        obtain ⟨mc, ml⟩ := mul_chars m
        rw [hm] at i3 b1 ⊢
        have mu := mulX_ok (G := G) (z := "a") (n := (m : Int)) (by omega) (by omega) (by rw [str_a_len]; exact len_le _ (by omega)) (by rw [ml]; exact len_le _ (by omega))
        have ad := addS_ok (G := G) (a := "nnn") (b := strMul "a" (m : Int)) (by rw [str_nnn_len, ml]; exact len_le _ (by omega))
        refine ⟨.str ("nnn" ++ strMul "a" (m : Int)), ?_, .inl ⟨[.n, .n, .n] ++ List.replicate m .a, _, ?_, rfl, ?_⟩⟩
        · have ft := form_tail (G := G) (ws := ws) (p := p) h0 h3 hm (by omega) b1 mu ad
          simp [i0, ft]
        · simp [h3, b1]
        · rw [cat_chars, mc, List.map_append, List.map_replicate]
          have := lit_form ['n', 'n', 'n']
          rw [show charsW (Str.ofString "nnn") = _ from this]
          rfl
      · refine ⟨.non, ?_, .inr ⟨by simp only [if_true]; rw [if_neg (by decide), if_neg (by decide), if_neg (by decide), if_neg (by decide), if_neg (fun z => hb z.2)], rfl⟩⟩
        have h3' : ¬ (ws.length : Int) ≤ p + 3 := by omega
        by_cases b0 : 0 ≤ ix ws (p + 3)
        · have b1 : ¬ ix ws (p + 3) ≤ ws.length := fun z => hb ⟨b0, z⟩
          unfold t_form_at_2
          simp [i0, i3, h3', gChain, b0, b1]
        · unfold t_form_at_2
          simp [i0, i3, h3', gChain, b0]
    · refine ⟨.non, ?_, .inr ⟨by simp only [if_true]; rw [if_neg (by decide), if_neg (by decide), if_neg (by decide), if_neg (by decide), if_neg (fun z => h3 z.1)], rfl⟩⟩
      have h3' : (ws.length : Int) ≤ p + 3 := by omega
      unfold t_form_at_2
      simp [i0, h3']
  · by_cases hk : ix ws p = 1 ∨ ix ws p = 2 ∨ ix ws p = 3 ∨ ix ws p = 4 ∨ ix ws p = 6 ∨ ix ws p = 7 ∨ ix ws p = 8 ∨ ix ws p = 9
    · rcases hk with k | k | k | k | k | k | k | k
      · rw [k] at i0 ⊢
        refine ⟨.str "nt", by simp [i0, gGet, dlook, mGet, keyW, getW], .inl ⟨[.n, .t], _, by simp, rfl, ?_⟩⟩
        have := lit_form ['n', 't']
        exact this
      · rw [k] at i0 ⊢
        refine ⟨.str "npt", by simp [i0, gGet, dlook, mGet, keyW, getW], .inl ⟨[.n, .p, .t], _, by simp, rfl, ?_⟩⟩
        have := lit_form ['n', 'p', 't']
        exact this
      · rw [k] at i0 ⊢
        refine ⟨.str "npp", by simp [i0, gGet, dlook, mGet, keyW, getW], .inl ⟨[.n, .p, .p], _, by simp, rfl, ?_⟩⟩
        have := lit_form ['n', 'p', 'p']
        exact this
      · rw [k] at i0 ⊢
        refine ⟨.str "npp", by simp [i0, gGet, dlook, mGet, keyW, getW], .inl ⟨[.n, .p, .p], _, by simp, rfl, ?_⟩⟩
        have := lit_form ['n', 'p', 'p']
        exact this
      · rw [k] at i0 ⊢
        refine ⟨.str "sttn", by simp [i0, gGet, dlook, mGet, keyW, getW], .inl ⟨[.s, .t, .t, .n], _, by simp, rfl, ?_⟩⟩
        have := lit_form ['s', 't', 't', 'n']
        exact this
      · rw [k] at i0 ⊢
        refine ⟨.str "n", by simp [i0, gGet, dlook, mGet, keyW, getW], .inl ⟨[.n], _, by simp, rfl, ?_⟩⟩
        have := lit_form ['n']
        exact this
      · rw [k] at i0 ⊢
        refine ⟨.str "n", by simp [i0, gGet, dlook, mGet, keyW, getW], .inl ⟨[.n], _, by simp, rfl, ?_⟩⟩
        have := lit_form ['n']
        exact this
      · rw [k] at i0 ⊢
        refine ⟨.str "t", by simp [i0, gGet, dlook, mGet, keyW, getW], .inl ⟨[.t], _, by simp, rfl, ?_⟩⟩
        have := lit_form ['t']
        exact this
    · have n1 : ¬ ix ws p = 1 := fun z => hk (by omega)
      have n2 : ¬ ix ws p = 2 := fun z => hk (by omega)
      have n3 : ¬ ix ws p = 3 := fun z => hk (by omega)
      have n4 : ¬ ix ws p = 4 := fun z => hk (by omega)
      have n6 : ¬ ix ws p = 6 := fun z => hk (by omega)
      have n7 : ¬ ix ws p = 7 := fun z => hk (by omega)
      have n8 : ¬ ix ws p = 8 := fun z => hk (by omega)
      have n9 : ¬ ix ws p = 9 := fun z => hk (by omega)
      refine ⟨.non, ?_, .inr ⟨by simp [n1, n2, n3, n4, k5, n6, n7, n8, n9], rfl⟩⟩
      simp [i0, k5, gGet, dlook, mGet, keyW, getW, Ne.symm n1, Ne.symm n2, Ne.symm n3, Ne.symm n4, Ne.symm n6, Ne.symm n7, Ne.symm n8, Ne.symm n9]
def behindA (ws : List Int) (p : Int) : W := match formOf ws p with
  | none => .non
  | some cs => if goes ws (p + 1) cs then .int (p + 1 + total cs) else .non
theorem behind_ok (h0 : 0 ≤ p) (hp : p < ws.length) (hz : ws.length ≤ 100000) : f_behind_row [tw ws, .int p] G = .ok (behindA ws p) G := by
  rw [e_behind_row]
  unfold b_behind_row t_behind_row_8 t_behind_row_7 behindA
  obtain ⟨w, e, r⟩ := form_ok (G := G) h0 hp hz
  rcases r with ⟨cs, s, ef, rfl, ec⟩ | ⟨ef, rfl⟩
  · rw [ef]
    have wk := walk_ok (G := G) (ws := ws) (some (tw ws)) (some (.int p)) (some (.str s)) cs (p + 1) none none rfl (by omega) (by omega)
    rw [← ec] at wk
    unfold t_behind_row_6 t_behind_row_5 t_behind_row_4
    rcases wk with ⟨g, y4, y5, e2⟩ | ⟨g, e2⟩
    · simp only [g, if_true]
      simp [e, iTxt, asTxt, e2]
    · simp only [g]
      simp [e, iTxt, asTxt, e2]
  · rw [ef]
    simp [e]
end
end Lw

set_option Elab.async false
set_option linter.all false
set_option maxRecDepth 100000
namespace Lw
open PySem PySem.Spec PyProof.Rows L2 Fn
/-! ### bodies as data -/
inductive Pl where
  | num (d : Int)
  | var (b d : Int)
  | len (b d : Int)
def Pl.w : Pl → W
  | .num d => .tup [.str "num", .int d]
  | .var b d => .tup [.str "var", .int b, .int d]
  | .len b d => .tup [.str "len", .int b, .int d]
def Pl.ws : Pl → List Int
  | .num d => [0, 0, 0, d]
  | .var b d => [1, b, 0, d]
  | .len b d => [2, b, 0, d]
inductive Tm where
  | pl (x : Pl)
  | cell (a : Int) (i : Pl) (d : Int)
def Tm.w : Tm → W
  | .pl x => x.w
  | .cell a i d => .tup [.str "cell", .int a, i.w, .int d]
def Tm.ws : Tm → List Int
  | .pl x => x.ws ++ [0, 0, 0, 0]
  | .cell a i d => [3, a, 0, d] ++ i.ws
inductive Ar where
  | pl (x : Pl)
  | lst (b : Int)
def Ar.w : Ar → W
  | .pl x => x.w
  | .lst b => .tup [.str "list", .int b]
def Ar.ws : Ar → List Int
  | .pl x => 1 :: x.ws
  | .lst b => [0, b, 0, 0, 0]
inductive Rw where
  | set (a : Int) (t : Tm)
  | put (a : Int) (x : Pl) (t : Tm)
  | swap (a : Int) (x y : Pl)
  | choose (a : Int) (x y : Pl)
  | call (a b : Int) (l : List Ar)
  | test (s : Fin 6) (x y : Tm) (g : Int)
  | jump (g : Int)
  | fail (a : Int)
  | ret (t : Tm)
def Rw.w : Rw → W
  | .set a t => .tup [.str "set", .int a, t.w]
  | .put a x t => .tup [.str "put", .int a, x.w, t.w]
  | .swap a x y => .tup [.str "swap", .int a, x.w, y.w]
  | .choose a x y => .tup [.str "choose", .int a, x.w, y.w]
  | .call a b l => .tup [.str "call", .int a, .int b, .tup (l.map Ar.w)]
  | .test s x y g => .tup [.str "test", sgn (s.val : Int), x.w, y.w, .int g]
  | .jump g => .tup [.str "jump", .int g]
  | .fail a => .tup [.str "fail", .int a]
  | .ret t => .tup [.str "return", t.w]
def Rw.ws : Rw → List Int
  | .set a t => [1, a] ++ t.ws
  | .put a x t => [2, a] ++ (x.ws ++ t.ws)
  | .swap a x y => [3, a] ++ (x.ws ++ y.ws)
  | .choose a x y => [4, a] ++ (x.ws ++ y.ws)
  | .call a b l => [5, a, b, (l.length : Int)] ++ (l.map Ar.ws).flatten
  | .test s x y g => [6, (s.val : Int)] ++ (x.ws ++ (y.ws ++ [g]))
  | .jump g => [7, g]
  | .fail a => [8, a]
  | .ret t => [9] ++ t.ws
theorem Pl.ws_len (x : Pl) : x.ws.length = 4 := by cases x <;> rfl
theorem Tm.ws_len (x : Tm) : x.ws.length = 8 := by
  cases x with
  | pl x => rw [Tm.ws, List.length_append, x.ws_len]; rfl
  | cell a i d => rw [Tm.ws, List.length_append, i.ws_len]; rfl
theorem Ar.ws_len (x : Ar) : x.ws.length = 5 := by
  cases x with
  | pl x => rw [Ar.ws, List.length_cons, x.ws_len]
  | lst b => rfl
theorem Ar.flat_len : ∀ l : List Ar, (l.map Ar.ws).flatten.length = 5 * l.length
  | [] => rfl
  | x :: l => by rw [List.map_cons, List.flatten_cons, List.length_append, x.ws_len, Ar.flat_len l, List.length_cons]; omega
/-- the words l stand at p -/
def At (ws : List Int) : Int → List Int → Prop
  | p, [] => 0 ≤ p ∧ p ≤ ws.length
  | p, a :: l => 0 ≤ p ∧ p < ws.length ∧ ix ws p = a ∧ At ws (p + 1) l
section
variable {ws : List Int} {p : Int}
theorem at_app : ∀ (l1 l2 : List Int) (p : Int), At ws p (l1 ++ l2) ↔ At ws p l1 ∧ At ws (p + l1.length) l2
  | [], l2, p => by
    simp only [List.nil_append, At, List.length_nil]
    rw [show p + ((0 : Nat) : Int) = p by omega]
    refine ⟨fun h => ⟨?_, h⟩, fun h => h.2⟩
    cases l2 with
    | nil => exact h
    | cons a l => exact ⟨h.1, by have := h.2.1; omega⟩
  | a :: l1, l2, p => by
    simp only [List.cons_append, At, at_app l1 l2 (p + 1), List.length_cons]
    rw [show p + 1 + (l1.length : Int) = p + ((l1.length + 1 : Nat) : Int) by omega]
    exact ⟨fun ⟨a, b, c, d, e⟩ => ⟨⟨a, b, c, d⟩, e⟩, fun ⟨⟨a, b, c, d⟩, e⟩ => ⟨a, b, c, d, e⟩⟩
theorem at_le : ∀ (l : List Int) (p : Int), At ws p l → 0 ≤ p ∧ p + l.length ≤ ws.length
  | [], p, h => ⟨h.1, by have := h.2; simp; omega⟩
  | a :: l, p, h => ⟨h.1, by have := (at_le l _ h.2.2.2).2; simp; omega⟩
/-! ### reading back -/
def plainD (ws : List Int) (p : Int) : Option Pl :=
  if ix ws p = 0 ∧ ix ws (p + 1) = 0 ∧ ix ws (p + 2) = 0 then some (.num (ix ws (p + 3))) else if ix ws p = 1 ∧ ix ws (p + 2) = 0 then some (.var (ix ws (p + 1)) (ix ws (p + 3))) else if ix ws p = 2 ∧ ix ws (p + 2) = 0 then some (.len (ix ws (p + 1)) (ix ws (p + 3))) else none
def termD (ws : List Int) (p : Int) : Option Tm :=
  if ix ws p = 3 then (if ix ws (p + 2) = 0 then (plainD ws (p + 4)).map fun v => .cell (ix ws (p + 1)) v (ix ws (p + 3)) else none)
  else if ix ws (p + 4) = 0 ∧ ix ws (p + 5) = 0 ∧ ix ws (p + 6) = 0 ∧ ix ws (p + 7) = 0 then (plainD ws p).map .pl else none
def argD (ws : List Int) (p : Int) : Option Ar :=
  if ix ws p = 1 then (plainD ws (p + 1)).map .pl else if ix ws p = 0 ∧ ix ws (p + 2) = 0 ∧ ix ws (p + 3) = 0 ∧ ix ws (p + 4) = 0 then some (.lst (ix ws (p + 1))) else none
def argsD (ws : List Int) : Nat → Int → Option (List Ar)
  | 0, _ => some []
  | n + 1, q => (argD ws q).bind fun a => (argsD ws n (q + 5)).map (a :: ·)
def rowD (ws : List Int) (p : Int) : Option Rw :=
  if ix ws p = 1 then (termD ws (p + 2)).map (.set (ix ws (p + 1)))
  else if ix ws p = 2 then (plainD ws (p + 2)).bind fun x => (termD ws (p + 6)).map (.put (ix ws (p + 1)) x)
  else if ix ws p = 3 then (plainD ws (p + 2)).bind fun x => (plainD ws (p + 6)).map (.swap (ix ws (p + 1)) x)
  else if ix ws p = 4 then (plainD ws (p + 2)).bind fun x => (plainD ws (p + 6)).map (.choose (ix ws (p + 1)) x)
  else if ix ws p = 5 then (argsD ws (ix ws (p + 3)).toNat (p + 4)).map (.call (ix ws (p + 1)) (ix ws (p + 2)))
  else if ix ws p = 6 then (if h : 0 ≤ ix ws (p + 1) ∧ ix ws (p + 1) ≤ 5 then (termD ws (p + 2)).bind fun x => (termD ws (p + 10)).map fun y => .test ⟨(ix ws (p + 1)).toNat, by omega⟩ x y (ix ws (p + 18)) else none)
  else if ix ws p = 7 then some (.jump (ix ws (p + 1)))
  else if ix ws p = 8 then some (.fail (ix ws (p + 1)))
  else (termD ws (p + 1)).map .ret
theorem plainA_D : plainA ws p = (plainD ws p).map Pl.w := by
  unfold plainA plainS plainD
  split
  · rfl
  · split
    · rfl
    · split <;> rfl
theorem termA_D : termA ws p = (termD ws p).map Tm.w := by
  unfold termA termD
  rw [plainA_D, plainA_D]
  split
  · split
    · cases plainD ws (p + 4) <;> rfl
    · rfl
  · split
    · cases plainD ws p <;> rfl
    · rfl
theorem argA_D : argA ws p = (argD ws p).map Ar.w := by
  unfold argA argD
  rw [plainA_D]
  split
  · cases plainD ws (p + 1) <;> rfl
  · split <;> rfl
theorem allW_map {α : Type} (f : Nat → Option W) (g : Nat → Option α) (w : α → W) (h : ∀ k, f k = (g k).map w) : ∀ l : List Nat, allW (l.map f) = (l.mapM g).map (List.map w)
  | [] => rfl
  | k :: l => by
    rw [List.map_cons, h k, List.mapM_cons]
    cases g k with
    | none => rfl
    | some a =>
      show (allW (l.map f)).map (w a :: ·) = _
      rw [allW_map f g w h l]
      cases hm : l.mapM g with
      | none => simp [hm]
      | some b => simp [hm]
theorem argsA_D : ∀ (n : Nat) (q : Int), allW ((List.range n).map fun (k : Nat) => argA ws (q + 5 * (k : Int))) = (argsD ws n q).map (List.map Ar.w)
  | 0, q => rfl
  | n + 1, q => by
    rw [List.range_succ_eq_map, List.map_cons, List.map_map]
    have e : (fun k : Nat => argA ws (q + 5 * (k : Int))) ∘ Nat.succ = fun k : Nat => argA ws (q + 5 + 5 * (k : Int)) := by
      funext k
      show argA ws (q + 5 * ((k + 1 : Nat) : Int)) = _
      rw [show q + 5 * ((k + 1 : Nat) : Int) = q + 5 + 5 * (k : Int) by omega]
    rw [e, argsD, show q + 5 * ((0 : Nat) : Int) = q by omega]
    rw [show argA ws q = (argD ws q).map Ar.w from argA_D]
    cases argD ws q with
    | none => rfl
    | some a =>
      show (allW _).map (a.w :: ·) = _
      rw [argsA_D n (q + 5)]
      cases argsD ws n (q + 5) <;> rfl
theorem callA_D : callA ws p = ((argsD ws (ix ws (p + 3)).toNat (p + 4)).map (Rw.call (ix ws (p + 1)) (ix ws (p + 2)))).map Rw.w := by
  unfold callA argsA
  rw [argsA_D]
  cases argsD ws (ix ws (p + 3)).toNat (p + 4) <;> rfl
theorem rowA_D : rowA ws p = (rowD ws p).map Rw.w := by
  unfold rowA rowD partsA
  by_cases k5 : ix ws p = 5
  · rw [k5, if_pos rfl, callA_D]
    rfl
  · rw [if_neg k5]
    by_cases k1 : ix ws p = 1
    · rw [if_pos k1, if_pos k1, termA_D]
      cases termD ws (p + 2) <;> rfl
    rw [if_neg k1, if_neg k1]
    by_cases k2 : ix ws p = 2
    · rw [if_pos k2, if_pos k2, termA_D, plainA_D]
      cases plainD ws (p + 2) <;> cases termD ws (p + 6) <;> rfl
    rw [if_neg k2, if_neg k2]
    by_cases k3 : ix ws p = 3
    · rw [if_pos k3, if_pos k3, plainA_D, plainA_D]
      cases plainD ws (p + 2) <;> cases plainD ws (p + 6) <;> rfl
    rw [if_neg k3, if_neg k3]
    by_cases k4 : ix ws p = 4
    · rw [if_pos k4, if_pos k4, plainA_D, plainA_D]
      cases plainD ws (p + 2) <;> cases plainD ws (p + 6) <;> rfl
    rw [if_neg k4, if_neg k4, if_neg k5]
    by_cases k6 : ix ws p = 6
    · rw [if_pos k6, if_pos k6]
      by_cases hb : 0 ≤ ix ws (p + 1) ∧ ix ws (p + 1) ≤ 5
      · rw [if_pos hb, dif_pos hb, termA_D, termA_D]
        have hn : ((ix ws (p + 1)).toNat : Int) = ix ws (p + 1) := by omega
        cases termD ws (p + 2) with
        | none => rfl
        | some x =>
          cases termD ws (p + 10) with
          | none => rfl
          | some y =>
            show some (W.tup [_, sgn (ix ws (p + 1)), _, _, _]) = some (W.tup [_, sgn ((ix ws (p + 1)).toNat : Int), _, _, _])
            rw [hn]
      · rw [if_neg hb, dif_neg hb]
        rfl
    rw [if_neg k6, if_neg k6]
    by_cases k7 : ix ws p = 7
    · rw [if_pos k7, if_pos k7]
      rfl
    rw [if_neg k7, if_neg k7]
    by_cases k8 : ix ws p = 8
    · rw [if_pos k8, if_pos k8]
      rfl
    rw [if_neg k8, if_neg k8, termA_D]
    cases termD ws (p + 1) <;> rfl
theorem plainD_at {x : Pl} (h : At ws p x.ws) : plainD ws p = some x := by
  cases x <;> simp only [Pl.ws, At] at h <;> obtain ⟨_, _, h1, _, _, h2, _, _, h3, _, _, h4, _⟩ := h <;> unfold plainD <;> rw [show p + 1 + 1 = p + 2 by omega] at h3 <;> rw [show p + 1 + 1 + 1 = p + 3 by omega] at h4 <;> simp [h1, h2, h3, h4]
theorem at_plainD {x : Pl} (h0 : 0 ≤ p) (hl : p + 4 ≤ ws.length) (h : plainD ws p = some x) : At ws p x.ws := by
  unfold plainD at h
  have e2 : p + 1 + 1 = p + 2 := by omega
  have e3 : p + 2 + 1 = p + 3 := by omega
  split at h
  · rename_i c
    cases h
    obtain ⟨c1, c2, c3⟩ := c
    simp only [Pl.ws, At, e2, e3, c1, c2, c3]
    simp; omega
  · split at h
    · rename_i c
      cases h
      obtain ⟨c1, c2⟩ := c
      simp only [Pl.ws, At, e2, e3, c1, c2]
      simp; omega
    · split at h
      · rename_i c
        cases h
        obtain ⟨c1, c2⟩ := c
        simp only [Pl.ws, At, e2, e3, c1, c2]
        simp; omega
      · cases h
theorem Pl.kind {x : Pl} (h : At ws p x.ws) : ix ws p ≠ 3 := by cases x <;> simp only [Pl.ws, At] at h <;> rw [h.2.2.1] <;> decide
theorem termD_at {x : Tm} (h : At ws p x.ws) : termD ws p = some x := by
  cases x with
  | pl x =>
    rw [Tm.ws, at_app, x.ws_len] at h
    obtain ⟨h1, h2⟩ := h
    unfold termD
    rw [if_neg (Pl.kind h1), plainD_at h1]
    simp only [At] at h2
    obtain ⟨_, _, z1, _, _, z2, _, _, z3, _, _, z4, _⟩ := h2
    rw [if_pos ⟨z1, by rw [← z2]; congr 1; omega, by rw [← z3]; congr 1; omega, by rw [← z4]; congr 1; omega⟩]
    rfl
  | cell a i d =>
    rw [Tm.ws, at_app] at h
    obtain ⟨h1, h2⟩ := h
    simp only [At] at h1
    obtain ⟨_, _, z1, _, _, z2, _, _, z3, _, _, z4, _⟩ := h1
    rw [show p + 1 + 1 = p + 2 by omega] at z3
    rw [show p + 1 + 1 + 1 = p + 3 by omega] at z4
    unfold termD
    rw [if_pos z1, if_pos z3, plainD_at (p := p + 4) h2, z2, z4]
    rfl
theorem at_termD {x : Tm} (h0 : 0 ≤ p) (hl : p + 8 ≤ ws.length) (h : termD ws p = some x) : At ws p x.ws := by
  unfold termD at h
  split at h
  · rename_i k3
    split at h
    · rename_i k2
      obtain ⟨i, ei, rfl⟩ := Option.map_eq_some_iff.mp h
      rw [Tm.ws, at_app]
      refine ⟨?_, at_plainD (p := p + 4) (by omega) (by omega) ei⟩
      simp only [At]
      rw [show p + 1 + 1 = p + 2 by omega, show p + 2 + 1 = p + 3 by omega, k3, k2]
      simp; omega
    · cases h
  · split at h
    · rename_i z
      obtain ⟨i, ei, rfl⟩ := Option.map_eq_some_iff.mp h
      rw [Tm.ws, at_app]
      refine ⟨at_plainD h0 (by omega) ei, ?_⟩
      rw [i.ws_len]
      simp only [At]
      rw [show p + (4 : Nat) + 1 + 1 + 1 = p + 7 by omega, show p + (4 : Nat) + 1 + 1 = p + 6 by omega, show p + (4 : Nat) + 1 = p + 5 by omega, show p + (4 : Nat) = p + 4 by omega, z.1, z.2.1, z.2.2.1, z.2.2.2]
      simp; omega
    · cases h
theorem argD_at {x : Ar} (h : At ws p x.ws) : argD ws p = some x := by
  cases x with
  | pl x =>
    simp only [Ar.ws, At] at h
    unfold argD
    rw [if_pos h.2.2.1, plainD_at h.2.2.2]
    rfl
  | lst b =>
    simp only [Ar.ws, At] at h
    obtain ⟨_, _, z1, _, _, z2, _, _, z3, _, _, z4, _, _, z5, _⟩ := h
    unfold argD
    rw [if_neg (by omega), if_pos ⟨z1, by rw [← z3]; congr 1; omega, by rw [← z4]; congr 1; omega, by rw [← z5]; congr 1; omega⟩, z2]
theorem at_argD {x : Ar} (h0 : 0 ≤ p) (hl : p + 5 ≤ ws.length) (h : argD ws p = some x) : At ws p x.ws := by
  unfold argD at h
  split at h
  · rename_i k
    obtain ⟨i, ei, rfl⟩ := Option.map_eq_some_iff.mp h
    exact ⟨h0, by omega, k, at_plainD (by omega) (by omega) ei⟩
  · split at h
    · rename_i z
      cases h
      simp only [Ar.ws, At]
      rw [show p + 1 + 1 + 1 + 1 = p + 4 by omega, show p + 1 + 1 + 1 = p + 3 by omega, show p + 1 + 1 = p + 2 by omega, z.1, z.2.1, z.2.2.1, z.2.2.2]
      simp; omega
    · cases h
theorem argsD_at : ∀ {l : List Ar} {p : Int}, At ws p (l.map Ar.ws).flatten → argsD ws l.length p = some l
  | [], p, _ => rfl
  | x :: l, p, h => by
    rw [List.map_cons, List.flatten_cons, at_app, x.ws_len] at h
    rw [List.length_cons, argsD, argD_at h.1]
    have := argsD_at h.2
    rw [show p + ((5 : Nat) : Int) = p + 5 by omega] at this
    rw [Option.bind_some, this]
    rfl
theorem at_argsD : ∀ {n : Nat} {l : List Ar} {p : Int}, 0 ≤ p → p + 5 * (n : Int) ≤ ws.length → argsD ws n p = some l → At ws p (l.map Ar.ws).flatten ∧ l.length = n
  | 0, l, p, h0, hl, h => by cases h; exact ⟨⟨h0, by omega⟩, rfl⟩
  | n + 1, l, p, h0, hl, h => by
    rw [argsD] at h
    obtain ⟨a, ea, h⟩ := Option.bind_eq_some_iff.mp h
    obtain ⟨l', el, rfl⟩ := Option.map_eq_some_iff.mp h
    obtain ⟨i, j⟩ := at_argsD (n := n) (p := p + 5) (by omega) (by omega) el
    refine ⟨?_, by rw [List.length_cons, j]⟩
    rw [List.map_cons, List.flatten_cons, at_app, a.ws_len]
    exact ⟨at_argD h0 (by omega) ea, i⟩
/-- the row that stands there -/
def Fits (ws : List Int) (p : Int) : Prop := 1 ≤ ix ws p ∧ ix ws p ≤ 9 ∧ (ix ws p = 5 → p + 4 ≤ ws.length ∧ 0 ≤ ix ws (p + 3) ∧ ix ws (p + 3) ≤ ws.length) ∧ p + sizeA ws p ≤ ws.length
instance : Decidable (Fits ws p) := by unfold Fits; exact inferInstance
def stepD (ws : List Int) (p : Int) : Option Rw := if Fits ws p then rowD ws p else none
theorem sgn_fin {i : Int} (h0 : 0 ≤ i) (h5 : i ≤ 5) : ((⟨i.toNat, by omega⟩ : Fin 6).val : Int) = i := by show (i.toNat : Int) = i; omega
theorem step_at {r : Rw} (h0 : 0 ≤ p) (h : stepD ws p = some r) : At ws p r.ws ∧ sizeA ws p = r.ws.length := by
  unfold stepD at h
  split at h
  · rename_i f
    obtain ⟨k1, k9, k5, hl⟩ := f
    have cs : ix ws p = 1 ∨ ix ws p = 2 ∨ ix ws p = 3 ∨ ix ws p = 4 ∨ ix ws p = 5 ∨ ix ws p = 6 ∨ ix ws p = 7 ∨ ix ws p = 8 ∨ ix ws p = 9 := by omega
    unfold rowD at h
    unfold sizeA at hl ⊢
    have e2 : p + 1 + 1 = p + 2 := by omega
    rcases cs with k | k | k | k | k | k | k | k | k
    · rw [k] at h hl ⊢
      simp at h hl
      obtain ⟨t, et, rfl⟩ := h
      simp only [Rw.ws, List.length_append, t.ws_len]
      simp
      exact ⟨h0, by omega, k, by omega, by omega, rfl, by rw [e2]; exact at_termD (by omega) (by omega) et⟩
    · rw [k] at h hl ⊢
      simp [Option.bind_eq_some_iff] at h hl
      obtain ⟨x, ex, t, et, rfl⟩ := h
      simp only [Rw.ws, List.length_append, t.ws_len, x.ws_len]
      simp
      refine ⟨h0, by omega, k, by omega, by omega, rfl, ?_⟩
      rw [e2, at_app, x.ws_len]
      exact ⟨at_plainD (by omega) (by omega) ex, at_termD (p := p + 2 + (4 : Nat)) (by omega) (by omega) (by rw [show p + 2 + ((4 : Nat) : Int) = p + 6 by omega]; exact et)⟩
    · rw [k] at h hl ⊢
      simp [Option.bind_eq_some_iff] at h hl
      obtain ⟨x, ex, y, ey, rfl⟩ := h
      simp only [Rw.ws, List.length_append, y.ws_len, x.ws_len]
      simp
      refine ⟨h0, by omega, k, by omega, by omega, rfl, ?_⟩
      rw [e2, at_app, x.ws_len]
      exact ⟨at_plainD (by omega) (by omega) ex, at_plainD (p := p + 2 + (4 : Nat)) (by omega) (by omega) (by rw [show p + 2 + ((4 : Nat) : Int) = p + 6 by omega]; exact ey)⟩
    · rw [k] at h hl ⊢
      simp [Option.bind_eq_some_iff] at h hl
      obtain ⟨x, ex, y, ey, rfl⟩ := h
      simp only [Rw.ws, List.length_append, y.ws_len, x.ws_len]
      simp
      refine ⟨h0, by omega, k, by omega, by omega, rfl, ?_⟩
      rw [e2, at_app, x.ws_len]
      exact ⟨at_plainD (by omega) (by omega) ex, at_plainD (p := p + 2 + (4 : Nat)) (by omega) (by omega) (by rw [show p + 2 + ((4 : Nat) : Int) = p + 6 by omega]; exact ey)⟩
    · obtain ⟨k51, k52, k53⟩ := k5 k
      rw [k] at h hl ⊢
      simp at h hl
      obtain ⟨l, el, rfl⟩ := h
      obtain ⟨al, ll⟩ := at_argsD (by omega) (by omega) el
      have ln : (l.length : Int) = ix ws (p + 3) := by omega
      simp only [Rw.ws, List.length_append, Ar.flat_len]
      simp
      refine ⟨⟨h0, by omega, k, by omega, by omega, rfl, by omega, by omega, by rw [e2], by omega, by omega, ?_, ?_⟩, by omega⟩
      · rw [ln]; congr 1; omega
      · rw [show p + 1 + 1 + 1 + 1 = p + 4 by omega]; exact al
    · rw [k] at h hl ⊢
      simp [Option.bind_eq_some_iff] at h hl
      obtain ⟨hb, x, ex, y, ey, rfl⟩ := h
      simp only [Rw.ws, List.length_append, y.ws_len, x.ws_len]
      simp
      refine ⟨h0, by omega, k, by omega, by omega, by omega, ?_⟩
      rw [e2, at_app, x.ws_len, at_app, y.ws_len]
      refine ⟨at_termD (by omega) (by omega) ex, at_termD (p := p + 2 + (8 : Nat)) (by omega) (by omega) (by rw [show p + 2 + ((8 : Nat) : Int) = p + 10 by omega]; exact ey), by omega, by omega, ?_, by omega, by omega⟩
      congr 1; omega
    · rw [k] at h hl ⊢
      simp at h hl
      subst h
      simp [Rw.ws, At]
      omega
    · rw [k] at h hl ⊢
      simp at h hl
      subst h
      simp [Rw.ws, At]
      omega
    · rw [k] at h hl ⊢
      simp at h hl
      obtain ⟨t, et, rfl⟩ := h
      simp only [Rw.ws, List.length_append, t.ws_len]
      simp
      exact ⟨h0, by omega, k, at_termD (by omega) (by omega) et⟩
  · cases h
theorem step_pos (h : Fits ws p) : stepD ws p = rowD ws p := if_pos h
theorem at_step {r : Rw} (h : At ws p r.ws) : stepD ws p = some r := by
  have hl := at_le _ _ h
  have e2 : p + 1 + 1 = p + 2 := by omega
  cases r with
  | set a t =>
    simp only [Rw.ws, List.cons_append, List.nil_append, At, List.length_cons, t.ws_len] at h hl
    obtain ⟨_, _, k, _, _, z1, h⟩ := h
    rw [e2] at h
    have f : Fits ws p := ⟨by omega, by omega, fun z => by omega, by unfold sizeA; rw [k]; simp; omega⟩
    rw [step_pos f]
    unfold rowD
    simp [k, z1, termD_at h]
  | put a x t =>
    simp only [Rw.ws, List.cons_append, List.nil_append, At, List.length_cons, List.length_append, t.ws_len, x.ws_len, at_app] at h hl
    obtain ⟨_, _, k, _, _, z1, h, h'⟩ := h
    rw [e2] at h h'
    rw [show p + 2 + ((4 : Nat) : Int) = p + 6 by omega] at h'
    have f : Fits ws p := ⟨by omega, by omega, fun z => by omega, by unfold sizeA; rw [k]; simp; omega⟩
    rw [step_pos f]
    unfold rowD
    simp [k, z1, plainD_at h, termD_at h']
  | swap a x t =>
    simp only [Rw.ws, List.cons_append, List.nil_append, At, List.length_cons, List.length_append, t.ws_len, x.ws_len, at_app] at h hl
    obtain ⟨_, _, k, _, _, z1, h, h'⟩ := h
    rw [e2] at h h'
    rw [show p + 2 + ((4 : Nat) : Int) = p + 6 by omega] at h'
    have f : Fits ws p := ⟨by omega, by omega, fun z => by omega, by unfold sizeA; rw [k]; simp; omega⟩
    rw [step_pos f]
    unfold rowD
    simp [k, z1, plainD_at h, plainD_at h']
  | choose a x t =>
    simp only [Rw.ws, List.cons_append, List.nil_append, At, List.length_cons, List.length_append, t.ws_len, x.ws_len, at_app] at h hl
    obtain ⟨_, _, k, _, _, z1, h, h'⟩ := h
    rw [e2] at h h'
    rw [show p + 2 + ((4 : Nat) : Int) = p + 6 by omega] at h'
    have f : Fits ws p := ⟨by omega, by omega, fun z => by omega, by unfold sizeA; rw [k]; simp; omega⟩
    rw [step_pos f]
    unfold rowD
    simp [k, z1, plainD_at h, plainD_at h']
  | call a b l =>
    simp only [Rw.ws, List.cons_append, List.nil_append, At, List.length_cons, List.length_append, Ar.flat_len] at h hl
    obtain ⟨_, _, k, _, _, z1, _, _, z2, _, _, z3, h⟩ := h
    rw [show p + 1 + 1 + 1 + 1 = p + 4 by omega] at h
    rw [show p + 1 + 1 + 1 = p + 3 by omega] at z3
    rw [e2] at z2
    have f : Fits ws p := ⟨by omega, by omega, fun z => by omega, by unfold sizeA; rw [k]; simp; omega⟩
    rw [step_pos f]
    unfold rowD
    simp [k, z1, z2, z3, argsD_at h]
  | test s x y g =>
    simp only [Rw.ws, List.cons_append, List.nil_append, At, List.length_cons, List.length_append, List.length_nil, y.ws_len, x.ws_len, at_app] at h hl
    obtain ⟨_, _, k, _, _, z1, h, h', _, _, z2, _⟩ := h
    rw [e2] at h h' z2
    rw [show p + 2 + ((8 : Nat) : Int) = p + 10 by omega] at h' z2
    rw [show p + 10 + ((8 : Nat) : Int) = p + 18 by omega] at z2
    have f : Fits ws p := ⟨by omega, by omega, fun z => by omega, by unfold sizeA; rw [k]; simp; omega⟩
    rw [step_pos f]
    unfold rowD
    have s6 := s.isLt
    have hb : 0 ≤ ix ws (p + 1) ∧ ix ws (p + 1) ≤ 5 := by omega
    have es : (⟨(ix ws (p + 1)).toNat, by omega⟩ : Fin 6) = s := Fin.ext (by show (ix ws (p + 1)).toNat = s.val; omega)
    rw [dif_pos hb, termD_at h, termD_at h', z2, es]
    simp [k]
  | jump g =>
    simp only [Rw.ws, At, List.length_cons, List.length_nil] at h hl
    obtain ⟨_, _, k, _, _, z1, _⟩ := h
    have f : Fits ws p := ⟨by omega, by omega, fun z => by omega, by unfold sizeA; rw [k]; simp; omega⟩
    rw [step_pos f]
    unfold rowD
    simp [k, z1]
  | fail g =>
    simp only [Rw.ws, At, List.length_cons, List.length_nil] at h hl
    obtain ⟨_, _, k, _, _, z1, _⟩ := h
    have f : Fits ws p := ⟨by omega, by omega, fun z => by omega, by unfold sizeA; rw [k]; simp; omega⟩
    rw [step_pos f]
    unfold rowD
    simp [k, z1]
  | ret t =>
    simp only [Rw.ws, List.cons_append, List.nil_append, At, List.length_cons, t.ws_len] at h hl
    obtain ⟨_, _, k, h⟩ := h
    have f : Fits ws p := ⟨by omega, by omega, fun z => by omega, by unfold sizeA; rw [k]; simp; omega⟩
    rw [step_pos f]
    unfold rowD
    simp [k, termD_at h]
/-! ### all rows -/
def flat (rs : List Rw) : List Int := (rs.map Rw.ws).flatten
theorem flat_cons (r : Rw) (rs : List Rw) : flat (r :: rs) = r.ws ++ flat rs := rfl
theorem Rw.ws_pos (r : Rw) : 2 ≤ r.ws.length := by
  cases r <;> simp [Rw.ws, Tm.ws_len, Pl.ws_len]
def parseD (ws : List Int) : Nat → Int → Option (List Rw)
  | 0, p => if p = ws.length then some [] else none
  | n + 1, p => if p = ws.length then some [] else (stepD ws p).bind fun r => (parseD ws n (p + r.ws.length)).map (r :: ·)
def offs : Int → List Rw → List Int
  | _, [] => []
  | p, r :: rs => p :: offs (p + r.ws.length) rs
theorem parse_at : ∀ {n : Nat} {p : Int} {rs : List Rw}, 0 ≤ p → parseD ws n p = some rs → At ws p (flat rs) ∧ p + (flat rs).length = ws.length
  | 0, p, rs, h0, h => by
    unfold parseD at h
    split at h
    · cases h
      exact ⟨⟨h0, by omega⟩, by simp [flat]; omega⟩
    · cases h
  | n + 1, p, rs, h0, h => by
    unfold parseD at h
    split at h
    · cases h
      exact ⟨⟨h0, by omega⟩, by simp [flat]; omega⟩
    · obtain ⟨r, er, h⟩ := Option.bind_eq_some_iff.mp h
      obtain ⟨rs', e', rfl⟩ := Option.map_eq_some_iff.mp h
      obtain ⟨i, j⟩ := parse_at (n := n) (p := p + r.ws.length) (by omega) e'
      rw [flat_cons, at_app]
      exact ⟨⟨(step_at h0 er).1, i⟩, by rw [List.length_append]; omega⟩
theorem at_parse : ∀ {n : Nat} {p : Int} {rs : List Rw}, ws.length ≤ p + n → At ws p (flat rs) → p + (flat rs).length = ws.length → parseD ws n p = some rs
  | n, p, [], hn, _, h => by
    have : p = ws.length := by simp [flat] at h; omega
    cases n <;> rw [parseD, if_pos this]
  | 0, p, r :: rs, hn, ha, h => by
    have := r.ws_pos
    rw [flat_cons, List.length_append] at h
    omega
  | n + 1, p, r :: rs, hn, ha, h => by
    have := r.ws_pos
    rw [flat_cons, List.length_append] at h
    rw [flat_cons, at_app] at ha
    rw [parseD, if_neg (by omega), at_step ha.1, Option.bind_some, at_parse (n := n) (by omega) ha.2 (by omega)]
    rfl
theorem at_self : ∀ (pre l : List Int), At (pre ++ l) pre.length l
  | pre, [] => ⟨by omega, by simp⟩
  | pre, a :: l => by
    refine ⟨by omega, by simp; omega, ?_, ?_⟩
    · unfold ix
      simp
    · have := at_self (pre ++ [a]) l
      rw [List.append_assoc, List.singleton_append, List.length_append] at this
      exact this
theorem parse_flat (rs : List Rw) (n : Nat) (hn : (flat rs).length ≤ n) : parseD (flat rs) n 0 = some rs := at_parse (by omega) (at_self [] (flat rs)) (by omega)
theorem at_eq : ∀ (l : List Int) (p : Int) , At ws p l → p + l.length = ws.length → ws.drop p.toNat = l
  | [], p, h, e => by
    rw [List.drop_eq_nil_iff]
    simp at e
    omega
  | a :: l, p, h, e => by
    obtain ⟨h0, h1, h2, h3⟩ := h
    have := at_eq l (p + 1) h3 (by simp at e; omega)
    have hp : p.toNat < ws.length := by omega
    have e1 : ws[p.toNat] = a := by
      rw [← h2]
      unfold ix
      rw [List.getD_eq_getElem?_getD, List.getElem?_eq_getElem hp]
      rfl
    rw [show (p + 1).toNat = p.toNat + 1 by omega] at this
    rw [List.drop_eq_getElem_cons hp, this, e1]
theorem flat_parse {rs : List Rw} {n : Nat} (h : parseD ws n 0 = some rs) : flat rs = ws := by
  obtain ⟨a, b⟩ := parse_at (by omega) h
  have := at_eq _ _ a b
  simpa using this.symm
/-! ### targets -/
def Rw.tg : Rw → Option Int
  | .test _ _ _ g => some g
  | .jump g => some g
  | _ => none
def Rw.mapT (f : Int → Int) : Rw → Rw
  | .test s x y g => .test s x y (f g)
  | .jump g => .jump (f g)
  | r => r
theorem Rw.mapT_len (f : Int → Int) (r : Rw) : (r.mapT f).ws.length = r.ws.length := by cases r <;> simp [Rw.mapT, Rw.ws]
theorem Rw.mapT_mapT (f g : Int → Int) (r : Rw) : (r.mapT g).mapT f = r.mapT (fun t => f (g t)) := by cases r <;> rfl
theorem Rw.mapT_tg (f : Int → Int) (r : Rw) : (r.mapT f).tg = r.tg.map f := by cases r <;> rfl
theorem Rw.mapT_id {f : Int → Int} {r : Rw} (h : ∀ t, r.tg = some t → f t = t) : r.mapT f = r := by
  cases r with
  | test s x y g => rw [Rw.mapT, h g rfl]
  | jump g => rw [Rw.mapT, h g rfl]
  | _ => rfl
theorem offs_map (f : Int → Int) : ∀ (rs : List Rw) (p : Int), offs p (rs.map (Rw.mapT f)) = offs p rs
  | [], _ => rfl
  | r :: rs, p => by rw [List.map_cons, offs, offs, Rw.mapT_len, offs_map f rs]
theorem offs_len : ∀ (rs : List Rw) (p : Int), (offs p rs).length = rs.length
  | [], _ => rfl
  | r :: rs, p => by rw [offs, List.length_cons, offs_len rs, List.length_cons]
theorem offs_ge : ∀ (rs : List Rw) (p : Int), ∀ x ∈ offs p rs, p ≤ x
  | [], _, x, h => by cases h
  | r :: rs, p, x, h => by
    rw [offs] at h
    rcases List.mem_cons.mp h with rfl | h
    · omega
    · have := offs_ge rs _ x h
      omega
theorem offs_nodup : ∀ (rs : List Rw) (p : Int), (offs p rs).Nodup
  | [], _ => List.nodup_nil
  | r :: rs, p => by
    rw [offs, List.nodup_cons]
    refine ⟨fun h => ?_, offs_nodup rs _⟩
    have := offs_ge rs _ _ h
    have := r.ws_pos
    omega
theorem offs_lt : ∀ (rs : List Rw) (p : Int), ∀ x ∈ offs p rs, x < p + (flat rs).length
  | [], _, x, h => by cases h
  | r :: rs, p, x, h => by
    rw [offs] at h
    rw [flat_cons, List.length_append]
    have := r.ws_pos
    rcases List.mem_cons.mp h with rfl | h
    · omega
    · have := offs_lt rs _ x h
      omega
/-- which place, and which row -/
def pl (st : List Int) (g : Int) : Int := st.getD g.toNat 0
def nr (st : List Int) (t : Int) : Int := (st.idxOf t : Nat)
theorem pl_nr {st : List Int} {t : Int} (h : t ∈ st) : pl st (nr st t) = t := by
  unfold pl nr
  have hl := List.idxOf_lt_length_of_mem h
  rw [Int.toNat_natCast, List.getD_eq_getElem?_getD, List.getElem?_eq_getElem hl, Option.getD_some]
  exact List.getElem_idxOf hl
theorem nr_pl {st : List Int} (hn : st.Nodup) {g : Int} (h0 : 0 ≤ g) (hg : g < st.length) : nr st (pl st g) = g := by
  unfold pl nr
  rw [List.getD_eq_getElem?_getD, List.getElem?_eq_getElem (by omega), Option.getD_some]
  rw [hn.idxOf_getElem _ (by omega)]
  omega
theorem pl_mem {st : List Int} {g : Int} (h0 : 0 ≤ g) (hg : g < st.length) : pl st g ∈ st := by
  unfold pl
  rw [List.getD_eq_getElem?_getD, List.getElem?_eq_getElem (by omega), Option.getD_some]
  exact List.getElem_mem _
/-- the body of rows that are read -/
def bodyD (rs : List Rw) : Option (List Rw) := if ∀ r ∈ rs, ∀ t, r.tg = some t → t ∈ offs 0 rs then some (rs.map (Rw.mapT (nr (offs 0 rs)))) else none
/-- the words of a body -/
def wordsD (b : List Rw) : List Int := flat (b.map (Rw.mapT (pl (offs 0 b))))
theorem words_body {rs b : List Rw} (h : bodyD rs = some b) : wordsD b = flat rs := by
  unfold bodyD at h
  split at h
  · rename_i ht
    cases h
    unfold wordsD
    rw [offs_map, List.map_map]
    congr 1
    conv => rhs; rw [← List.map_id rs]
    refine List.map_congr_left fun r hr => ?_
    show (r.mapT _).mapT _ = r
    rw [Rw.mapT_mapT]
    exact Rw.mapT_id fun t e => pl_nr (ht r hr t e)
  · cases h
theorem body_words {b : List Rw} (h : ∀ r ∈ b, ∀ t, r.tg = some t → 0 ≤ t ∧ t < b.length) : bodyD (b.map (Rw.mapT (pl (offs 0 b)))) = some b := by
  unfold bodyD
  rw [offs_map]
  rw [if_pos]
  · congr 1
    rw [List.map_map]
    conv => rhs; rw [← List.map_id b]
    refine List.map_congr_left fun r hr => ?_
    show (r.mapT _).mapT _ = r
    rw [Rw.mapT_mapT]
    refine Rw.mapT_id fun t e => ?_
    obtain ⟨a, c⟩ := h r hr t e
    exact nr_pl (offs_nodup _ _) a (by rw [offs_len]; exact c)
  · intro r hr t e
    obtain ⟨r', hr', rfl⟩ := List.mem_map.mp hr
    rw [Rw.mapT_tg] at e
    obtain ⟨g, eg, rfl⟩ := Option.map_eq_some_iff.mp e
    obtain ⟨a, c⟩ := h r' hr' g eg
    exact pl_mem a (by rw [offs_len]; exact c)
end
end Lw

set_option Elab.async false
set_option linter.all false
set_option maxRecDepth 100000
namespace Lw
open PySem PySem.Spec PyProof.Rows L2 Fn
section
variable {G : GH} {ws : List Int} {p q : Int}
theorem termA_is : (termA ws p).isSome = (termD ws p).isSome := by rw [termA_D, Option.isSome_map]
theorem plainA_is : (plainA ws p).isSome = (plainD ws p).isSome := by rw [plainA_D, Option.isSome_map]
theorem argA_is : (argA ws p).isSome = (argD ws p).isSome := by rw [argA_D, Option.isSome_map]
theorem goes_args : ∀ (n : Nat) (q : Int), 0 ≤ q → q ≤ ws.length → goes ws q (List.replicate n .a) = (decide (q + 5 * (n : Int) ≤ ws.length) && (argsD ws n q).isSome)
  | 0, q, h0, h => by
    rw [List.replicate_zero, goes, argsD]
    simp; omega
  | n + 1, q, h0, h => by
    rw [List.replicate_succ, argsD, show goes ws q (Lt.a :: List.replicate n .a) = ((decide (q + 5 ≤ ws.length) && (argA ws q).isSome) && goes ws (q + 5) (List.replicate n .a)) from rfl, argA_is]
    by_cases hq : q + 5 ≤ ws.length
    · rw [goes_args n (q + 5) (by omega) hq, decide_eq_true hq, show q + 5 + 5 * (n : Int) = q + 5 * ((n + 1 : Nat) : Int) by omega]
      cases argD ws q with
      | none => simp
      | some a => simp
    · rw [decide_eq_false hq, decide_eq_false (show ¬ q + 5 * ((n + 1 : Nat) : Int) ≤ ws.length by omega)]
      simp
theorem total_args : ∀ n : Nat, total (List.replicate n .a) = 5 * (n : Int)
  | 0 => rfl
  | n + 1 => by rw [List.replicate_succ, total, total_args n]; simp only [Lt.sz]; omega
theorem argsD_len {n : Nat} {l : List Ar} : argsD ws n q = some l → l.length = n := by
  induction n generalizing q l with
  | zero => intro h; cases h; rfl
  | succ n ih =>
    intro h
    rw [argsD] at h
    obtain ⟨a, ea, h⟩ := Option.bind_eq_some_iff.mp h
    obtain ⟨l', el, rfl⟩ := Option.map_eq_some_iff.mp h
    rw [List.length_cons, ih el]
theorem fits_iff {k : Int} (hk : ix ws p = k) (h1 : 1 ≤ k) (h9 : k ≤ 9) (n5 : k ≠ 5) : Fits ws p ↔ p + sizeA ws p ≤ ws.length :=
  ⟨fun z => z.2.2.2, fun z => ⟨by omega, by omega, fun e => by omega, z⟩⟩
theorem step_neg (h : ¬ Fits ws p) : stepD ws p = none := if_neg h
theorem behind_step (h0 : 0 ≤ p) (hp : p < ws.length) : behindA ws p = match stepD ws p with
    | some r => .int (p + r.ws.length)
    | none => .non := by
  have e2 : p + 1 + 1 = p + 2 := by omega
  have e6 : p + 2 + 4 = p + 6 := by omega
  have e9 : p + 1 + 8 = p + 9 := by omega
  have e10 : p + 2 + 8 = p + 10 := by omega
  have e18 : p + 10 + 8 = p + 18 := by omega
  unfold behindA
  by_cases hk : 1 ≤ ix ws p ∧ ix ws p ≤ 9
  · have cs : ix ws p = 1 ∨ ix ws p = 2 ∨ ix ws p = 3 ∨ ix ws p = 4 ∨ ix ws p = 5 ∨ ix ws p = 6 ∨ ix ws p = 7 ∨ ix ws p = 8 ∨ ix ws p = 9 := by omega
    unfold formOf
    rcases cs with k | k | k | k | k | k | k | k | k
    · have fi : Fits ws p ↔ p + 10 ≤ ws.length := by rw [fits_iff k (by omega) (by omega) (by omega)]; unfold sizeA; simp [k]
      by_cases hl : p + 10 ≤ ws.length
      · rw [step_pos (fi.mpr hl)]
        unfold rowD
        simp [k, goes, total, Lt.sz, Lt.ok, termA_is, plainA_is, e2, e6, e10, e18, e9]
        cases ht : termD ws (p + 2) with
        | none => simp
        | some t => simp [Rw.ws, t.ws_len]; first | omega | (rw [if_pos (by omega)]; congr 1; omega)
      · rw [step_neg fun z => hl (fi.mp z)]
        simp [k, goes, total, Lt.sz, Lt.ok, termA_is, plainA_is, e2, e6, e10, e18, e9]
        try first | omega | (intro h; simp at h; omega)
    · have fi : Fits ws p ↔ p + 14 ≤ ws.length := by rw [fits_iff k (by omega) (by omega) (by omega)]; unfold sizeA; simp [k]
      by_cases hl : p + 14 ≤ ws.length
      · rw [step_pos (fi.mpr hl)]
        unfold rowD
        simp [k, goes, total, Lt.sz, Lt.ok, termA_is, plainA_is, e2, e6, e10, e18, e9]
        cases hx : plainD ws (p + 2) with
        | none => simp
        | some x =>
          cases ht : termD ws (p + 6) with
          | none => simp
          | some t => simp [Rw.ws, t.ws_len, x.ws_len]; first | omega | (rw [if_pos (by omega)]; congr 1; omega)
      · rw [step_neg fun z => hl (fi.mp z)]
        simp [k, goes, total, Lt.sz, Lt.ok, termA_is, plainA_is, e2, e6, e10, e18, e9]
        try first | omega | (intro h; simp at h; omega)
    · have fi : Fits ws p ↔ p + 10 ≤ ws.length := by rw [fits_iff k (by omega) (by omega) (by omega)]; unfold sizeA; simp [k]
      by_cases hl : p + 10 ≤ ws.length
      · rw [step_pos (fi.mpr hl)]
        unfold rowD
        simp [k, goes, total, Lt.sz, Lt.ok, termA_is, plainA_is, e2, e6, e10, e18, e9]
        cases hx : plainD ws (p + 2) with
        | none => simp
        | some x =>
          cases ht : plainD ws (p + 6) with
          | none => simp
          | some t => simp [Rw.ws, t.ws_len, x.ws_len]; first | omega | (rw [if_pos (by omega)]; congr 1; omega)
      · rw [step_neg fun z => hl (fi.mp z)]
        simp [k, goes, total, Lt.sz, Lt.ok, termA_is, plainA_is, e2, e6, e10, e18, e9]
        try first | omega | (intro h; simp at h; omega)
    · have fi : Fits ws p ↔ p + 10 ≤ ws.length := by rw [fits_iff k (by omega) (by omega) (by omega)]; unfold sizeA; simp [k]
      by_cases hl : p + 10 ≤ ws.length
      · rw [step_pos (fi.mpr hl)]
        unfold rowD
        simp [k, goes, total, Lt.sz, Lt.ok, termA_is, plainA_is, e2, e6, e10, e18, e9]
        cases hx : plainD ws (p + 2) with
        | none => simp
        | some x =>
          cases ht : plainD ws (p + 6) with
          | none => simp
          | some t => simp [Rw.ws, t.ws_len, x.ws_len]; first | omega | (rw [if_pos (by omega)]; congr 1; omega)
      · rw [step_neg fun z => hl (fi.mp z)]
        simp [k, goes, total, Lt.sz, Lt.ok, termA_is, plainA_is, e2, e6, e10, e18, e9]
        try first | omega | (intro h; simp at h; omega)
    · rw [k]
      simp only [show ¬ (5 : Int) = 1 by decide, show ¬ (5 : Int) = 2 by decide, show ¬ (5 : Int) = 3 by decide, show ¬ (5 : Int) = 4 by decide, if_false, if_true]
      by_cases hc : p + 3 < ws.length ∧ 0 ≤ ix ws (p + 3) ∧ ix ws (p + 3) ≤ ws.length
      · rw [if_pos hc]
        obtain ⟨n, hn⟩ := Int.eq_ofNat_of_zero_le hc.2.1
        have fi : Fits ws p ↔ p + (4 + 5 * (n : Int)) ≤ ws.length := by
          unfold Fits sizeA
          rw [k, hn]
          simp; omega
        rw [hn, Int.toNat_natCast]
        have eg : goes ws (p + 1) ([.n, .n, .n] ++ List.replicate n .a) = goes ws (p + 4) (List.replicate n .a) := by
          show (decide (p + 1 + 1 ≤ ws.length) && true && (decide (p + 1 + 1 + 1 ≤ ws.length) && true && (decide (p + 1 + 1 + 1 + 1 ≤ ws.length) && true && goes ws (p + 1 + 1 + 1 + 1) (List.replicate n .a)))) = _
          rw [decide_eq_true (by omega : p + 1 + 1 ≤ (ws.length : Int)), decide_eq_true (by omega : p + 1 + 1 + 1 ≤ (ws.length : Int)), decide_eq_true (by omega : p + 1 + 1 + 1 + 1 ≤ (ws.length : Int)), show p + 1 + 1 + 1 + 1 = p + 4 by omega]
          rfl
        have et : total ([.n, .n, .n] ++ List.replicate n .a) = 3 + 5 * (n : Int) := by
          show 1 + (1 + (1 + total (List.replicate n .a))) = _
          rw [total_args]
          omega
        simp only []
        rw [eg, et, goes_args n (p + 4) (by omega) (by omega)]
        by_cases hl : p + (4 + 5 * (n : Int)) ≤ ws.length
        · rw [step_pos (fi.mpr hl)]
          unfold rowD
          rw [k, hn, Int.toNat_natCast]
          cases ha : argsD ws n (p + 4) with
          | none => simp
          | some l =>
            have ll := argsD_len ha
            have lw : ((Rw.call (ix ws (p + 1)) (ix ws (p + 2)) l).ws.length : Int) = 4 + 5 * (n : Int) := by
              simp only [Rw.ws, List.length_append, Ar.flat_len, ll, List.length_cons, List.length_nil]
              omega
            show (if (decide (p + 4 + 5 * (n : Int) ≤ ws.length) && true) = true then W.int (p + 1 + (3 + 5 * (n : Int))) else .non) = .int (p + ((Rw.call (ix ws (p + 1)) (ix ws (p + 2)) l).ws.length : Int))
            rw [lw, if_pos (by simp; omega)]
            congr 1; omega
        · rw [step_neg fun z => hl (fi.mp z), if_neg (by simp; omega)]
      · rw [if_neg hc, step_neg fun z => hc ⟨by have := (z.2.2.1 k).1; omega, (z.2.2.1 k).2⟩]
    · have fi : Fits ws p ↔ p + 19 ≤ ws.length := by rw [fits_iff k (by omega) (by omega) (by omega)]; unfold sizeA; simp [k]
      by_cases hl : p + 19 ≤ ws.length
      · rw [step_pos (fi.mpr hl)]
        unfold rowD
        simp [k, goes, total, Lt.sz, Lt.ok, termA_is, plainA_is, e2, e6, e10, e18, e9]
        by_cases hs : 0 ≤ ix ws (p + 1) ∧ ix ws (p + 1) ≤ 5
        · rw [dif_pos hs]
          cases hx : termD ws (p + 2) with
          | none => simp
          | some x =>
            cases ht : termD ws (p + 10) with
            | none => simp
            | some t =>
              simp [Rw.ws, t.ws_len, x.ws_len]
              rw [if_pos (by omega)]
              congr 1; omega
        · rw [dif_neg hs]
          simp
          omega
      · rw [step_neg fun z => hl (fi.mp z)]
        simp [k, goes, total, Lt.sz, Lt.ok, termA_is, plainA_is, e2, e6, e10, e18, e9]
        try first | omega | (intro h; simp at h; omega)
    · have fi : Fits ws p ↔ p + 2 ≤ ws.length := by rw [fits_iff k (by omega) (by omega) (by omega)]; unfold sizeA; simp [k]
      by_cases hl : p + 2 ≤ ws.length
      · rw [step_pos (fi.mpr hl)]
        unfold rowD
        simp [k, goes, total, Lt.sz, Lt.ok, termA_is, plainA_is, e2, e6, e10, e18, e9]
        simp [Rw.ws]; try omega
      · rw [step_neg fun z => hl (fi.mp z)]
        simp [k, goes, total, Lt.sz, Lt.ok, termA_is, plainA_is, e2, e6, e10, e18, e9]
        try first | omega | (intro h; simp at h; omega)
    · have fi : Fits ws p ↔ p + 2 ≤ ws.length := by rw [fits_iff k (by omega) (by omega) (by omega)]; unfold sizeA; simp [k]
      by_cases hl : p + 2 ≤ ws.length
      · rw [step_pos (fi.mpr hl)]
        unfold rowD
        simp [k, goes, total, Lt.sz, Lt.ok, termA_is, plainA_is, e2, e6, e10, e18, e9]
        simp [Rw.ws]; try omega
      · rw [step_neg fun z => hl (fi.mp z)]
        simp [k, goes, total, Lt.sz, Lt.ok, termA_is, plainA_is, e2, e6, e10, e18, e9]
        try first | omega | (intro h; simp at h; omega)
    · have fi : Fits ws p ↔ p + 9 ≤ ws.length := by rw [fits_iff k (by omega) (by omega) (by omega)]; unfold sizeA; simp [k]
      by_cases hl : p + 9 ≤ ws.length
      · rw [step_pos (fi.mpr hl)]
        unfold rowD
        simp [k, goes, total, Lt.sz, Lt.ok, termA_is, plainA_is, e2, e6, e10, e18, e9]
        cases ht : termD ws (p + 1) with
        | none => simp
        | some t => simp [Rw.ws, t.ws_len]; first | omega | (rw [if_pos (by omega)]; congr 1; omega)
      · rw [step_neg fun z => hl (fi.mp z)]
        simp [k, goes, total, Lt.sz, Lt.ok, termA_is, plainA_is, e2, e6, e10, e18, e9]
        try first | omega | (intro h; simp at h; omega)
  · have hf : formOf ws p = none := by
      unfold formOf
      rw [if_neg (by omega), if_neg (by omega), if_neg (by omega), if_neg (by omega), if_neg (by omega), if_neg (by omega), if_neg (by omega), if_neg (by omega), if_neg (by omega)]
    rw [hf, step_neg (fun z => hk ⟨z.1, z.2.1⟩)]
end
end Lw

set_option Elab.async false
set_option linter.all false
set_option maxRecDepth 100000
namespace Lw
open PySem PySem.Spec PyProof.Rows L2 Fn
section
variable {G : GH} {ws : List Int} {p q : Int}
def iws (l : List Int) : List W := l.map W.int
theorem iws_len (l : List Int) : (iws l).length = l.length := by unfold iws; rw [List.length_map]
theorem iws_app (l l' : List Int) : iws (l ++ l') = iws l ++ iws l' := by unfold iws; rw [List.map_append]
theorem rows_turn {n : Nat} {acc : List Int} (hG : G.at_ n = some (.lst (iws acc))) (ha : acc.length < 1000000) (h0 : 0 ≤ p) (hp : p < ws.length) (hz : ws.length ≤ 100000) :
    t_rows_of_words_3 [some (tw ws), some (.ref n), some (.int p)] G = match stepD ws p with
      | some r => .nx [some (tw ws), some (.ref n), some (.int (p + r.ws.length))] (G.set n (.lst (iws (acc ++ [p]))))
      | none => .rt .non (G.set n (.lst (iws (acc ++ [p])))) := by
  unfold t_rows_of_words_3 t_rows_of_words_2 t_rows_of_words_1
  have ap := mAppend_at (w := .int p) hG (by rw [iws_len]; exact ha)
  have ty := isTy_at hG
  have bo := behind_ok (G := G.set n (.lst (iws (acc ++ [p])))) h0 hp hz
  rw [behind_step h0 hp] at bo
  rw [show iws acc ++ [W.int p] = iws (acc ++ [p]) from (iws_app acc [p]).symm] at ap
  cases hs : stepD ws p with
  | none =>
    rw [hs] at bo
    dsimp only at bo
    simp [ty, ap, bo]
  | some r =>
    rw [hs] at bo
    dsimp only at bo
    simp [ty, ap, bo]
theorem rows_while {n : Nat} (hz : ws.length ≤ 100000) : ∀ (k : Nat) (p : Int) (acc : List Int) (G : GH), G.at_ n = some (.lst (iws acc)) → acc.length ≤ p → p ≤ ws.length → ws.length ≤ p + k →
    match parseD ws k p with
    | some rs => gWhile (gTest (gOp fLt (gVar 2) (gCall cLen (gCons (gVar 0) gNil)))) t_rows_of_words_3 [some (tw ws), some (.ref n), some (.int p)] G = .nx [some (tw ws), some (.ref n), some (.int ws.length)] (G.set n (.lst (iws (acc ++ offs p rs))))
    | none => ∃ u, gWhile (gTest (gOp fLt (gVar 2) (gCall cLen (gCons (gVar 0) gNil)))) t_rows_of_words_3 [some (tw ws), some (.ref n), some (.int p)] G = .rt .non (G.set n u)
  | k, p, acc, G, hG, ha, hp, hk => by
    by_cases e : p = ws.length
    · have : parseD ws k p = some [] := by cases k <;> rw [parseD, if_pos e]
      rw [this]
      dsimp only
      rw [gWhile_eq, offs, List.append_nil, set_self hG, ← e]
      simp [e]
    · cases k with
      | zero => omega
      | succ k =>
        have tn := rows_turn (p := p) hG (by omega) (by omega) (by omega) hz
        rw [parseD, if_neg e]
        cases hs : stepD ws p with
        | none =>
          rw [hs] at tn
          dsimp only at tn
          have hlt : p < (ws.length : Int) := by omega
          refine ⟨.lst (iws (acc ++ [p])), ?_⟩
          rw [gWhile_eq]
          simp [hlt, tn]
        | some r =>
          rw [hs] at tn
          dsimp only at tn
          have hlt : p < (ws.length : Int) := by omega
          have at1 := step_at (p := p) (by omega) hs
          have le1 := at_le _ _ at1.1
          have := r.ws_pos
          have ih := rows_while hz k (p + r.ws.length) (acc ++ [p]) (G.set n (.lst (iws (acc ++ [p])))) set_same (by simp; omega) (by omega) (by omega)
          have step : gWhile (gTest (gOp fLt (gVar 2) (gCall cLen (gCons (gVar 0) gNil)))) t_rows_of_words_3 [some (tw ws), some (.ref n), some (.int p)] G = gWhile (gTest (gOp fLt (gVar 2) (gCall cLen (gCons (gVar 0) gNil)))) t_rows_of_words_3 [some (tw ws), some (.ref n), some (.int (p + r.ws.length))] (G.set n (.lst (iws (acc ++ [p])))) := by
            rw [gWhile_eq]
            simp [hlt, tn]
          rw [step, Option.bind_some]
          cases hq : parseD ws k (p + r.ws.length) with
          | none =>
            rw [hq] at ih
            obtain ⟨u, eu⟩ := ih
            exact ⟨u, by rw [eu, set_set]⟩
          | some rs =>
            rw [hq] at ih
            dsimp only at ih
            show gWhile _ _ _ _ = RS.nx _ (G.set n (.lst (iws (acc ++ offs p (r :: rs)))))
            rw [ih, set_set, offs, List.append_assoc]
            rfl
theorem push_set {o u : AO} : (G.push o).set G.n u = G.push u := by
  unfold GH.push GH.set
  congr 1
  funext j
  simp only
  split <;> rfl
theorem rows_ok (hz : ws.length ≤ 100000) : match parseD ws ws.length 0 with
    | some rs => f_rows_of_words [tw ws] G = .ok (.ref G.n) (G.push (.lst (iws (offs 0 rs))))
    | none => ∃ u, f_rows_of_words [tw ws] G = .ok .non (G.push u) := by
  have w := rows_while (n := G.n) hz ws.length 0 [] (G.push (.lst [])) push_same (by simp) (by omega) (by omega)
  have e : f_rows_of_words [tw ws] G = (t_rows_of_words_5 [some (tw ws), some (.ref G.n), some (.int 0)] (G.push (.lst []))).fin.calm := by
    rw [e_rows_of_words]
    unfold b_rows_of_words t_rows_of_words_8 t_rows_of_words_7 t_rows_of_words_6
    simp [lens]
  rw [e]
  unfold t_rows_of_words_5 t_rows_of_words_4
  cases hq : parseD ws ws.length 0 with
  | none =>
    rw [hq] at w
    obtain ⟨u, eu⟩ := w
    refine ⟨u, ?_⟩
    rw [gSeq_ev, eu, push_set]
    rfl
  | some rs =>
    rw [hq] at w
    dsimp only
    dsimp only at w
    rw [gSeq_ev, w, push_set]
    rfl
end
end Lw

set_option Elab.async false
set_option linter.all false
set_option maxRecDepth 100000
namespace Lw
open PySem PySem.Spec PyProof.Rows L2 Fn
section
variable {G : GH} {ws : List Int} {p q : Int}
theorem at_ix {a : Int} {l : List Int} (h : At ws p (a :: l)) : L2.atI (ws.map W.int) p = some (.int a) := by
  obtain ⟨h0, h1, h2, _⟩ := h
  rw [ix_ok h0 h1, h2]
theorem at_tl {a : Int} {l : List Int} (h : At ws p (a :: l)) : At ws (p + 1) l := h.2.2.2
def tgW (r : Rw) : W := oW (r.tg.map .int)
theorem target_ok {r : Rw} (h : At ws p r.ws) : f_target_place [tw ws, .int p] G = .ok (tgW r) G := by
  rw [e_target_place]
  unfold b_target_place t_target_place_2 t_target_place_1
  have e2 : p + 1 + 1 = p + 2 := by omega
  have mu := fMul_i (G := G) (i := 2) (j := 8) (.inl (by decide))
  cases r with
  | test s x y g =>
    have h' := h
    simp only [Rw.ws, List.cons_append, List.nil_append, At, x.ws_len, y.ws_len, at_app] at h'
    obtain ⟨_, _, k, _, _, z1, _, _, a, b, z2, _⟩ := h'
    have i0 := at_ix h
    rw [show p + 1 + 1 + ((8 : Nat) : Int) + ((8 : Nat) : Int) = p + 2 + 16 by omega] at a b z2
    have i2 := ix_ok a b
    rw [z2] at i2
    simp [i0, mu, i2, tgW, Rw.tg, oW]
  | jump g =>
    have i0 := at_ix h
    have i1 := at_ix (at_tl h)
    simp [i0, i1, tgW, Rw.tg, oW]
  | _ =>
    have i0 := at_ix h
    simp [i0, tgW, Rw.tg, oW]
theorem plain_at {x : Pl} (h : At ws p x.ws) : f_plain_read [tw ws, .int p] G = .ok x.w G := by
  have := at_le _ _ h
  rw [x.ws_len] at this
  exact plain_read_ok this.1 this.2 (by rw [plainA_D, plainD_at h]; rfl)
theorem term_at {x : Tm} (h : At ws p x.ws) : f_term_read [tw ws, .int p] G = .ok x.w G := by
  have := at_le _ _ h
  rw [x.ws_len] at this
  exact term_read_ok this.1 this.2 (by rw [termA_D, termD_at h]; rfl)
theorem call_at {a b : Int} {l : List Ar} (h : At ws p (Rw.call a b l).ws) (hz : ws.length ≤ 100000) : ∃ G', f_call_read [tw ws, .int p] G = .ok (Rw.call a b l).w G' ∧ Grow G G' := by
  have s := at_step h
  have hr : rowD ws p = some (.call a b l) := by
    unfold stepD at s
    split at s
    · exact s
    · cases s
  have k := h.2.2.1
  have le := at_le _ _ h
  simp only [Rw.ws, List.length_append, Ar.flat_len, List.length_cons, List.length_nil] at le
  have h3 : ix ws (p + 3) = l.length := by
    have := (at_tl (at_tl (at_tl h))).2.2.1
    rwa [show p + 1 + 1 + 1 = p + 3 by omega] at this
  refine call_read_ok le.1 (by omega) (by omega) hz ?_
  have ra := rowA_D (ws := ws) (p := p)
  rw [hr] at ra
  unfold rowA at ra
  rw [if_pos k] at ra
  exact ra
theorem num_at {st : List Int} {f : Int → Int} : True := trivial
theorem row_read_ok {r : Rw} {ks : List Key} {vs : List W} (f : Int → Int) (h : At ws p r.ws) (hz : ws.length ≤ 100000) (hn : ∀ t, r.tg = some t → getW ks vs (.inl t) = some (.int (f t))) :
    ∃ G', f_row_read [tw ws, .int p, .dic ks vs] G = .ok (r.mapT f).w G' ∧ Grow G G' := by
  rw [e_row_read]
  unfold b_row_read t_row_read_8
  have e2 : p + 1 + 1 = p + 2 := by omega
  have i0 : ∃ k, L2.atI (ws.map W.int) p = some (.int k) ∧ ix ws p = k := ⟨_, ix_ok (at_le _ _ h).1 (by have := (at_le _ _ h).2; have := r.ws_pos; omega), rfl⟩
  have i1 : ∃ k, L2.atI (ws.map W.int) (p + 1) = some (.int k) ∧ ix ws (p + 1) = k := ⟨_, ix_ok (by have := (at_le _ _ h).1; omega) (by have := (at_le _ _ h).2; have := r.ws_pos; omega), rfl⟩
  have inn := fun k : Int => fIn_ints (G := G) k [3, 4]
  simp only [List.map_cons, List.map_nil] at inn
  cases r with
  | set a t =>
    obtain ⟨k, i0, ek⟩ := i0
    obtain ⟨j, i1, ej⟩ := i1
    simp only [Rw.ws, List.cons_append, List.nil_append, At] at h
    obtain ⟨_, _, k', _, _, z1, h⟩ := h
    rw [e2] at h
    rw [ek] at k'; subst k'
    rw [ej] at z1; subst z1
    refine ⟨G, ?_, Grow.refl G⟩
    unfold t_row_read_7
    simp [gPar3, i0, i1, term_at h, lens, Rw.w, Rw.mapT]
  | put a x t =>
    obtain ⟨k, i0, ek⟩ := i0
    obtain ⟨j, i1, ej⟩ := i1
    simp only [Rw.ws, List.cons_append, List.nil_append, At, at_app, x.ws_len] at h
    obtain ⟨_, _, k', _, _, z1, h, h'⟩ := h
    rw [e2] at h h'
    rw [show p + 2 + ((4 : Nat) : Int) = p + 2 + 4 by omega] at h'
    rw [ek] at k'; subst k'
    rw [ej] at z1; subst z1
    refine ⟨G, ?_, Grow.refl G⟩
    unfold t_row_read_7 t_row_read_6
    simp [gPar3, i0, i1, plain_at h, term_at h', lens, Rw.w, Rw.mapT]
  | swap a x t =>
    obtain ⟨k, i0, ek⟩ := i0
    obtain ⟨j, i1, ej⟩ := i1
    simp only [Rw.ws, List.cons_append, List.nil_append, At, at_app, x.ws_len] at h
    obtain ⟨_, _, k', _, _, z1, h, h'⟩ := h
    rw [e2] at h h'
    rw [show p + 2 + ((4 : Nat) : Int) = p + 2 + 4 by omega] at h'
    rw [ek] at k'; subst k'
    rw [ej] at z1; subst z1
    refine ⟨G, ?_, Grow.refl G⟩
    unfold t_row_read_7 t_row_read_6 t_row_read_5
    simp [gPar3, i0, i1, plain_at h, plain_at h', lens, len_le, Rw.w, Rw.mapT, inn, fAddL]
  | choose a x t =>
    obtain ⟨k, i0, ek⟩ := i0
    obtain ⟨j, i1, ej⟩ := i1
    simp only [Rw.ws, List.cons_append, List.nil_append, At, at_app, x.ws_len] at h
    obtain ⟨_, _, k', _, _, z1, h, h'⟩ := h
    rw [e2] at h h'
    rw [show p + 2 + ((4 : Nat) : Int) = p + 2 + 4 by omega] at h'
    rw [ek] at k'; subst k'
    rw [ej] at z1; subst z1
    refine ⟨G, ?_, Grow.refl G⟩
    unfold t_row_read_7 t_row_read_6 t_row_read_5
    simp [gPar3, i0, i1, plain_at h, plain_at h', lens, len_le, Rw.w, Rw.mapT, inn, fAddL]
  | call a b l =>
    obtain ⟨k, i0, ek⟩ := i0
    obtain ⟨j, i1, ej⟩ := i1
    obtain ⟨G', ec, gr⟩ := call_at (G := G) h hz
    have k' := h.2.2.1
    rw [ek] at k'; subst k'
    refine ⟨G', ?_, gr⟩
    unfold t_row_read_7 t_row_read_6 t_row_read_5 t_row_read_4
    simp [gPar3, i0, i1, lens, inn, ec, Rw.mapT]
  | test s x y g =>
    obtain ⟨k, i0, ek⟩ := i0
    obtain ⟨j, i1, ej⟩ := i1
    have tg := target_ok (G := G) h
    simp only [Rw.ws, List.cons_append, List.nil_append, At, at_app, x.ws_len, y.ws_len] at h
    obtain ⟨_, _, k', _, _, z1, h, h', a, b, z2, _⟩ := h
    rw [e2] at h h'
    rw [show p + 2 + ((8 : Nat) : Int) = p + 2 + 8 by omega] at h'
    rw [ek] at k'; subst k'
    rw [ej] at z1
    have hg := hn g rfl
    have s6 := s.isLt
    have sg : L2.atI [W.str "<", .str "<=", .str ">", .str ">=", .str "==", .str "!="] j = some (sgn (s.val : Int)) := by
      rw [z1]
      have : s.val = 0 ∨ s.val = 1 ∨ s.val = 2 ∨ s.val = 3 ∨ s.val = 4 ∨ s.val = 5 := by omega
      rcases this with q | q | q | q | q | q <;> rw [q] <;> simp [sgn]
    refine ⟨G, ?_, Grow.refl G⟩
    unfold t_row_read_7 t_row_read_6 t_row_read_5 t_row_read_4 t_row_read_3
    simp [gPar3, i0, i1, sg, term_at h, term_at h', tg, lens, len_le, Rw.w, Rw.mapT, inn, fAddL, fIxX, dlook, tgW, Rw.tg, oW, keyW, hg]
  | jump g =>
    obtain ⟨k, i0, ek⟩ := i0
    have i1 := at_ix (at_tl h)
    have k' := h.2.2.1
    rw [ek] at k'; subst k'
    have hg := hn g rfl
    refine ⟨G, ?_, Grow.refl G⟩
    unfold t_row_read_7 t_row_read_6 t_row_read_5 t_row_read_4 t_row_read_3 t_row_read_2
    simp [gPar3, i0, i1, lens, Rw.w, Rw.mapT, inn, fIxX, dlook, keyW, hg]
  | fail a =>
    obtain ⟨k, i0, ek⟩ := i0
    have i1 := at_ix (at_tl h)
    have k' := h.2.2.1
    rw [ek] at k'; subst k'
    refine ⟨G, ?_, Grow.refl G⟩
    unfold t_row_read_7 t_row_read_6 t_row_read_5 t_row_read_4 t_row_read_3 t_row_read_2 t_row_read_1
    simp [gPar3, i0, i1, lens, Rw.w, Rw.mapT, inn]
  | ret t =>
    obtain ⟨k, i0, ek⟩ := i0
    obtain ⟨j, i1, ej⟩ := i1
    have k' := h.2.2.1
    rw [ek] at k'; subst k'
    have ht := at_tl h
    refine ⟨G, ?_, Grow.refl G⟩
    unfold t_row_read_7 t_row_read_6 t_row_read_5 t_row_read_4 t_row_read_3 t_row_read_2 t_row_read_1
    simp [gPar3, i0, i1, lens, Rw.w, Rw.mapT, inn, term_at ht]
end
end Lw

set_option Elab.async false
set_option linter.all false
set_option maxRecDepth 100000
namespace Lw
open PySem PySem.Spec PyProof.Rows L2 Fn
section
variable {G : GH} {ws : List Int} {p q : Int} {ρw : En}
/-! ### comprehensions -/
theorem lc_on {α : Type} {t : FG1} {te : FE} (u g : α → W) : ∀ (l : List α), (∀ a ∈ l, ∃ ρ1, t (u a) ρw G = some (ρ1, G) ∧ te ρ1 G = .ok (g a) G) → lcF t gYes te ρw (l.map u) G = .ok (l.map g) G
  | [], _ => rfl
  | a :: l, st => by
    obtain ⟨ρ1, e1, e2⟩ := st a (List.mem_cons_self)
    have ih := lc_on u g l fun w m => st w (List.mem_cons_of_mem _ m)
    rw [List.map_cons, lcF, lcTurn, e1]
    simp [e2, ih, addO]
theorem lc_run {α : Type} {t : FG1} {te : FE} (P : GH → Prop) (u g : α → W) : ∀ (l : List α), (∀ a ∈ l, ∀ G, P G → ∃ ρ1 G1, t (u a) ρw G = some (ρ1, G) ∧ te ρ1 G = .ok (g a) G1 ∧ P G1) → ∀ G, P G → ∃ G', lcF t gYes te ρw (l.map u) G = .ok (l.map g) G' ∧ P G'
  | [], _, G, h => ⟨G, rfl, h⟩
  | a :: l, st, G, h => by
    obtain ⟨ρ1, G1, e1, e2, h1⟩ := st a (List.mem_cons_self) G h
    obtain ⟨G', e3, h3⟩ := lc_run P u g l (fun w m => st w (List.mem_cons_of_mem _ m)) G1 h1
    refine ⟨G', ?_, h3⟩
    rw [List.map_cons, lcF, lcTurn, e1]
    simp [e2, e3, addO]
/-- rows with their places -/
def plc : Int → List Rw → List (Int × Rw)
  | _, [] => []
  | p, r :: rs => (p, r) :: plc (p + r.ws.length) rs
theorem plc_offs : ∀ (rs : List Rw) (p : Int), (plc p rs).map (fun x => W.int x.1) = iws (offs p rs)
  | [], _ => rfl
  | r :: rs, p => by rw [plc, offs, List.map_cons, plc_offs rs]; rfl
theorem plc_rows (g : Rw → W) : ∀ (rs : List Rw) (p : Int), (plc p rs).map (fun x => g x.2) = rs.map g
  | [], _ => rfl
  | r :: rs, p => by rw [plc, List.map_cons, List.map_cons, plc_rows g rs]
theorem plc_at : ∀ (rs : List Rw) (p : Int), At ws p (flat rs) → ∀ x ∈ plc p rs, At ws x.1 x.2.ws ∧ x.2 ∈ rs
  | [], _, _, x, h => by cases h
  | r :: rs, p, h, x, m => by
    rw [flat_cons, at_app] at h
    rw [plc] at m
    rcases List.mem_cons.mp m with rfl | m
    · exact ⟨h.1, List.mem_cons_self⟩
    · obtain ⟨a, b⟩ := plc_at rs _ h.2 x m
      exact ⟨a, List.mem_cons_of_mem _ b⟩
/-! ### the dict of the numbers -/
def numsF : Nat → List Int → List W
  | _, [] => []
  | i, _ :: l => .int (i : Int) :: numsF (i + 1) l
theorem getW_nums {t : Int} : ∀ (st : List Int) (i : Nat), t ∈ st → getW (st.map .inl) (numsF i st) (.inl t) = some (.int (i + nr st t))
  | [], i, h => by cases h
  | x :: st, i, h => by
    rw [List.map_cons, numsF, getW]
    by_cases e : x = t
    · subst e
      rw [if_pos rfl]
      unfold nr
      simp
    · rw [if_neg (fun z => e (Sum.inl.inj z))]
      have hm : t ∈ st := by
        rcases List.mem_cons.mp h with z | z
        · exact absurd z.symm e
        · exact z
      rw [getW_nums st (i + 1) hm]
      unfold nr
      rw [List.idxOf_cons, beq_false_of_ne e]
      simp only [cond_false]
      congr 2
      omega
theorem getW_not {t : Int} : ∀ (st : List Int) (i : Nat), t ∉ st → getW (st.map .inl) (numsF i st) (.inl t) = none
  | [], i, h => rfl
  | x :: st, i, h => by
    rw [List.map_cons, numsF, getW, if_neg (fun z => h (by rw [← Sum.inl.inj z]; exact List.mem_cons_self))]
    exact getW_not st (i + 1) fun m => h (List.mem_cons_of_mem _ m)
theorem dc_ok {ρ : En} (hρ : ρ.length = 9) : ∀ (st : List Int) (i : Nat) (ks : List Key) (vs : List W), st.Nodup → (∀ x ∈ st, (.inl x : Key) ∉ ks) → ks.length + st.length ≤ 200000 →
    dcF (tgTup 2 (tgCons (tgName 5) (tgCons (tgName 6) tgNil))) gYes (gVar 6) (gVar 5) ρ (enumFrom' i (iws st)) ks vs G = .ok (ks ++ st.map .inl, vs ++ numsF i st) G
  | [], i, ks, vs, _, _, _ => by
    show R.ok (ks, vs) G = _
    simp [numsF]
  | x :: st, i, ks, vs, hn, hd, hl => by
    rw [List.nodup_cons] at hn
    have ih := dc_ok hρ st (i + 1) (ks ++ [.inl x]) (vs ++ [.int (i : Int)]) hn.2 (fun y m z => by
      rcases List.mem_append.mp z with z | z
      · exact hd y (List.mem_cons_of_mem _ m) z
      · rw [List.mem_singleton, Sum.inl.injEq] at z
        subst z
        exact hn.1 m) (by simp at hl ⊢; omega)
    have tn : dcTurn (tgTup 2 (tgCons (tgName 5) (tgCons (tgName 6) tgNil))) gYes (gVar 6) (gVar 5) ρ (.tup [.int (i : Int), .int x]) G = .ok (some (.inl x, .int (i : Int))) G := by
      unfold dcTurn
      have l5 : ((ρ.set 5 (some (.int (i : Int)))).set 6 (some (.int x)))[6]? = some (some (.int x)) := by
        rw [List.getElem?_set_self (by simp; omega)]
      have l6 : ((ρ.set 5 (some (.int (i : Int)))).set 6 (some (.int x)))[5]? = some (some (.int (i : Int))) := by
        rw [List.getElem?_set_ne (by decide), List.getElem?_set_self (by omega)]
      simp [gVar_ev l5, gVar_ev l6, keyW]
    have nk : (ks.any fun j => decide (j = .inl x)) = false := by
      rw [List.any_eq_false]
      intro j hj
      rw [decide_eq_true_eq]
      rintro rfl
      exact hd x List.mem_cons_self hj
    show dcF _ _ _ _ ρ (.tup [.int (i : Int), .int x] :: enumFrom' (i + 1) (iws st)) ks vs G = _
    rw [dcF, tn]
    simp only [bind_ok]
    rw [if_pos ⟨len_lt (by simp at hl; omega), nk⟩, ih]
    simp [numsF]
where len_lt {n : Nat} (h : n < 1000000) : n < sizeLine := by rw [sizeLine_eq]; omega
theorem is_integer_ok (i : Int) : f_is_integer [.int i] G = .ok (.bl true) G := by
  rw [e_is_integer]
  unfold b_is_integer t_is_integer_1
  have c1 : cIsa [.int i, .op (.ty "int")] G = .ok (.bl true) G := cIsa_nb rfl rfl
  have c2 : cIsa [.int i, .op (.ty "bool")] G = .ok (.bl false) G := cIsa_nb rfl rfl
  simp [c1, c2]
theorem cAll_bl (bs : List Bool) : cAll [.lst (bs.map W.bl)] G = .ok (.bl (bs.all id)) G := by
  show (match blsOf (bs.map W.bl) with | some bs => R.ok (W.bl (bs.all id)) G | none => .no) = _
  rw [blsOf_map]
def bodyW (o : Option (List Rw)) : W := oW (o.map fun b => .tup (b.map Rw.w))
/-- the target is there -/
def tgIn (st : List Int) (r : Rw) : Bool := match r.tg with
  | none => true
  | some t => decide (t ∈ st)
theorem frz_non : frz .non G = .ok .non G := rfl
theorem read_tail {x4 x5 x6 x7 x8 : Option W} {rs : List Rw} (ha : At ws 0 (flat rs)) (hl : (0 : Int) + (flat rs).length = ws.length) (hz : ws.length ≤ 100000) :
    ∃ G', (t_read_body_4 [some (tw ws), some (.lst (iws (offs 0 rs))), none, none, x4, x5, x6, x7, x8] G).fin.calm = .ok (bodyW (bodyD rs)) G' ∧ Grow G G' := by
  have rl : rs.length ≤ ws.length := by
    have := offs_len rs 0
    have : ∀ (rs : List Rw), rs.length ≤ (flat rs).length := by
      intro rs
      induction rs with
      | nil => exact Nat.zero_le _
      | cons r rs ih => rw [flat_cons, List.length_append, List.length_cons]; have := r.ws_pos; omega
    have := this rs
    omega
  have dc := dc_ok (G := G) (ρ := [some (tw ws), some (.lst (iws (offs 0 rs))), none, none, x4, none, none, x7, x8]) rfl (offs 0 rs) 0 [] [] (offs_nodup _ _) (fun _ _ z => by cases z) (by rw [offs_len]; simp; omega)
  simp only [List.nil_append] at dc
  have t3 := lc_on (G := G) (ρw := [some (tw ws), some (.lst (iws (offs 0 rs))), some (.dic ((offs 0 rs).map .inl) (numsF 0 (offs 0 rs))), none, none, x5, x6, x7, x8]) (t := tgName 4) (te := gCall (cFn 2 f_target_place) (gCons (gVar 0) (gCons (gVar 4) gNil))) (fun x : Int × Rw => W.int x.1) (fun x => tgW x.2) (plc 0 rs) (fun a m => by
    obtain ⟨ha, _⟩ := plc_at rs 0 ha a m
    refine ⟨_, rfl, ?_⟩
    simp [target_ok ha])
  rw [plc_offs, plc_rows] at t3
  have e : (t_read_body_4 [some (tw ws), some (.lst (iws (offs 0 rs))), none, none, x4, x5, x6, x7, x8] G) = t_read_body_2 [some (tw ws), some (.lst (iws (offs 0 rs))), some (.dic ((offs 0 rs).map .inl) (numsF 0 (offs 0 rs))), some (.lst (rs.map tgW)), x4, x5, x6, x7, x8] G := by
    unfold t_read_body_4 t_read_body_3
    simp [gDc, asEnumB, dcW, wipeW, dc, mkD, t3, len_le _ (show rs.length ≤ 16777216 by omega)]
  rw [e]
  have t2 := lc_on (G := G) (ρw := [some (tw ws), some (.lst (iws (offs 0 rs))), some (.dic ((offs 0 rs).map .inl) (numsF 0 (offs 0 rs))), some (.lst (rs.map tgW)), x4, x5, x6, x7, none]) (t := tgName 8) (te := gOr (gOp (fIsN false) (gVar 8) (gC .non)) (gOp (fInX false) (gVar 8) (gVar 2))) tgW (fun r => W.bl (tgIn (offs 0 rs) r)) rs (fun r m => by
    refine ⟨_, rfl, ?_⟩
    unfold tgIn tgW
    cases r.tg with
    | none => simp [oW]
    | some t =>
      by_cases ht : t ∈ offs 0 rs
      · simp [oW, fInX, dlook, keyW, ht, getW_nums _ 0 ht]
      · simp [oW, fInX, dlook, keyW, ht, getW_not _ 0 ht])
  have em : (rs.map fun r => W.bl (tgIn (offs 0 rs) r)) = (rs.map (tgIn (offs 0 rs))).map W.bl := by rw [List.map_map]; rfl
  rw [em] at t2
  have bd : bodyD rs = if (rs.map (tgIn (offs 0 rs))).all id = true then some (rs.map (Rw.mapT (nr (offs 0 rs)))) else none := by
    unfold bodyD
    by_cases hb : ∀ r ∈ rs, ∀ t, r.tg = some t → t ∈ offs 0 rs
    · rw [if_pos hb, if_pos]
      rw [List.all_map, List.all_eq_true]
      intro r m
      show tgIn (offs 0 rs) r = true
      unfold tgIn
      cases ht : r.tg with
      | none => rfl
      | some t => exact decide_eq_true (hb r m t ht)
    · rw [if_neg hb, if_neg]
      intro z
      apply hb
      intro r m t ht
      rw [List.all_map, List.all_eq_true] at z
      have := z r m
      change tgIn (offs 0 rs) r = true at this
      unfold tgIn at this
      rw [ht] at this
      exact of_decide_eq_true this
  have ca := cAll_bl (G := G) (rs.map (tgIn (offs 0 rs)))
  unfold t_read_body_2
  cases hb : (rs.map (tgIn (offs 0 rs))).all id with
  | false =>
    rw [hb] at ca bd
    refine ⟨G, ?_, Grow.refl G⟩
    rw [bd]
    simp [wipeW, t2, len_le _ (show rs.length ≤ 16777216 by omega), ca, bodyW, oW, -List.map_map]
  | true =>
    rw [hb] at ca bd
    have hin : ∀ r ∈ rs, ∀ t, r.tg = some t → t ∈ offs 0 rs := by
      intro r m t ht
      rw [List.all_map, List.all_eq_true] at hb
      have := hb r m
      change tgIn (offs 0 rs) r = true at this
      unfold tgIn at this
      rw [ht] at this
      exact of_decide_eq_true this
    obtain ⟨G', t1, gr⟩ := lc_run (ρw := [some (tw ws), some (.lst (iws (offs 0 rs))), some (.dic ((offs 0 rs).map .inl) (numsF 0 (offs 0 rs))), some (.lst (rs.map tgW)), none, x5, x6, x7, x8]) (t := tgName 4) (te := gCall (cFn 3 f_row_read) (gCons (gVar 0) (gCons (gVar 4) (gCons (gVar 2) gNil)))) (Grow G) (fun x : Int × Rw => W.int x.1) (fun x => (x.2.mapT (nr (offs 0 rs))).w) (plc 0 rs) (fun a m G1 g1 => by
      obtain ⟨ha, hm⟩ := plc_at rs 0 ha a m
      obtain ⟨G2, e2, g2⟩ := row_read_ok (G := G1) (ks := (offs 0 rs).map .inl) (vs := numsF 0 (offs 0 rs)) (nr (offs 0 rs)) ha hz (fun t ht => by rw [getW_nums _ 0 (hin _ hm t ht)]; congr 2; omega)
      refine ⟨_, G2, rfl, ?_, g1.trans g2⟩
      simp [e2]) G (Grow.refl G)
    rw [plc_offs, plc_rows (fun r => (r.mapT (nr (offs 0 rs))).w)] at t1
    refine ⟨G', ?_, gr⟩
    rw [bd]
    unfold t_read_body_1
    have em : (rs.map fun r => (r.mapT (nr (offs 0 rs))).w) = (rs.map (Rw.mapT (nr (offs 0 rs)))).map Rw.w := by rw [List.map_map]; rfl
    rw [em] at t1
    simp [wipeW, t2, len_le _ (show rs.length ≤ 16777216 by omega), ca, bodyW, oW, -List.map_map, t1]
theorem body_ok (hz : ws.length ≤ 100000) : ∃ G', f_read_body [tw ws] G = .ok (bodyW ((parseD ws ws.length 0).bind bodyD)) G' ∧ Grow G G' := by
  have t7 := lc_on (G := G) (ρw := [some (tw ws), none, none, none, none, none, none, none, none]) (t := tgName 7) (te := gCall (cFn 1 f_is_integer) (gCons (gVar 7) gNil)) W.int (fun _ => W.bl true) ws (fun a m => by
    refine ⟨_, rfl, ?_⟩
    simp [is_integer_ok])
  have em : (ws.map fun _ => W.bl true) = (ws.map fun _ => true).map W.bl := by rw [List.map_map]; rfl
  rw [em] at t7
  have ca := cAll_bl (G := G) (ws.map fun _ => true)
  rw [show (ws.map fun _ => true).all id = true by rw [List.all_map, List.all_eq_true]; intro _ _; rfl] at ca
  have ro := rows_ok (G := G) hz
  have e : f_read_body [tw ws] G = (t_read_body_6 [some (tw ws), none, none, none, none, none, none, none, none] G).fin.calm := by
    rw [e_read_body]
    unfold b_read_body t_read_body_8 t_read_body_7
    simp [wipeW, t7, len_le _ (show ws.length ≤ 16777216 by omega), ca, -List.map_map, -List.map_const', -List.map_const]
  rw [e]
  unfold t_read_body_6 t_read_body_5
  cases hp : parseD ws ws.length 0 with
  | none =>
    rw [hp] at ro
    obtain ⟨u, eu⟩ := ro
    refine ⟨G.push u, ?_, Grow.push G u⟩
    simp [eu, frz_non, bodyW, oW]
  | some rs =>
    rw [hp] at ro
    dsimp only at ro
    obtain ⟨pa, pb⟩ := parse_at (by omega) hp
    have fz := frz_at (G := G.push (.lst (iws (offs 0 rs)))) (n := G.n) push_same
    obtain ⟨G', e4, gr⟩ := read_tail (G := (G.push (.lst (iws (offs 0 rs)))).del G.n) (x4 := none) (x5 := none) (x6 := none) (x7 := none) (x8 := none) pa pb hz
    refine ⟨G', ?_, ((Grow.push G _).del (Nat.le_refl _)).trans gr⟩
    simp [ro, fz, e4]
theorem body_tup {o : Option (List Rw)} : bodyW o = match o with
    | some b => .tup (b.map Rw.w)
    | none => .non := by cases o <;> rfl
end
end Lw

set_option Elab.async false
set_option linter.all false
set_option maxRecDepth 100000
namespace Lw
open PySem PySem.Spec PyProof.Rows L2 Fn

section
variable {G G0 : GH} {ws : List Int} {p q : Int} {n1 n2 nb : Nat} {st : List Int} {l : List Rw}
theorem Rw.w_non (r : Rw) : Fn.isNon r.w = some false := by cases r <;> rfl
theorem lread_rng {m : Nat} (hz : m ≤ 100000) : asRng1 [.int (m : Int)] G = .ok (.vals (rngW 0 m)) G := by
  rw [asRng1_ev, if_pos (small_ok (by omega) (by omega)), Int.toNat_natCast]
theorem for_rng {f : List W → GH → R Wk} {ga : FA} {t : FG1} {b : FS} {ρ : En} {us vs : List W} {G G1 G2 : GH} (h1 : ga ρ G = .ok us G1) (h2 : f us G1 = .ok (.vals vs) G2) : gFor (iRng f ga) t b ρ G = forF t b vs ρ G2 := by
  rw [gFor_ev, iRng_ev, h1, bind_ok, h2, thn_ok, forW_vals]
theorem forO_nx {n : Nat} {t : FG1} {b : FS} {us : List W} {w : W} {k i : Nat} {ρ ρ1 ρ2 : En} {G G1 G2 : GH} (h : G.at_ n = some (.lst us)) (hi : us[i]? = some w) (e : t w ρ G = some (ρ1, G1)) (e2 : b ρ1 G1 = .nx ρ2 G2) : forO n t b (k + 1) i ρ G = forO n t b k (i + 1) ρ2 G2 := by
  simp only [forO, turnF, h, hi, e, e2]
theorem forO_rt {n : Nat} {t : FG1} {b : FS} {us : List W} {w v : W} {k i : Nat} {ρ ρ1 : En} {G G1 G2 : GH} (h : G.at_ n = some (.lst us)) (hi : us[i]? = some w) (e : t w ρ G = some (ρ1, G1)) (e2 : b ρ1 G1 = .rt v G2) : forO n t b (k + 1) i ρ G = .rt v G2 := by
  simp only [forO, turnF, h, hi, e, e2]
theorem forO_0 {n : Nat} {t : FG1} {b : FS} {us : List W} {i : Nat} {ρ : En} {G : GH} (h : G.at_ n = some (.lst us)) (hi : us.length ≤ i) : forO n t b 0 i ρ G = .nx ρ G := by
  simp only [forO, h, hi, if_true]
theorem add_tup {u v : List W} (h : u.length + v.length ≤ 1000000) : fAddL false (.tup u) (.tup v) G = .ok (.tup (u ++ v)) G := by
  unfold fAddL
  simp only
  rw [if_pos (by rw [sizeLine_eq]; omega)]
theorem add_tw {u v : List Int} (h : u.length + v.length ≤ 1000000) : fAddL false (tw u) (tw v) G = .ok (tw (u ++ v)) G := by
  unfold tw
  rw [add_tup (by rw [List.length_map, List.length_map]; exact h), List.map_append]
theorem Pl.tag (x : Pl) : ∃ s l, x.w = .tup (.str (Str.ofString s) :: l) ∧ s ≠ "cell" ∧ s ≠ "list" := by
  cases x with
  | num d => exact ⟨"num", _, rfl, by decide, by decide⟩
  | var b d => exact ⟨"var", _, rfl, by decide, by decide⟩
  | len b d => exact ⟨"len", _, rfl, by decide, by decide⟩
structure One (G0 G : GH) (n : Nat) (us : List W) : Prop where
  grow : Grow G0 G
  r : G.at_ n = some (.lst us)
  a : G0.n ≤ n
  b : n < G.n
theorem One.more {n : Nat} {us : List W} (h : One G0 G n us) {G' : GH} (g : Grow G G') : One G0 G' n us := ⟨h.grow.trans g, (g.2 _ h.b).trans h.r, h.a, Nat.lt_of_lt_of_le h.b g.1⟩
theorem One.set {n : Nat} {us : List W} (h : One G0 G n us) (vs : List W) : One G0 (G.set n (.lst vs)) n vs := ⟨h.grow.set h.a _, set_same, h.a, h.b⟩
theorem One.new (G : GH) (us : List W) : One G (G.push (.lst us)) G.n us := ⟨Grow.push G _, push_same, Nat.le_refl _, Nat.lt_succ_self _⟩
theorem extend_at {n : Nat} {us vs : List W} (h : G.at_ n = some (.lst us)) (hl : us.length + vs.length ≤ 1000000) : mExtend (.ref n) [.tup vs] G = .ok .non (G.set n (.lst (us ++ vs))) := by
  unfold mExtend
  simp only [lw_at h]
  show (if us.length + vs.length ≤ sizeLine then R.ok W.non (G.set n (.lst (us ++ vs))) else .no) = _
  rw [if_pos (by rw [sizeLine_eq]; omega)]
theorem sgn_index (s : Fin 6) : ∃ z, sgn (s.val : Int) = .str z ∧ indexS z [Str.ofString "<", Str.ofString "<=", Str.ofString ">", Str.ofString ">=", Str.ofString "==", Str.ofString "!="] = some s.val := by
  refine ⟨_, rfl, ?_⟩
  have s6 := s.isLt
  have : s.val = 0 ∨ s.val = 1 ∨ s.val = 2 ∨ s.val = 3 ∨ s.val = 4 ∨ s.val = 5 := by omega
  rcases this with q | q | q | q | q | q <;> rw [q] <;> simp [indexS]
theorem in_strs (a b c : String) : fIn false (.str (Str.ofString a)) (.tup [.str (Str.ofString b), .str (Str.ofString c)]) G = .ok (.bl (decide (b = a) || decide (c = a))) G := by
  unfold fIn res itemsD
  simp [W.pl, W.pls, W.deps, W.dep, inWs, eqW, Bool.beq_eq_decide_eq]
theorem gAug_ev {i : Nat} {f : F2} {g : FE} {ρ : En} {a : W} (h : ρ[i]? = some (some a)) : gAug i f g ρ G = (g ρ G).thn ρ fun b G1 => (f a b G1).thn ρ fun w G2 => .nx (ρ.set i (some w)) G2 := by
  unfold gAug
  rw [h]
theorem row_le {b : List Rw} : ∀ r ∈ b, r.ws.length ≤ (flat b).length := by
  induction b with
  | nil => intro r h; cases h
  | cons x b ih =>
    intro r h
    rw [flat_cons, List.length_append]
    rcases List.mem_cons.mp h with rfl | h
    · omega
    · have := ih r h
      omega
theorem rows_le : ∀ (b : List Rw), 2 * b.length ≤ (flat b).length
  | [] => Nat.zero_le _
  | r :: b => by
    have := rows_le b
    have := r.ws_pos
    rw [flat_cons, List.length_append, List.length_cons]
    omega
theorem iws_at {st : List Int} {t : Int} (h0 : 0 ≤ t) (ht : t < st.length) : L2.atI (iws st) t = some (.int (pl st t)) := by
  have := ix_ok (ws := st) h0 ht
  exact this
theorem Pl.w_nb (x : Pl) : x.w.nb = true ∧ x.w.dep ≤ 1 := by cases x <;> exact ⟨rfl, by simp [Pl.w, W.dep, W.deps]⟩
theorem Tm.w_nb (x : Tm) : x.w.nb = true ∧ x.w.dep ≤ 2 := by
  cases x with
  | pl x => exact ⟨x.w_nb.1, by have := x.w_nb.2; show x.w.dep ≤ 2; omega⟩
  | cell a i d =>
    have := i.w_nb
    exact ⟨by simp [Tm.w, W.nb, W.nbs, this.1], by simp [Tm.w, W.dep, W.deps]; omega⟩
theorem Ar.w_nb (x : Ar) : x.w.nb = true ∧ x.w.dep ≤ 1 := by
  cases x with
  | pl x => exact x.w_nb
  | lst b => exact ⟨rfl, by simp [Ar.w, W.dep, W.deps]⟩
theorem Ar.ws_nb : ∀ l : List Ar, W.nbs (l.map Ar.w) = true ∧ W.deps (l.map Ar.w) ≤ 1
  | [] => ⟨rfl, by simp [W.deps]⟩
  | x :: l => by
    have a := x.w_nb
    have b := Ar.ws_nb l
    exact ⟨by simp [W.nbs, a.1, b.1], by simp [W.deps]; omega⟩
theorem Rw.w_nb (r : Rw) : r.w.nb = true ∧ r.w.dep ≤ 5 := by
  cases r with
  | set a t => have := t.w_nb; exact ⟨by simp [Rw.w, W.nb, W.nbs, this.1], by simp [Rw.w, W.dep, W.deps]; omega⟩
  | put a x t => have := t.w_nb; have := x.w_nb; exact ⟨by simp [Rw.w, W.nb, W.nbs, *], by simp [Rw.w, W.dep, W.deps]; omega⟩
  | swap a x t => have := t.w_nb; have := x.w_nb; exact ⟨by simp [Rw.w, W.nb, W.nbs, *], by simp [Rw.w, W.dep, W.deps]; omega⟩
  | choose a x t => have := t.w_nb; have := x.w_nb; exact ⟨by simp [Rw.w, W.nb, W.nbs, *], by simp [Rw.w, W.dep, W.deps]; omega⟩
  | call a b l => have := Ar.ws_nb l; exact ⟨by simp [Rw.w, W.nb, W.nbs, this.1], by simp [Rw.w, W.dep, W.deps]; omega⟩
  | test s x y g => have := y.w_nb; have := x.w_nb; exact ⟨by simp [Rw.w, W.nb, W.nbs, sgn, *], by simp [Rw.w, W.dep, W.deps, sgn]; omega⟩
  | jump g => exact ⟨rfl, by simp [Rw.w, W.dep, W.deps]⟩
  | fail g => exact ⟨rfl, by simp [Rw.w, W.dep, W.deps]⟩
  | ret t => have := t.w_nb; exact ⟨by simp [Rw.w, W.nb, W.nbs, this.1], by simp [Rw.w, W.dep, W.deps]; omega⟩
theorem body_nb : ∀ b : List Rw, W.nbs (b.map Rw.w) = true ∧ W.deps (b.map Rw.w) ≤ 5
  | [] => ⟨rfl, by simp [W.deps]⟩
  | r :: b => by
    have a := r.w_nb
    have c := body_nb b
    exact ⟨by simp [W.nbs, a.1, c.1], by simp [W.deps]; omega⟩
theorem ne_body (b : List Rw) : fNe (.tup (b.map Rw.w)) (.tup (b.map Rw.w)) G = .ok (.bl false) G := by
  have nb : (W.tup (b.map Rw.w)).nb = true := by simp only [W.nb]; exact (body_nb b).1
  rw [fNe_nb nb nb (by simp only [W.dep]; have := (body_nb b).2; omega), eqW_self nb]
  rfl
theorem isa_tup (b : List Rw) : cIsa [.tup (b.map Rw.w), .op (.ty "tuple")] G = .ok (.bl true) G := cIsa_nb (by simp only [W.nb]; exact (body_nb b).1) rfl
theorem nbs_iws (st : List Int) : W.nbs (iws st) = true ∧ W.deps (iws st) = 0 := ⟨nbs_ints st, deps_ints st⟩
theorem ne_places {a b : Nat} {st : List Int} (ha : G.at_ a = some (.lst (iws st))) (hb : G.at_ b = some (.lst (iws st))) : fNe (.ref a) (.ref b) G = .ok (.bl false) G := by
  have ra : res G (.ref a) = .lst (iws st) := by unfold res; simp only [ha]
  have rb : res G (.ref b) = .lst (iws st) := by unfold res; simp only [hb]
  have nb : (W.lst (iws st)).nb = true := by simp only [W.nb]; exact (nbs_iws st).1
  unfold fNe eqOk
  rw [ra, rb, W.pl_of_nb _ nb, eqW_self nb, decide_eq_true (by simp only [W.dep, (nbs_iws st).2]; decide)]
  rfl
theorem isa_places {a : Nat} {st : List Int} (ha : G.at_ a = some (.lst (iws st))) : cIsa [.ref a, .op (.ty "list")] G = .ok (.bl true) G := by
  have ra : res G (.ref a) = .lst (iws st) := by unfold res; simp only [ha]
  have nb : (W.lst (iws st)).nb = true := by simp only [W.nb]; exact (nbs_iws st).1
  unfold cIsa
  simp only [ra, W.pl_of_nb _ nb, if_true]
  rfl
theorem body_back {b : List Rw} (h : bodyD l = some b) : (∀ r ∈ b, ∀ t, r.tg = some t → 0 ≤ t ∧ t < b.length) ∧ (flat b).length = (flat l).length := by
  unfold bodyD at h
  split at h
  · rename_i ht
    cases h
    constructor
    · intro r hr t e
      obtain ⟨r', hr', rfl⟩ := List.mem_map.mp hr
      rw [Rw.mapT_tg] at e
      obtain ⟨g, eg, rfl⟩ := Option.map_eq_some_iff.mp e
      have hm := ht r' hr' g eg
      have := List.idxOf_lt_length_of_mem hm
      rw [offs_len] at this
      rw [List.length_map]
      unfold nr
      omega
    · unfold flat
      rw [List.length_flatten, List.length_flatten, List.map_map, List.map_map, List.map_map]
      congr 1
      refine List.map_congr_left fun r _ => ?_
      exact Rw.mapT_len _ r
  · cases h
theorem fEq_tw : fEq (tw ws) (tw ws) G = .ok (.bl true) G := by rw [fEq_ints]; simp
theorem isa_tw : cIsa [tw ws, .op (.ty "tuple")] G = .ok (.bl true) G := cIsa_nb (by simp only [W.nb]; exact nbs_ints ws) rfl
theorem rng2 : asRng1 [.int 2] G = .ok (.vals [.int 0, .int 1]) G := by
  rw [asRng1_ev, if_pos (small_ok (by omega) (by omega))]
  rfl
theorem arg2 {ρ : En} : gCons (gC (.int 2)) gNil ρ G = .ok [.int 2] G := rfl
end
end Lw

set_option Elab.async false
set_option linter.all false
set_option maxRecDepth 100000
namespace Lw
open PySem PySem.Spec PyProof.Rows L2 Fn
/-! ### the deck -/
/-- the deck at n -/
def Deck (G : GH) (n : Nat) : Prop := ∃ (cells : List Int) (a b t : Int), cells.length ≤ 63 ∧ 0 ≤ a ∧ G.at_ n = some (.lst [.lst (cells.map .int), .int a, .int b, .int t])
/-- the same but for the deck -/
def Drawn (n : Nat) (G G' : GH) : Prop := G'.n = G.n ∧ (∀ m, m ≠ n → G'.at_ m = G.at_ m) ∧ Deck G' n
theorem Drawn.refl {n : Nat} {G : GH} (h : Deck G n) : Drawn n G G := ⟨rfl, fun _ _ => rfl, h⟩
theorem Drawn.trans {n : Nat} {G G1 G2 : GH} (a : Drawn n G G1) (b : Drawn n G1 G2) : Drawn n G G2 := ⟨b.1.trans a.1, fun m h => (b.2.1 m h).trans (a.2.1 m h), b.2.2⟩
theorem Drawn.deck {n : Nat} {G G1 : GH} (a : Drawn n G G1) : Deck G1 n := a.2.2
theorem atI_ints {cells : List Int} {i : Int} (h0 : 0 ≤ i) (h : i < cells.length) : ∃ c : Int, L2.atI (cells.map W.int) i = some (.int c) :=
  ⟨cells[i.toNat]'(by omega), atI_at h0 (by rw [List.getElem?_map, List.getElem?_eq_getElem (by omega)]; rfl)⟩
theorem draw_tail {G : GH} {n : Nat} {m : Int} (h0 : 0 < m) (h1 : m.natAbs.log2 < 9000) {cells : List Int} {a b t c : Int} (hl : cells.length ≤ 63) (ha : 0 ≤ a) (hG : G.at_ n = some (.lst [.lst (cells.map .int), .int a, .int b, .int t])) :
    ∃ (d : Int) (G' : GH), (t__law_draw_6 [some (W.ref n), some (W.int m), some (W.int c), none, none, none, none] G).fin.calm = .ok (.int d) G' ∧ 0 ≤ d ∧ d < m ∧ Drawn n G G' := by
  unfold t__law_draw_6 t__law_draw_5
  by_cases hc : a + 1 ≤ cells.length ∧ (1000000000000000000 : Int) ≤ c
  · simp [hG, hc.1, hc.2, fMod_i h0, fDiv_i h0 h1]
    exact ⟨_, _, ⟨rfl, rfl⟩, Int.emod_nonneg _ (by omega), Int.emod_lt_of_pos _ h0, rfl, fun k hk => set_ne hk, cells, a + 1, c / m, t, hl, by omega, by simp⟩
  · have hk : ∀ ρ : En, ∀ G1 : GH, ∃ (d : Int) (G' : GH), (t__law_draw_4 [some (W.ref n), some (W.int m), some (W.int c), none, none, none, none] (G.set n (.lst [.lst (cells.map .int), .int (a + 1), .int b, .int t]))).fin.calm = .ok (.int d) G' ∧ 0 ≤ d ∧ d < m ∧ Drawn n G G' := fun ρ G1 => by
      unfold t__law_draw_4
      simp [fMul_i (i := 7919) (j := t) (.inl (by decide)), fMod_i (j := 2147483647) (by decide)]
      have f0 := Int.emod_nonneg (c + 7919 * t) (show (2147483647 : Int) ≠ 0 by decide)
      have f1 := Int.emod_lt_of_pos (c + 7919 * t) (show (0 : Int) < 2147483647 by decide)
      generalize (c + 7919 * t) % 2147483647 = x at f0 f1 ⊢
      unfold t__law_draw_3
      simp [fMul_i (i := x) (j := x) (.inl (by omega)), fMul_i (i := 48271) (j := x) (.inl (by decide)), fMod_i (j := 2147483629) (by decide)]
      have g0 := Int.emod_nonneg (x * x + 48271 * x + t) (show (2147483629 : Int) ≠ 0 by decide)
      have g1 := Int.emod_lt_of_pos (x * x + 48271 * x + t) (show (0 : Int) < 2147483629 by decide)
      generalize (x * x + 48271 * x + t) % 2147483629 = y at g0 g1 ⊢
      unfold t__law_draw_2
      simp [fDiv_i (i := y) (j := 65536) (by decide) (by decide), fMul_i (i := y / 65536) (j := 40503) (.inr (by decide)), fMul_i (i := y) (j := 31) (.inr (by decide)), fMod_i (j := 1073741789) (by decide)]
      generalize (y / 65536 * 40503 + y * 31 + x) % 1073741789 = z
      unfold t__law_draw_1
      simp [fDiv_i (i := z) (j := 7) (by decide) (by decide), fMod_i h0]
      exact ⟨_, _, ⟨rfl, rfl⟩, Int.emod_nonneg _ (by omega), Int.emod_lt_of_pos _ h0, rfl, fun k hk => set_ne hk, cells, a + 1, b, t, hl, by omega, by simp⟩
    by_cases hc1 : a + 1 ≤ cells.length
    · simp [hG, hc1, show ¬ (1000000000000000000 : Int) ≤ c from fun z => hc ⟨hc1, z⟩]
      exact hk [] G
    · simp [hG, hc1]
      exact hk [] G
theorem draw_ok {G : GH} {n : Nat} {m : Int} (h : Deck G n) (h0 : 0 < m) (h1 : m.natAbs.log2 < 9000) : ∃ (d : Int) (G' : GH), f__law_draw [.ref n, .int m] G = .ok (.int d) G' ∧ 0 ≤ d ∧ d < m ∧ Drawn n G G' := by
  obtain ⟨cells, a, b, t, hl, ha, hG⟩ := h
  rw [e__law_draw]
  unfold b__law_draw t__law_draw_10 t__law_draw_9
  by_cases hb : m ≤ b
  · simp [hG, hb, fMod_i h0, fDiv_i h0 h1]
    exact ⟨_, _, ⟨rfl, rfl⟩, Int.emod_nonneg _ (by omega), Int.emod_lt_of_pos _ h0, rfl, fun k hk => set_ne hk, cells, a, b / m, t + 1, hl, ha, by simp⟩
  · have step : ∀ G1 : GH, Drawn n (G.set n (.lst [.lst (cells.map .int), .int a, .int b, .int (t + 1)])) G1 → Drawn n G G1 := fun G1 ⟨z1, z2, z3⟩ => ⟨z1, fun k hk => (z2 k hk).trans (set_ne hk), z3⟩
    unfold t__law_draw_8 t__law_draw_7
    cases cells with
    | nil =>
      simp [hG, hb]
      obtain ⟨d, G', e, d0, d1, dr⟩ := draw_tail (c := 0) h0 h1 hl ha (set_same (G := G) (n := n) (o := .lst [.lst (([] : List Int).map .int), .int a, .int b, .int (t + 1)]))
      exact ⟨d, G', e, d0, d1, step G' dr⟩
    | cons c0 cs =>
      have hlen : (0 : Int) < ((c0 :: cs).length : Int) := by simp
      obtain ⟨c, ec⟩ := atI_ints (cells := c0 :: cs) (i := a % ((c0 :: cs).length : Int)) (Int.emod_nonneg _ (by omega)) (Int.emod_lt_of_pos _ hlen)
      have em := fMod_i (G := G.set n (.lst [.lst ((c0 :: cs).map .int), .int a, .int b, .int (t + 1)])) (i := a) hlen
      obtain ⟨d, G', e, d0, d1, dr⟩ := draw_tail (c := c) h0 h1 hl ha (set_same (G := G) (n := n) (o := .lst [.lst ((c0 :: cs).map .int), .int a, .int b, .int (t + 1)]))
      simp at em ec e
      simp [hG, hb, em, ec, e]
      exact ⟨d, G', ⟨rfl, rfl⟩, d0, d1, step G' (by simpa using dr)⟩
theorem log2_of {m : Int} (h : m.natAbs < 2 ^ 200 := by decide) : m.natAbs.log2 < 9000 := by
  by_cases h0 : m.natAbs = 0
  · rw [h0]; decide
  · have := (Nat.log2_lt h0).mpr h
    omega
/-- a draw, for a written number -/
theorem drawn {G : GH} {n : Nat} (m : Int) (h : Deck G n) (h0 : 0 < m := by decide) (h1 : m.natAbs < 2 ^ 200 := by decide) : ∃ (d : Int) (G' : GH), f__law_draw [.ref n, .int m] G = .ok (.int d) G' ∧ 0 ≤ d ∧ d < m ∧ Drawn n G G' := draw_ok h h0 (log2_of h1)
theorem deck_ok {ns : List Int} {G : GH} (h : ns.length ≤ 63) : f__law_deck [.lst (ns.map W.int)] G = .ok (.ref G.n) (G.push (.lst [.lst (ns.map .int), .int 0, .int 0, .int 0])) := by
  rw [e__law_deck]
  unfold b__law_deck t__law_deck_1
  have e := lc_map (t := tgName 1) (te := gCall cInt (gCons (gVar 1) gNil)) (ρw := [some (W.lst (ns.map W.int)), none]) (G := G) id (ns.map W.int) (fun w m => by
    obtain ⟨i, _, rfl⟩ := List.mem_map.mp m
    exact ⟨_, rfl, by simp⟩)
  have ec : cutW (ns.map W.int) none (some 63) = ns.map W.int := cut_all (by simpa using h)
  have l1 : ns.length ≤ sizeLine := len_le _ (by omega)
  have ew : wipeW [some (W.lst (ns.map W.int)), none] [1] = [some (W.lst (ns.map W.int)), none] := rfl
  rw [List.map_id] at e
  simp [ec, ew, e, l1, lens]
theorem deck_at {ns : List Int} {G : GH} (h : ns.length ≤ 63) : Deck (G.push (.lst [.lst (ns.map .int), .int 0, .int 0, .int 0])) G.n := ⟨ns, 0, 0, 0, h, Int.le_refl _, push_same⟩
/-- the deck is drawn from, and the heap has grown -/
structure Dr (n : Nat) (G G' : GH) : Prop where
  le : G.n ≤ G'.n
  keep : ∀ m, m < G.n → m ≠ n → G'.at_ m = G.at_ m
  deck : Deck G' n
theorem Drawn.dr {n : Nat} {G G' : GH} (h : Drawn n G G') : Dr n G G' := ⟨Nat.le_of_eq h.1.symm, fun m _ hn => h.2.1 m hn, h.2.2⟩
theorem Dr.trans {n : Nat} {A B C : GH} (x : Dr n A B) (y : Dr n B C) : Dr n A C := ⟨Nat.le_trans x.le y.le, fun m h hn => (y.keep m (Nat.lt_of_lt_of_le h x.le) hn).trans (x.keep m h hn), y.deck⟩
theorem Deck.grow {n : Nat} {G G' : GH} (h : Deck G n) (hn : n < G.n) (g : Grow G G') : Deck G' n := by
  obtain ⟨c, a, b, t, h1, h2, h3⟩ := h
  exact ⟨c, a, b, t, h1, h2, (g.2 n hn).trans h3⟩
theorem Grow.dr {n : Nat} {G G' : GH} (g : Grow G G') (h : Deck G n) (hn : n < G.n) : Dr n G G' := ⟨g.1, fun m hm _ => g.2 m hm, h.grow hn g⟩
theorem Dr.lt {n : Nat} {G G' : GH} (x : Dr n G G') (h : n < G.n) : n < G'.n := Nat.lt_of_lt_of_le h x.le
end Lw

set_option Elab.async false
set_option linter.all false
set_option maxRecDepth 100000
namespace Lw
open PySem PySem.Spec PyProof.Rows L2 Fn
section
variable {G G0 : GH}
theorem add_iws {u v : List Int} (h : u.length + v.length ≤ 1000000) : fAddL false (.lst (iws u)) (.lst (iws v)) G = .ok (.lst (iws (u ++ v))) G := by
  show (match lsq G (.lst (iws u)), lsq G (.lst (iws v)) with | some i, some j => if i.length + j.length ≤ sizeLine then mkL false (i ++ j) G else .no | _, _ => .no) = _
  show (if (iws u).length + (iws v).length ≤ sizeLine then mkL false (iws u ++ iws v) G else .no) = _
  rw [if_pos (by rw [iws_len, iws_len, sizeLine_eq]; omega), iws_app]
  rfl
theorem lplain_w (d : Nat) (x : Pl) (wide : Bool) : f__law_term_words (d + 1) [x.w, .bl wide] G = .ok (.lst (iws (if wide then x.ws ++ [0, 0, 0, 0] else x.ws))) G := by
  rw [e__law_term_words]
  unfold b__law_term_words t__law_term_words_5 t__law_term_words_4 t__law_term_words_3 t__law_term_words_2 t__law_term_words_1
  have ad := add_iws (G := G) (u := x.ws) (v := [0, 0, 0, 0]) (by rw [x.ws_len]; simp)
  cases x <;> cases wide <;> simp [Pl.w, Pl.ws, lens, iws] at ad ⊢ <;> simp [ad]
theorem lterm_w (d : Nat) (x : Tm) : f__law_term_words (d + 2) [x.w, .bl true] G = .ok (.lst (iws x.ws)) G := by
  cases x with
  | pl x => exact lplain_w (d + 1) x true
  | cell a i t =>
    rw [e__law_term_words]
    unfold b__law_term_words t__law_term_words_5
    have pw := lplain_w (G := G) d i false
    have ad := add_iws (G := G) (u := [3, a, 0, t]) (v := i.ws) (by rw [i.ws_len]; simp)
    rw [show iws [3, a, 0, t] = [.int 3, .int a, .int 0, .int t] from rfl] at ad
    simp at pw
    simp [Tm.w, Tm.ws, lens, pw, ad]
/-! ### a row's words, by the law -/
def gWide : FE := gOr (gOp fEq (gVar 1) (gC (.str "set"))) (gOr (gOp fEq (gVar 1) (gC (.str "test"))) (gOr (gOp fEq (gVar 1) (gC (.str "return"))) (gAnd (gOp fEq (gVar 1) (gC (.str "put"))) (gOp fEq (gVar 3) (gC (.int 3))))))
def TW (G0 : GH) (kind : String) (row : W) (k : Int) (us us' : List Int) : Prop := ∀ (G : GH) (m : Nat) (x4 x5 x6 : Option W), One G0 G m (iws us) →
  ∃ (m' : Nat) (y4 y5 y6 : Option W) (G' : GH), t__law_row_words_7 [some row, some (.str kind), some (.ref m), some (.int k), x4, x5, x6] G = .nx [some row, some (.str kind), some (.ref m'), some (.int k), y4, y5, y6] G' ∧ One G0 G' m' (iws us')
theorem tw_int {kind : String} {ws : List W} {k i : Int} {us : List Int} (h : L2.atI ws k = some (.int i)) (hu : us.length ≤ 1000) : TW G0 kind (.tup ws) k us (us ++ [i]) := fun G m x4 x5 x6 T => by
  have ap := mAppend_at (w := .int i) T.r (by rw [iws_len]; omega)
  rw [show iws us ++ [W.int i] = iws (us ++ [i]) from (iws_app us [i]).symm] at ap
  have c1 : cIsa [.int i, .op (.ty "int")] G = .ok (.bl true) G := cIsa_nb rfl rfl
  refine ⟨m, some (.int i), x5, x6, _, ?_, T.set _⟩
  unfold t__law_row_words_7 t__law_row_words_6
  simp [h, c1, isTy_at T.r, ap]
theorem sgn_indexW (s : Fin 6) : mIndex (.lst [.str "<", .str "<=", .str ">", .str ">=", .str "==", .str "!="]) [sgn (s.val : Int)] G = .ok (.int (s.val : Int)) G := by
  have s6 := s.isLt
  have : s.val = 0 ∨ s.val = 1 ∨ s.val = 2 ∨ s.val = 3 ∨ s.val = 4 ∨ s.val = 5 := by omega
  unfold mIndex lsq
  rcases this with q | q | q | q | q | q <;> rw [q] <;> simp [sgn, flatW, indexW, eqW]
theorem tw_sgn {kind : String} {ws : List W} {k : Int} {s : Fin 6} {us : List Int} (h : L2.atI ws k = some (sgn (s.val : Int))) (hu : us.length ≤ 1000) : TW G0 kind (.tup ws) k us (us ++ [(s.val : Int)]) := fun G m x4 x5 x6 T => by
  have ap := mAppend_at (w := .int (s.val : Int)) T.r (by rw [iws_len]; omega)
  rw [show iws us ++ [W.int (s.val : Int)] = iws (us ++ [(s.val : Int)]) from (iws_app us [(s.val : Int)]).symm] at ap
  obtain ⟨z, ez, _⟩ := sgn_index s
  have si := sgn_indexW (G := G) s
  rw [ez] at h si
  have c1 : cIsa [.str z, .op (.ty "int")] G = .ok (.bl false) G := cIsa_nb rfl rfl
  have c2 : cIsa [.str z, .op (.ty "str")] G = .ok (.bl true) G := cIsa_nb rfl rfl
  have ty : ∀ l, isTy "list" G (.lst l) = true := fun _ => rfl
  refine ⟨m, some (.str z), x5, x6, _, ?_, T.set _⟩
  unfold t__law_row_words_7 t__law_row_words_6 t__law_row_words_5
  simp [h, c1, c2, isTy_at T.r, ap, si, lens, ty]
theorem addT_at {m : Nat} {u v : List Int} (h : G.at_ m = some (.lst (iws u))) (hl : u.length + v.length ≤ 1000000) : fAddL true (.ref m) (.lst (iws v)) G = .ok (.ref G.n) (G.push (.lst (iws (u ++ v)))) := by
  have l1 : lsq G (.ref m) = some (iws u) := by unfold lsq; simp only [h]
  show (match lsq G (.ref m), lsq G (.lst (iws v)) with | some i, some j => if i.length + j.length ≤ sizeLine then mkL true (i ++ j) G else .no | _, _ => .no) = _
  rw [l1]
  show (if (iws u).length + (iws v).length ≤ sizeLine then mkL true (iws u ++ iws v) G else .no) = _
  rw [if_pos (by rw [iws_len, iws_len, sizeLine_eq]; omega), iws_app]
  rfl
theorem One.push {m : Nat} {us : List W} (T : One G0 G m us) (vs : List W) : One G0 (G.push (.lst vs)) G.n vs := ⟨T.grow.trans (Grow.push G _), push_same, T.grow.1, Nat.lt_succ_self _⟩
theorem tw_part {kind : String} {ws : List W} {w : W} {k : Int} {us v : List Int} (wide : Bool) (h : L2.atI ws k = some w) (nb : w.nb = true) (ti : isaW "int" w = some false) (ts : isaW "str" w = some false) (nc : kind ≠ "call") (hu : us.length + v.length ≤ 1000000)
    (hw : ∀ G m x4 x5 x6, gWide [some (.tup ws), some (.str kind), some (.ref m), some (.int k), x4, x5, x6] G = .ok (.bl wide) G) (hv : ∀ G, f__law_term_words 3 [w, .bl wide] G = .ok (.lst (iws v)) G) : TW G0 kind (.tup ws) k us (us ++ v) := fun G m x4 x5 x6 T => by
  have ad := addT_at T.r hu
  have c1 : cIsa [w, .op (.ty "int")] G = .ok (.bl false) G := cIsa_nb nb ti
  have c2 : cIsa [w, .op (.ty "str")] G = .ok (.bl false) G := cIsa_nb nb ts
  refine ⟨G.n, some w, x5, some (.bl wide), _, ?_, T.push _⟩
  have hw' := hw G m (some w) x5 x6
  unfold gWide at hw'
  unfold t__law_row_words_7 t__law_row_words_6 t__law_row_words_5 t__law_row_words_4
  rw [gSeq_ev, gAsg_ev, gOp_ev, gVar_ev (i := 0) (w := .tup ws) rfl, bind_ok, gVar_ev (i := 3) (w := .int k) rfl, bind_ok, fIx_tup, h, optR_some, thn_ok, tgName_ev]
  show gIfS _ _ _ [some (.tup ws), some (.str kind), some (.ref m), some (.int k), some w, x5, x6] G = _
  rw [gIfS_ev]
  simp only [gTru_ev, gCall_ev, gCons_ev, gNil_ev, gC_ev, gVar_ev (i := 4) (w := w) (ρ := [some (.tup ws), some (.str kind), some (.ref m), some (.int k), some w, x5, x6]) rfl, bind_ok, c1, asTru_bl, thn_ok, Bool.false_eq_true, if_false]
  rw [gIfS_ev]
  simp only [gTru_ev, gCall_ev, gCons_ev, gNil_ev, gC_ev, gVar_ev (i := 4) (w := w) (ρ := [some (.tup ws), some (.str kind), some (.ref m), some (.int k), some w, x5, x6]) rfl, bind_ok, c2, asTru_bl, thn_ok, Bool.false_eq_true, if_false]
  rw [gIfS_ev]
  simp only [gTest_ev, gOp_ev, gC_ev, gVar_ev (i := 1) (w := .str (Str.ofString kind)) (ρ := [some (.tup ws), some (.str kind), some (.ref m), some (.int k), some w, x5, x6]) rfl, bind_ok, fEq_s, asB_ev, thn_ok, str_lit, nc, decide_false, Bool.false_eq_true, if_false]
  rw [gSeq_ev, gAsg_ev, hw', thn_ok, tgName_ev]
  simp only [List.set_cons_succ, List.set_cons_zero, seq_nx]
  rw [gAsg_ev]
  simp only [gOp_ev, gCall_ev, gCons_ev, gNil_ev, gVar_ev (i := 2) (w := .ref m) (ρ := [some (.tup ws), some (.str kind), some (.ref m), some (.int k), some w, x5, some (.bl wide)]) rfl, gVar_ev (i := 4) (w := w) (ρ := [some (.tup ws), some (.str kind), some (.ref m), some (.int k), some w, x5, some (.bl wide)]) rfl, gVar_ev (i := 6) (w := .bl wide) (ρ := [some (.tup ws), some (.str kind), some (.ref m), some (.int k), some w, x5, some (.bl wide)]) rfl, bind_ok, cFn_ev (n := 2) (ws := [w, .bl wide]) rfl, hv, calm_ok, ad, thn_ok, tgName_ev]
  rfl
theorem arg_tw {m : Nat} {us : List Int} {x : Ar} {x0 x1 x3 x4 : Option W} {x6 : Option W} (T : One G0 G m (iws us)) (hu : us.length ≤ 1000) : ∃ (m' : Nat) (G' : GH), t__law_row_words_1 [x0, x1, some (.ref m), x3, x4, some x.w, x6] G = .nx [x0, x1, some (.ref m'), x3, x4, some x.w, x6] G' ∧ One G0 G' m' (iws (us ++ x.ws)) := by
  unfold t__law_row_words_1
  cases x with
  | pl x =>
    obtain ⟨s, l, e, _, nl⟩ := x.tag
    have pw := fun G => lplain_w (G := G) 2 x false
    have l1 : lsq G (.ref m) = some (iws us) := by unfold lsq; simp only [T.r]
    have a1 : fAddL false (.ref m) (.lst [.int 1]) G = .ok (.lst (iws (us ++ [1]))) G := by
      show (match lsq G (.ref m), lsq G (.lst [.int 1]) with | some i, some j => if i.length + j.length ≤ sizeLine then mkL false (i ++ j) G else .no | _, _ => .no) = _
      rw [l1]
      show (if (iws us).length + 1 ≤ sizeLine then mkL false (iws us ++ [.int 1]) G else .no) = _
      rw [if_pos (by rw [iws_len, sizeLine_eq]; omega), iws_app]
      rfl
    have a2 : fAddL true (.lst (iws (us ++ [1]))) (.lst (iws x.ws)) G = .ok (.ref G.n) (G.push (.lst (iws (us ++ (1 :: x.ws))))) := by
      show (if (iws (us ++ [1])).length + (iws x.ws).length ≤ sizeLine then mkL true (iws (us ++ [1]) ++ iws x.ws) G else .no) = _
      rw [if_pos (by rw [iws_len, iws_len, sizeLine_eq, x.ws_len]; simp; omega), ← iws_app, List.append_assoc]
      rfl
    refine ⟨G.n, _, ?_, T.push (iws (us ++ (1 :: x.ws)))⟩
    simp only [Ar.w] at pw ⊢
    simp only [Bool.false_eq_true, if_false] at pw
    rw [e] at pw ⊢
    simp [nl, lens, a1, pw, a2]
  | lst b =>
    have ad := addT_at (v := [0, b, 0, 0, 0]) T.r (by simp; omega)
    rw [show iws [0, b, 0, 0, 0] = [.int 0, .int b, .int 0, .int 0, .int 0] from rfl] at ad
    refine ⟨G.n, _, ?_, T.push (iws (us ++ [0, b, 0, 0, 0]))⟩
    simp [Ar.w, lens, ad]
theorem args_tw {x0 x1 x3 x4 x6 : Option W} : ∀ (l : List Ar) (us : List Int) (m : Nat) (G : GH) (x5 : Option W), One G0 G m (iws us) → us.length + 5 * l.length ≤ 1000 → ∃ (m' : Nat) (y5 : Option W) (G' : GH), forF (tgName 5) t__law_row_words_1 (l.map Ar.w) [x0, x1, some (.ref m), x3, x4, x5, x6] G = .nx [x0, x1, some (.ref m'), x3, x4, y5, x6] G' ∧ One G0 G' m' (iws (us ++ (l.map Ar.ws).flatten))
  | [], us, m, G, x5, T, hl => ⟨m, x5, G, rfl, by simpa using T⟩
  | x :: l, us, m, G, x5, T, hl => by
    obtain ⟨m1, G1, e1, T1⟩ := arg_tw (x := x) (x0 := x0) (x1 := x1) (x3 := x3) (x4 := x4) (x6 := x6) T (by simp at hl; omega)
    obtain ⟨m2, y5, G2, e2, T2⟩ := args_tw l (us ++ x.ws) m1 G1 (some x.w) T1 (by simp [x.ws_len] at hl ⊢; omega)
    refine ⟨m2, y5, G2, ?_, ?_⟩
    · rw [List.map_cons, forF_nx (w := x.w) (ρ := [x0, x1, some (.ref m), x3, x4, x5, x6]) (G := G) rfl e1, e2]
    · rw [List.map_cons, List.flatten_cons, ← List.append_assoc]
      exact T2
theorem tw_call {ws : List W} {k : Int} {l : List Ar} {us : List Int} (h : L2.atI ws k = some (.tup (l.map Ar.w))) (hu : us.length + 5 * l.length ≤ 900) : TW G0 "call" (.tup ws) k us (us ++ ((l.length : Int) :: (l.map Ar.ws).flatten)) := fun G m x4 x5 x6 T => by
  have ap := mAppend_at (w := .int (l.length : Int)) T.r (by rw [iws_len]; omega)
  rw [show iws us ++ [W.int (l.length : Int)] = iws (us ++ [(l.length : Int)]) from (iws_app us [(l.length : Int)]).symm] at ap
  have nb : (W.tup (l.map Ar.w)).nb = true := by simp only [W.nb]; exact (Ar.ws_nb l).1
  have c1 : cIsa [.tup (l.map Ar.w), .op (.ty "int")] G = .ok (.bl false) G := cIsa_nb nb rfl
  have c2 : cIsa [.tup (l.map Ar.w), .op (.ty "str")] G = .ok (.bl false) G := cIsa_nb nb rfl
  obtain ⟨m', y5, G', e, T'⟩ := args_tw (x0 := some (.tup ws)) (x1 := some (.str "call")) (x3 := some (.int k)) (x4 := some (.tup (l.map Ar.w))) (x6 := x6) l (us ++ [(l.length : Int)]) m _ x5 (T.set (iws (us ++ [(l.length : Int)]))) (by simp; omega)
  refine ⟨m', some (.tup (l.map Ar.w)), y5, x6, G', ?_, by rw [List.append_assoc] at T'; exact T'⟩
  unfold t__law_row_words_7 t__law_row_words_6 t__law_row_words_5 t__law_row_words_4 t__law_row_words_3 t__law_row_words_2
  simp [h, c1, c2, isTy_at T.r, ap, e]
end
end Lw

set_option Elab.async false
set_option linter.all false
set_option maxRecDepth 100000
namespace Lw
open PySem PySem.Spec PyProof.Rows L2 Fn
section
variable {G G0 : GH}
/-- a part, and its words -/
def PT (G0 : GH) (kind : String) (row : W) (k : Int) (v : List Int) : Prop := ∀ us : List Int, us.length ≤ 100 → TW G0 kind row k us (us ++ v)
theorem pts_loop {kind : String} {row : W} : ∀ (ps : List (Int × List Int)), (∀ p ∈ ps, PT G0 kind row p.1 p.2) → ∀ (us : List Int) (m : Nat) (G : GH) (x3 x4 x5 x6 : Option W), One G0 G m (iws us) → us.length + (ps.map fun p => p.2).flatten.length ≤ 100 →
    ∃ (m' : Nat) (y3 y4 y5 y6 : Option W) (G' : GH), forF (tgName 3) t__law_row_words_7 (ps.map fun p => W.int p.1) [some row, some (.str kind), some (.ref m), x3, x4, x5, x6] G = .nx [some row, some (.str kind), some (.ref m'), y3, y4, y5, y6] G' ∧ One G0 G' m' (iws (us ++ (ps.map fun p => p.2).flatten))
  | [], _, us, m, G, x3, x4, x5, x6, T, _ => ⟨m, x3, x4, x5, x6, G, rfl, by simpa using T⟩
  | p :: ps, h, us, m, G, x3, x4, x5, x6, T, hl => by
    rw [List.map_cons, List.flatten_cons, List.length_append] at hl
    obtain ⟨m1, y4, y5, y6, G1, e1, T1⟩ := h p List.mem_cons_self us (by omega) G m x4 x5 x6 T
    obtain ⟨m2, z3, z4, z5, z6, G2, e2, T2⟩ := pts_loop ps (fun q hq => h q (List.mem_cons_of_mem _ hq)) (us ++ p.2) m1 G1 (some (.int p.1)) y4 y5 y6 T1 (by rw [List.length_append]; omega)
    refine ⟨m2, z3, z4, z5, z6, G2, ?_, ?_⟩
    · rw [List.map_cons, forF_nx (w := .int p.1) (ρ := [some row, some (.str kind), some (.ref m), x3, x4, x5, x6]) (G := G) rfl e1, e2]
    · rw [List.map_cons, List.flatten_cons, ← List.append_assoc]
      exact T2
def kindsL : W := .lst [.str "set", .str "put", .str "swap", .str "choose", .str "call", .str "test", .str "jump", .str "fail", .str "return"]
theorem rng_from1 {n : Nat} (hn : n ≤ 1000) : asRng2 [.int 1, .int ((n + 1 : Nat) : Int)] G = .ok (.vals (rngW 1 n)) G := by
  show (if small62 1 && small62 ((n + 1 : Nat) : Int) then R.ok (Wk.vals (rngW 1 (((n + 1 : Nat) : Int) - 1).toNat)) G else .no) = _
  rw [small_ok (n := 1) (by omega) (by omega), small_ok (n := ((n + 1 : Nat) : Int)) (by omega) (by omega), show (((n + 1 : Nat) : Int) - 1).toNat = n by omega]
  rfl
theorem start_k (k : FS) {kind : String} {rest : List W} {i : Int} (hi : mIndex kindsL [.str kind] G = .ok (.int i) G) :
    gSeq (gAsg (gOp fIx (gVar 0) (gC (.int 0))) (tgName 1)) (gSeq (gAsg (gLst true (gCons (gOp (fAddL false) (gMt "list" mIndex (gLst false (gCons (gC (.str "set")) (gCons (gC (.str "put")) (gCons (gC (.str "swap")) (gCons (gC (.str "choose")) (gCons (gC (.str "call")) (gCons (gC (.str "test")) (gCons (gC (.str "jump")) (gCons (gC (.str "fail")) (gCons (gC (.str "return")) gNil)))))))))) (gCons (gVar 1) gNil)) (gC (.int 1))) gNil)) (tgName 2)) k) [some (.tup (.str kind :: rest)), none, none, none, none, none, none] G = k [some (.tup (.str kind :: rest)), some (.str kind), some (.ref G.n), none, none, none, none] (G.push (.lst [.int (i + 1)])) := by
  have ty : ∀ l, isTy "list" G (.lst l) = true := fun _ => rfl
  unfold kindsL at hi
  simp [lens, ty, hi]
theorem start_9 {w0 : W} {x1 x2 x3 x4 x5 x6 : Option W} {rest : List W} (hr : rest.length ≤ 1000) (e0 : w0 = .tup rest) (h1 : 1 ≤ rest.length) : t__law_row_words_9 [some w0, x1, x2, x3, x4, x5, x6] G = (forF (tgName 3) t__law_row_words_7 (rngW 1 (rest.length - 1)) [some w0, x1, x2, x3, x4, x5, x6] G).seq t__law_row_words_8 := by
  subst e0
  have ag : gCons (gC (.int 1)) (gCons (gCall cLen (gCons (gVar 0) gNil)) gNil) [some (.tup rest), x1, x2, x3, x4, x5, x6] G = .ok [.int 1, .int ((rest.length - 1 + 1 : Nat) : Int)] G := by rw [Nat.sub_add_cancel h1]; simp
  unfold t__law_row_words_9
  rw [gSeq_ev, for_rng ag (rng_from1 (by omega))]
theorem row_start {kind : String} {rest : List W} {i : Int} (hi : mIndex kindsL [.str kind] G = .ok (.int i) G) (hr : rest.length ≤ 900) :
    b__law_row_words [some (.tup (.str kind :: rest)), none, none, none, none, none, none] G = (forF (tgName 3) t__law_row_words_7 (rngW 1 rest.length) [some (.tup (.str kind :: rest)), some (.str kind), some (.ref G.n), none, none, none, none] (G.push (.lst (iws [i + 1])))).seq t__law_row_words_8 := by
  have e9 := start_9 (G := G.push (.lst (iws [i + 1]))) (w0 := .tup (.str kind :: rest)) (x1 := some (.str kind)) (x2 := some (.ref G.n)) (x3 := none) (x4 := none) (x5 := none) (x6 := none) (rest := .str kind :: rest) (by simp; omega) rfl (by simp)
  rw [List.length_cons, Nat.add_sub_cancel] at e9
  rw [← e9]
  unfold b__law_row_words t__law_row_words_11 t__law_row_words_10
  exact start_k t__law_row_words_9 hi
theorem row_end {r : Rw} {kind : String} {rest : List W} (ps : List (Int × List Int)) {i : Int} (ew : r.w = .tup (.str kind :: rest)) (hi : mIndex kindsL [.str kind] G = .ok (.int i) G) (hr : rest.length ≤ 900) (ek : rngW 1 rest.length = ps.map fun p => W.int p.1) (es : r.ws = (i + 1) :: (ps.map fun p => p.2).flatten) (hl : r.ws.length ≤ 100)
    (h : ∀ p ∈ ps, PT G kind (.tup (.str kind :: rest)) p.1 p.2) : ∃ m G', f__law_row_words [r.w] G = .ok (.ref m) G' ∧ One G G' m (iws r.ws) := by
  rw [e__law_row_words, ew, row_start hi hr, ek]
  rw [es, List.length_cons] at hl
  obtain ⟨m', y3, y4, y5, y6, G', e, T⟩ := pts_loop ps h [i + 1] G.n _ none none none none (One.new G (iws [i + 1])) (by simp at hl ⊢; omega)
  refine ⟨m', G', ?_, by rw [es]; exact T⟩
  rw [e]
  unfold t__law_row_words_8
  simp
theorem pt_i {kind : String} {ws : List W} {k i : Int} (h : L2.atI ws k = some (.int i)) : PT G0 kind (.tup ws) k [i] := fun us hu => tw_int h (by omega)
theorem pt_s {kind : String} {ws : List W} {k : Int} {s : Fin 6} (h : L2.atI ws k = some (sgn (s.val : Int))) : PT G0 kind (.tup ws) k [(s.val : Int)] := fun us hu => tw_sgn h (by omega)
theorem pt_c {ws : List W} {k : Int} {l : List Ar} (h : L2.atI ws k = some (.tup (l.map Ar.w))) (hl : l.length ≤ 100) : PT G0 "call" (.tup ws) k ((l.length : Int) :: (l.map Ar.ws).flatten) := fun us hu => tw_call h (by omega)
theorem isa_wp (x : Pl) : isaW "int" x.w = some false ∧ isaW "str" x.w = some false := by cases x <;> exact ⟨rfl, rfl⟩
theorem isa_wt (x : Tm) : isaW "int" x.w = some false ∧ isaW "str" x.w = some false := by
  cases x with
  | pl x => exact isa_wp x
  | cell a i d => exact ⟨rfl, rfl⟩
theorem pt_p {kind : String} {ws : List W} {k : Int} {x : Pl} (h : L2.atI ws k = some x.w) (nc : kind ≠ "call") (hw : ∀ G m x4 x5 x6, gWide [some (.tup ws), some (.str kind), some (.ref m), some (.int k), x4, x5, x6] G = .ok (.bl false) G) : PT G0 kind (.tup ws) k x.ws := fun us hu =>
  tw_part false h x.w_nb.1 (isa_wp x).1 (isa_wp x).2 nc (by rw [x.ws_len]; omega) hw fun G => lplain_w 2 x false
theorem pt_t {kind : String} {ws : List W} {k : Int} {x : Tm} (h : L2.atI ws k = some x.w) (nc : kind ≠ "call") (hw : ∀ G m x4 x5 x6, gWide [some (.tup ws), some (.str kind), some (.ref m), some (.int k), x4, x5, x6] G = .ok (.bl true) G) : PT G0 kind (.tup ws) k x.ws := fun us hu =>
  tw_part true h x.w_nb.1 (isa_wt x).1 (isa_wt x).2 nc (by rw [x.ws_len]; omega) hw fun G => lterm_w 1 x
theorem kind_ix (kind : String) (i : Nat) (h : indexW (.str kind) [.str "set", .str "put", .str "swap", .str "choose", .str "call", .str "test", .str "jump", .str "fail", .str "return"] = some i) : mIndex kindsL [.str kind] G = .ok (.int (i : Int)) G := by
  unfold mIndex lsq kindsL
  simp [flatW, h]
theorem rww_ok (r : Rw) (hl : r.ws.length ≤ 100) : ∃ m G', f__law_row_words [r.w] G = .ok (.ref m) G' ∧ One G G' m (iws r.ws) := by
  cases r with
  | set a t =>
    exact row_end (i := 0) [(1, [a]), (2, t.ws)] rfl (kind_ix "set" 0 (by simp [indexW, eqW])) (by simp) rfl (by simp [Rw.ws]) hl (by
      intro p hp
      simp at hp
      rcases hp with rfl | rfl
      · exact pt_i (by simp)
      · exact pt_t (by simp) (by decide) (fun G m x4 x5 x6 => by unfold gWide; simp))
  | put a x t =>
    exact row_end (i := 1) [(1, [a]), (2, x.ws), (3, t.ws)] rfl (kind_ix "put" 1 (by simp [indexW, eqW])) (by simp) rfl (by simp [Rw.ws]) hl (by
      intro p hp
      simp at hp
      rcases hp with rfl | rfl | rfl
      · exact pt_i (by simp)
      · exact pt_p (by simp) (by decide) (fun G m x4 x5 x6 => by unfold gWide; simp)
      · exact pt_t (by simp) (by decide) (fun G m x4 x5 x6 => by unfold gWide; simp))
  | swap a x t =>
    exact row_end (i := 2) [(1, [a]), (2, x.ws), (3, t.ws)] rfl (kind_ix "swap" 2 (by simp [indexW, eqW])) (by simp) rfl (by simp [Rw.ws]) hl (by
      intro p hp
      simp at hp
      rcases hp with rfl | rfl | rfl
      · exact pt_i (by simp)
      · exact pt_p (by simp) (by decide) (fun G m x4 x5 x6 => by unfold gWide; simp)
      · exact pt_p (by simp) (by decide) (fun G m x4 x5 x6 => by unfold gWide; simp))
  | choose a x t =>
    exact row_end (i := 3) [(1, [a]), (2, x.ws), (3, t.ws)] rfl (kind_ix "choose" 3 (by simp [indexW, eqW])) (by simp) rfl (by simp [Rw.ws]) hl (by
      intro p hp
      simp at hp
      rcases hp with rfl | rfl | rfl
      · exact pt_i (by simp)
      · exact pt_p (by simp) (by decide) (fun G m x4 x5 x6 => by unfold gWide; simp)
      · exact pt_p (by simp) (by decide) (fun G m x4 x5 x6 => by unfold gWide; simp))
  | call a b l =>
    have ll : l.length ≤ 100 := by
      have := Ar.flat_len l
      simp only [Rw.ws, List.length_append, this] at hl
      omega
    exact row_end (i := 4) [(1, [a]), (2, [b]), (3, (l.length : Int) :: (l.map Ar.ws).flatten)] rfl (kind_ix "call" 4 (by simp [indexW, eqW])) (by simp) rfl (by simp [Rw.ws]) hl (by
      intro p hp
      simp only [List.mem_cons, List.not_mem_nil, or_false] at hp
      rcases hp with rfl | rfl | rfl
      · exact pt_i (by simp)
      · exact pt_i (by simp)
      · exact pt_c (by simp) ll)
  | test s x y g =>
    exact row_end (i := 5) [(1, [(s.val : Int)]), (2, x.ws), (3, y.ws), (4, [g])] rfl (kind_ix "test" 5 (by simp [indexW, eqW])) (by simp) rfl (by simp [Rw.ws]) hl (by
      intro p hp
      simp only [List.mem_cons, List.not_mem_nil, or_false] at hp
      rcases hp with rfl | rfl | rfl | rfl
      · exact pt_s (by simp)
      · exact pt_t (by simp) (by decide) (fun G m x4 x5 x6 => by unfold gWide; simp)
      · exact pt_t (by simp) (by decide) (fun G m x4 x5 x6 => by unfold gWide; simp)
      · exact pt_i (by simp))
  | jump g =>
    exact row_end (i := 6) [(1, [g])] rfl (kind_ix "jump" 6 (by simp [indexW, eqW])) (by simp) rfl (by simp [Rw.ws]) hl (by
      intro p hp
      simp at hp
      subst hp
      exact pt_i (by simp))
  | fail g =>
    exact row_end (i := 7) [(1, [g])] rfl (kind_ix "fail" 7 (by simp [indexW, eqW])) (by simp) rfl (by simp [Rw.ws]) hl (by
      intro p hp
      simp at hp
      subst hp
      exact pt_i (by simp))
  | ret t =>
    exact row_end (i := 8) [(1, t.ws)] rfl (kind_ix "return" 8 (by simp [indexW, eqW])) (by simp) rfl (by simp [Rw.ws]) hl (by
      intro p hp
      simp at hp
      subst hp
      exact pt_t (by simp) (by decide) (fun G m x4 x5 x6 => by unfold gWide; simp))
end
end Lw

set_option Elab.async false
set_option linter.all false
set_option maxRecDepth 100000
namespace Lw
open PySem PySem.Spec PyProof.Rows L2 Fn
section
variable {G G0 : GH}
theorem rngW_map : ∀ (n : Nat) (i : Nat), rngW (i : Int) n = (List.range' i n).map fun (k : Nat) => W.int (k : Int)
  | 0, i => rfl
  | n + 1, i => by
    rw [rngW, List.range'_succ, List.map_cons, show (i : Int) + 1 = ((i + 1 : Nat) : Int) by omega, rngW_map n (i + 1)]
theorem rngW0 (n : Nat) : rngW 0 n = (List.range n).map fun (k : Nat) => W.int (k : Int) := by
  rw [List.range_eq_range']
  exact rngW_map n 0
theorem flat_take (b : List Rw) (k : Nat) : flat (b.take k) = ((b.map Rw.ws).take k).flatten := by unfold flat; rw [List.map_take]
theorem offs_range : ∀ (b : List Rw) (p : Int), offs p b = (List.range b.length).map fun k => p + ((flat (b.take k)).length : Int)
  | [], p => rfl
  | r :: b, p => by
    rw [offs, List.length_cons, List.range_succ_eq_map, List.map_cons, List.map_map, offs_range b (p + r.ws.length)]
    congr 1
    · simp [flat]
    · refine List.map_congr_left fun k _ => ?_
      show _ = p + ((flat ((r :: b).take (k + 1))).length : Int)
      rw [List.take_succ_cons, flat_cons, List.length_append]
      omega
theorem rng_n {n : Nat} (hn : n ≤ 1000) : asRng1 [.int (n : Int)] G = .ok (.vals ((List.range n).map fun (k : Nat) => W.int (k : Int))) G := by
  rw [lread_rng (by omega), rngW0]
theorem lcI {own : Bool} {f : List W → GH → R Wk} {ga : FA} {t : FG1} {te : FE} {vs : List Nat} {ρ : En} {us ws rs : List W} {G G1 G2 G3 : GH} (h1 : ga ρ G = .ok us G1) (h2 : f us G1 = .ok (.vals ws) G2) (h3 : lcF t gYes te (wipeW ρ vs) ws G2 = .ok rs G3) (hl : rs.length ≤ 1000000) : gLc own (iRng f ga) t gYes te vs ρ G = mkL own rs G3 := by
  rw [gLc_ev, iRng_ev, h1, bind_ok, h2, bind_ok, lcW_vals, h3, calm_ok, bind_ok, if_pos (by rw [sizeLine_eq]; omega)]
theorem lcS {own : Bool} {gi : FE} {t : FG1} {te : FE} {vs : List Nat} {ρ : En} {w : W} {ws rs : List W} {G G1 G2 G3 : GH} (h1 : gi ρ G = .ok w G1) (h2 : asSeq w G1 = .ok (.vals ws) G2) (h3 : lcF t gYes te (wipeW ρ vs) ws G2 = .ok rs G3) (hl : rs.length ≤ 1000000) : gLc own (iSeq gi) t gYes te vs ρ G = mkL own rs G3 := by
  rw [gLc_ev, iSeq_ev, h1, bind_ok, h2, bind_ok, lcW_vals, h3, calm_ok, bind_ok, if_pos (by rw [sizeLine_eq]; omega)]
def rowsW (b : List Rw) : List W := b.map fun r => .lst (iws r.ws)
theorem cSum_ints (ns : List Int) : cSum [.lst (ns.map W.int)] G = .ok (.int ns.sum) G := by
  show (match intsOf (ns.map W.int) with | some ns => R.ok (W.int ns.sum) G | none => .no) = _
  rw [intsOf_map]
theorem len_sum (b : List Rw) : (b.map fun r => ((r.ws.length : Nat) : Int)).sum = ((flat b).length : Int) := by
  induction b with
  | nil => rfl
  | cons r b ih => rw [List.map_cons, List.sum_cons, ih, flat_cons, List.length_append]; omega
theorem lw_rows {b : List Rw} {x0 : W} {x1 x2 x3 x4 x5 : Option W} (e0 : x0 = .tup (b.map Rw.w)) (hb : ∀ r ∈ b, r.ws.length ≤ 100) (hl : b.length ≤ 100) : ∃ G', gLc false (iSeq (gVar 0)) (tgName 6) gYes (gFrz (gCall (cFn 1 f__law_row_words) (gCons (gVar 6) gNil))) [6] [some x0, x1, x2, x3, x4, x5, none] G = .ok (.lst (rowsW b)) G' ∧ Grow G G' := by
  subst e0
  obtain ⟨G', e, gr⟩ := lc_run (ρw := [some (.tup (b.map Rw.w)), x1, x2, x3, x4, x5, none]) (t := tgName 6) (te := gFrz (gCall (cFn 1 f__law_row_words) (gCons (gVar 6) gNil))) (Grow G) Rw.w (fun r => .lst (iws r.ws)) b (fun r m G1 g1 => by
    obtain ⟨k, G2, e2, T⟩ := rww_ok (G := G1) r (hb r m)
    have fz := frz_at T.r
    refine ⟨_, G2.del k, rfl, ?_, g1.trans (T.grow.del T.a)⟩
    simp [e2, fz]) G (Grow.refl G)
  exact ⟨G', lcS (w := .tup (b.map Rw.w)) rfl rfl e (by unfold rowsW; rw [List.length_map]; omega), gr⟩
theorem lw_place {b : List Rw} {k : Nat} {x0 x2 x3 x6 : Option W} (hl : b.length ≤ 100) : gCall cSum (gCons (gLc false (iSeq (gSl false (gVar 1) gNoPart (gPart (gVar 4)))) (tgName 5) gYes (gCall cLen (gCons (gVar 5) gNil)) [5]) gNil) [x0, some (.lst (rowsW b)), x2, x3, some (.int (k : Int)), none, x6] G = .ok (.int ((flat (b.take k)).length : Int)) G := by
  have hc : gSl false (gVar 1) gNoPart (gPart (gVar 4)) [x0, some (.lst (rowsW b)), x2, x3, some (.int (k : Int)), none, x6] G = .ok (.lst (rowsW (b.take k))) G := by
    simp [cut_at, rowsW, List.map_take]
  have h3 := lc_on (G := G) (ρw := [x0, some (.lst (rowsW b)), x2, x3, some (.int (k : Int)), none, x6]) (t := tgName 5) (te := gCall cLen (gCons (gVar 5) gNil)) (fun r : Rw => W.lst (iws r.ws)) (fun r => .int (r.ws.length : Int)) (b.take k) (fun r _ => by
    refine ⟨_, rfl, ?_⟩
    simp [iws_len])
  have ll : ((b.take k).map fun r : Rw => W.int (r.ws.length : Int)).length ≤ 1000000 := by rw [List.length_map, List.length_take]; omega
  have lc := lcS (own := false) (vs := [5]) hc rfl h3 ll
  have em : ((b.take k).map fun r => W.int (r.ws.length : Int)) = ((b.take k).map fun r => ((r.ws.length : Nat) : Int)).map W.int := by rw [List.map_map]; rfl
  rw [gCall_ev, gCons_ev, lc, mkL_false, bind_ok, gNil_ev, bind_ok, bind_ok, em, cSum_ints, len_sum]
theorem lw_places {b : List Rw} {x0 x2 x3 x5 x6 : Option W} (hl : b.length ≤ 100) (h5 : x5 = none) : gLc false (iRng asRng1 (gCons (gCall cLen (gCons (gVar 1) gNil)) gNil)) (tgName 4) gYes (gCall cSum (gCons (gLc false (iSeq (gSl false (gVar 1) gNoPart (gPart (gVar 4)))) (tgName 5) gYes (gCall cLen (gCons (gVar 5) gNil)) [5]) gNil)) [4] [x0, some (.lst (rowsW b)), x2, x3, none, x5, x6] G = .ok (.lst (iws (offs 0 b))) G := by
  subst h5
  have h1 : gCons (gCall cLen (gCons (gVar 1) gNil)) gNil [x0, some (.lst (rowsW b)), x2, x3, none, none, x6] G = .ok [.int ((b.length : Nat) : Int)] G := by simp [rowsW]
  have h3 := lc_on (G := G) (ρw := [x0, some (.lst (rowsW b)), x2, x3, none, none, x6]) (t := tgName 4) (te := gCall cSum (gCons (gLc false (iSeq (gSl false (gVar 1) gNoPart (gPart (gVar 4)))) (tgName 5) gYes (gCall cLen (gCons (gVar 5) gNil)) [5]) gNil)) (fun k : Nat => W.int (k : Int)) (fun k => .int ((flat (b.take k)).length : Int)) (List.range b.length) (fun k _ => ⟨_, rfl, lw_place hl⟩)
  have ll : ((List.range b.length).map fun k => W.int ((flat (b.take k)).length : Int)).length ≤ 1000000 := by rw [List.length_map, List.length_range]; omega
  have lc := lcI (own := false) (vs := [4]) h1 (rng_n (by omega)) h3 ll
  have em : ((List.range b.length).map fun k => W.int ((flat (b.take k)).length : Int)) = iws (offs 0 b) := by
    unfold iws
    rw [offs_range, List.map_map]
    refine List.map_congr_left fun k _ => ?_
    show W.int _ = W.int (0 + _)
    rw [Int.zero_add]
  rw [lc, mkL_false, em]
theorem flat_app (a c : List Rw) : flat (a ++ c) = flat a ++ flat c := by unfold flat; rw [List.map_append, List.flatten_append]
theorem asg_nx {g : FE} {i : Nat} {k : FS} {ρ : En} {w : W} {G1 : GH} (e : g ρ G = .ok w G1) : gSeq (gAsg g (tgName i)) k ρ G = k (ρ.set i (some w)) G1 := by
  rw [gSeq_ev, gAsg_ev, e, thn_ok, tgName_ev]
  rfl
theorem Rw.tg_ws {r : Rw} {g : Int} (h : r.tg = some g) : ∃ u, r.ws = u ++ [g] ∧ ∀ f, (r.mapT f).ws = u ++ [f g] := by
  cases r with
  | test s x y t => cases h; exact ⟨[6, (s.val : Int)] ++ (x.ws ++ y.ws), by simp [Rw.ws], fun f => by simp [Rw.ws, Rw.mapT]⟩
  | jump t => cases h; exact ⟨[7], rfl, fun f => rfl⟩
  | _ => cases h
theorem Rw.tag (r : Rw) : ∃ (k : String) (l : List W), r.w = .tup (.str (Str.ofString k) :: l) ∧ ((r.tg = none ∧ k ≠ "test" ∧ k ≠ "jump") ∨ (∃ g, r.tg = some g ∧ (k = "test" ∨ k = "jump"))) := by
  cases r with
  | set a t => exact ⟨"set", _, rfl, .inl ⟨rfl, by decide, by decide⟩⟩
  | put a x t => exact ⟨"put", _, rfl, .inl ⟨rfl, by decide, by decide⟩⟩
  | swap a x t => exact ⟨"swap", _, rfl, .inl ⟨rfl, by decide, by decide⟩⟩
  | choose a x t => exact ⟨"choose", _, rfl, .inl ⟨rfl, by decide, by decide⟩⟩
  | call a b l => exact ⟨"call", _, rfl, .inl ⟨rfl, by decide, by decide⟩⟩
  | test s x y g => exact ⟨"test", _, rfl, .inr ⟨g, rfl, .inl rfl⟩⟩
  | jump g => exact ⟨"jump", _, rfl, .inr ⟨g, rfl, .inr rfl⟩⟩
  | fail a => exact ⟨"fail", _, rfl, .inl ⟨rfl, by decide, by decide⟩⟩
  | ret t => exact ⟨"return", _, rfl, .inl ⟨rfl, by decide, by decide⟩⟩
theorem lw_turn {bw rw : List W} {st acc : List Int} {r : Rw} {k : Int} {x5 x6 : Option W} (hb : L2.atI bw k = some r.w) (hr : L2.atI rw k = some (.lst (iws r.ws))) (ht : ∀ t, r.tg = some t → L2.atI (iws st) t = some (.int (pl st t))) (hl : acc.length + r.ws.length ≤ 100000) :
    ∃ y5, t__law_words_3 [some (.tup bw), some (.lst rw), some (.lst (iws st)), some (.lst (iws acc)), some (.int k), x5, x6] G = .nx [some (.tup bw), some (.lst rw), some (.lst (iws st)), some (.lst (iws (acc ++ (r.mapT (pl st)).ws))), some (.int k), y5, x6] G := by
  obtain ⟨kd, l, ew, tg⟩ := r.tag
  rw [ew] at hb
  unfold t__law_words_3 t__law_words_2 t__law_words_1
  rcases tg with ⟨tg, n1, n2⟩ | ⟨g, tg, kk⟩
  · have ad := add_iws (G := G) (u := acc) (v := r.ws) (by omega)
    have er : r.mapT (pl st) = r := Rw.mapT_id fun t e => by rw [tg] at e; cases e
    rw [er]
    refine ⟨some (.lst (iws r.ws)), ?_⟩
    simp [hb, hr, n1, n2, ad]
  · obtain ⟨u, eu, em⟩ := Rw.tg_ws tg
    rw [em]
    rw [eu] at hr hl
    have ad := add_iws (G := G) (u := u) (v := [pl st g]) (by simp at hl ⊢; omega)
    have ad2 := add_iws (G := G) (u := acc) (v := u ++ [pl st g]) (by simp at hl ⊢; omega)
    rw [show iws [pl st g] = [.int (pl st g)] from rfl] at ad
    have lst : L2.atI (iws (u ++ [g])) (u.length : Int) = some (.int g) := by
      refine atI_at (by omega) ?_
      unfold iws
      simp
    have c : cutW (iws (u ++ [g])) none (some (u.length : Int)) = iws u := by
      rw [cut_at, iws_app, List.take_append_of_le_length (by rw [iws_len]; omega), List.take_of_length_le (by rw [iws_len]; omega)]
    have hg := ht g tg
    have lm : ((iws (u ++ [g])).length : Int) - 1 = (u.length : Int) := by rw [iws_len]; simp
    refine ⟨some (.lst (iws (u ++ [pl st g]))), ?_⟩
    rcases kk with rfl | rfl <;> simp [hb, hr, lm, lst, c, hg, lens, ad, ad2]
theorem lw_loop {b : List Rw} {x6 : Option W} (hl : (flat b).length ≤ 100000) (ht : ∀ r ∈ b, ∀ t, r.tg = some t → 0 ≤ t ∧ t < b.length) : ∀ (n k : Nat) (acc : List Int) (x4 x5 : Option W), k + n = b.length → acc = flat ((b.take k).map (Rw.mapT (pl (offs 0 b)))) →
    ∃ y4 y5, forF (tgName 4) t__law_words_3 ((List.range' k n).map fun (k : Nat) => W.int (k : Int)) [some (.tup (b.map Rw.w)), some (.lst (rowsW b)), some (.lst (iws (offs 0 b))), some (.lst (iws acc)), x4, x5, x6] G = .nx [some (.tup (b.map Rw.w)), some (.lst (rowsW b)), some (.lst (iws (offs 0 b))), some (.lst (iws (wordsD b))), y4, y5, x6] G
  | 0, k, acc, x4, x5, hk, ha => ⟨x4, x5, by
    rw [ha, List.take_of_length_le (by omega)]
    rfl⟩
  | n + 1, k, acc, x4, x5, hk, ha => by
    have hkb : k < b.length := by omega
    have hm : b[k] ∈ b := List.getElem_mem hkb
    have e0 : b[k]? = some b[k] := List.getElem?_eq_getElem hkb
    have hb : L2.atI (b.map Rw.w) (k : Int) = some (b[k]).w := atI_at (by omega) (by rw [Int.toNat_natCast, List.getElem?_map, e0]; rfl)
    have hr : L2.atI (rowsW b) (k : Int) = some (.lst (iws (b[k]).ws)) := atI_at (by omega) (by unfold rowsW; rw [Int.toNat_natCast, List.getElem?_map, e0]; rfl)
    have fl : ∀ c : List Rw, (flat (c.map (Rw.mapT (pl (offs 0 b))))).length = (flat c).length := by
      intro c
      induction c with
      | nil => rfl
      | cons r c ih => rw [List.map_cons, flat_cons, flat_cons, List.length_append, List.length_append, Rw.mapT_len, ih]
    have sp : flat b = flat (b.take k) ++ (b[k]).ws ++ flat (b.drop (k + 1)) := by
      have hs : b = b.take k ++ b[k] :: b.drop (k + 1) := by rw [← List.drop_eq_getElem_cons hkb, List.take_append_drop]
      have := congrArg flat hs
      rw [flat_app, flat_cons, ← List.append_assoc] at this
      exact this
    have la : acc.length + (b[k]).ws.length ≤ 100000 := by
      rw [ha, fl]
      have := congrArg List.length sp
      simp at this
      omega
    obtain ⟨y5, e1⟩ := lw_turn (G := G) (x5 := x5) (x6 := x6) hb hr (fun t h => iws_at (ht _ hm t h).1 (by rw [offs_len]; exact (ht _ hm t h).2)) la
    obtain ⟨z4, z5, e2⟩ := lw_loop hl ht n (k + 1) (acc ++ ((b[k]).mapT (pl (offs 0 b))).ws) (some (.int (k : Int))) y5 (by omega) (by
      rw [ha, List.take_succ, e0, Option.toList_some, List.map_append]
      unfold flat
      simp)
    refine ⟨z4, z5, ?_⟩
    rw [List.range'_succ, List.map_cons, forF_nx (w := .int (k : Int)) (ρ := [some (.tup (b.map Rw.w)), some (.lst (rowsW b)), some (.lst (iws (offs 0 b))), some (.lst (iws acc)), x4, x5, x6]) (G := G) rfl e1, e2]
theorem lwords_ok {b : List Rw} (hb : ∀ r ∈ b, r.ws.length ≤ 100) (hl : b.length ≤ 100) (ht : ∀ r ∈ b, ∀ t, r.tg = some t → 0 ≤ t ∧ t < b.length) (hf : (flat b).length ≤ 100000) : ∃ G', f__law_words [.tup (b.map Rw.w)] G = .ok (tw (wordsD b)) G' ∧ Grow G G' := by
  obtain ⟨G1, e1, g1⟩ := lw_rows (G := G) (x0 := .tup (b.map Rw.w)) (x1 := none) (x2 := none) (x3 := none) (x4 := none) (x5 := none) rfl hb hl
  have e2 := lw_places (G := G1) (b := b) (x0 := some (.tup (b.map Rw.w))) (x2 := none) (x3 := none) (x5 := none) (x6 := none) hl rfl
  obtain ⟨y4, y5, e3⟩ := lw_loop (G := G1) (x6 := none) hf ht b.length 0 [] none none (by omega) rfl
  rw [← List.range_eq_range'] at e3
  have ag : gCons (gCall cLen (gCons (gVar 0) gNil)) gNil [some (.tup (b.map Rw.w)), some (.lst (rowsW b)), some (.lst (iws (offs 0 b))), some (.lst []), none, none, none] G1 = .ok [.int ((b.length : Nat) : Int)] G1 := by simp
  have e3' : forF (tgName 4) t__law_words_3 ((List.range b.length).map fun (k : Nat) => W.int (k : Int)) [some (.tup (b.map Rw.w)), some (.lst (rowsW b)), some (.lst (iws (offs 0 b))), some (.lst []), none, none, none] G1 = _ := e3
  have s1 : b__law_words [some (.tup (b.map Rw.w)), none, none, none, none, none, none] G = t__law_words_7 [some (.tup (b.map Rw.w)), some (.lst (rowsW b)), none, none, none, none, none] G1 := by
    unfold b__law_words t__law_words_8
    exact asg_nx e1
  have s2 : t__law_words_7 [some (.tup (b.map Rw.w)), some (.lst (rowsW b)), none, none, none, none, none] G1 = t__law_words_6 [some (.tup (b.map Rw.w)), some (.lst (rowsW b)), some (.lst (iws (offs 0 b))), none, none, none, none] G1 := by
    unfold t__law_words_7
    exact asg_nx e2
  have s3 : t__law_words_6 [some (.tup (b.map Rw.w)), some (.lst (rowsW b)), some (.lst (iws (offs 0 b))), none, none, none, none] G1 = t__law_words_5 [some (.tup (b.map Rw.w)), some (.lst (rowsW b)), some (.lst (iws (offs 0 b))), some (.lst []), none, none, none] G1 := by
    unfold t__law_words_6
    exact asg_nx (by rw [gLst_ev, gNil_ev, bind_ok, if_pos (lens _), mkL_false])
  have s4 : t__law_words_5 [some (.tup (b.map Rw.w)), some (.lst (rowsW b)), some (.lst (iws (offs 0 b))), some (.lst []), none, none, none] G1 = t__law_words_4 [some (.tup (b.map Rw.w)), some (.lst (rowsW b)), some (.lst (iws (offs 0 b))), some (.lst (iws (wordsD b))), y4, y5, none] G1 := by
    unfold t__law_words_5
    rw [gSeq_ev, for_rng ag (rng_n (by omega)), e3', seq_nx]
  refine ⟨G1, ?_, g1⟩
  rw [e__law_words, s1, s2, s3, s4]
  unfold t__law_words_4
  rw [gRet_ev, gCall_ev, gCons_ev, gVar_ev (i := 3) (w := .lst (iws (wordsD b))) rfl, bind_ok, gNil_ev, bind_ok, bind_ok, cTuple_lst, thn_ok, fin_rt, calm_ok]
  rfl
end
end Lw

set_option Elab.async false
set_option linter.all false
set_option maxRecDepth 100000
namespace Lw
open PySem PySem.Spec PyProof.Rows L2 Fn
section
variable {G : GH} {n m : Nat}
theorem Dr.refl {n : Nat} {G : GH} (h : Deck G n) : Dr n G G := ⟨Nat.le_refl _, fun _ _ _ => rfl, h⟩
structure Told (n m : Nat) (G0 G : GH) (us : List W) : Prop where
  dr : Dr n G0 G
  r : G.at_ m = some (.lst us)
  a : G0.n ≤ m
  b : m < G.n
  lt : n < G0.n
theorem Told.ne {n m : Nat} {G0 G : GH} {us : List W} (h : Told n m G0 G us) : m ≠ n := by have := h.a; have := h.lt; omega
theorem Told.draw {n m : Nat} {G0 G G' : GH} {us : List W} (h : Told n m G0 G us) (d : Drawn n G G') : Told n m G0 G' us := ⟨h.dr.trans d.dr, (d.2.1 m h.ne).trans h.r, h.a, by rw [d.1]; exact h.b, h.lt⟩
theorem Told.set {n m : Nat} {G0 G : GH} {us : List W} (h : Told n m G0 G us) (vs : List W) : Told n m G0 (G.set m (.lst vs)) vs := by
  refine ⟨⟨h.dr.le, fun k hk hn => ?_, ?_⟩, set_same, h.a, h.b, h.lt⟩
  · rw [set_ne (by have := h.a; omega)]; exact h.dr.keep k hk hn
  · obtain ⟨c, x, y, t, h1, h2, h3⟩ := h.dr.deck
    exact ⟨c, x, y, t, h1, h2, by rw [set_ne h.ne.symm]; exact h3⟩
theorem ixn {len k : Nat} (h : k < len) : L2.ixN len (k : Int) = some k := by unfold L2.ixN; simp; omega
theorem add1_ev (ga gb : FE) {ρ : En} {i j : Int} {G1 G2 : GH} (h1 : ga ρ G = .ok (.int i) G1) (h2 : gb ρ G1 = .ok (.int j) G2) : gOp (fAddL false) ga gb ρ G = .ok (.int (i + j)) G2 := by
  rw [gOp_ev, h1, bind_ok, h2, bind_ok, fAdd_i]
theorem seq_if_t {t : FT} {a b k : FS} {ρ : En} {G1 : GH} (e : t ρ G = .ok true G1) : gSeq (gIfS t a b) k ρ G = (a ρ G1).seq k := by
  rw [gSeq_ev, gIfS_ev, e, thn_ok, if_pos rfl]
theorem seq_if_f {t : FT} {a b k : FS} {ρ : En} {G1 : GH} (e : t ρ G = .ok false G1) : gSeq (gIfS t a b) k ρ G = (b ρ G1).seq k := by
  rw [gSeq_ev, gIfS_ev, e, thn_ok, if_neg (by decide)]
theorem asg_only {g : FE} {i : Nat} {ρ : En} {w : W} {G1 : GH} (e : g ρ G = .ok w G1) : gAsg g (tgName i) ρ G = .nx (ρ.set i (some w)) G1 := by
  rw [gAsg_ev, e, thn_ok, tgName_ev]
theorem flat_le {b : List Rw} : (∀ r ∈ b, r.ws.length ≤ 19) → (flat b).length ≤ 19 * b.length := by
  induction b with
  | nil => intro _; simp [flat]
  | cons r b ih =>
    intro h
    have := ih fun x m => h x (List.mem_cons_of_mem _ m)
    have := h r List.mem_cons_self
    rw [flat_cons, List.length_append, List.length_cons]
    omega
theorem flat_mapT (f : Int → Int) (b : List Rw) : (flat (b.map (Rw.mapT f))).length = (flat b).length := by
  induction b with
  | nil => rfl
  | cons r b ih => rw [List.map_cons, flat_cons, flat_cons, List.length_append, List.length_append, Rw.mapT_len, ih]
theorem ne_tw (ws : List Int) : fNe (tw ws) (tw ws) G = .ok (.bl false) G := by
  have nb : (tw ws).nb = true := by simp only [W.nb]; exact nbs_ints ws
  rw [fNe_nb nb nb (by simp only [W.dep, deps_ints]; decide), eqW_self nb]
  rfl
theorem call1 {f : FC} {g : FE} {ρ : En} {w v : W} {G1 G2 : GH} (h1 : g ρ G = .ok w G1) (h2 : f [w] G1 = .ok v G2) : gCall (cFn 1 f) (gCons g gNil) ρ G = .ok v G2 := by
  rw [gCall_ev, gCons_ev, h1, bind_ok, gNil_ev, bind_ok, bind_ok, cFn_ev (n := 1) (ws := [w]) rfl, h2, calm_ok]
theorem op2 {f : F2} {a b : FE} {ρ : En} {u v w : W} {G1 G2 G3 : GH} (h1 : a ρ G = .ok u G1) (h2 : b ρ G1 = .ok v G2) (h3 : f u v G2 = .ok w G3) : gOp f a b ρ G = .ok w G3 := by
  rw [gOp_ev, h1, bind_ok, h2, bind_ok, h3]
theorem tst {g : FE} {ρ : En} {b : Bool} {G1 : GH} (h : g ρ G = .ok (.bl b) G1) : gTest g ρ G = .ok b G1 := by rw [gTest_ev, h, bind_ok, asB_ev]
theorem tru {g : FE} {ρ : En} {b : Bool} {G1 : GH} (h : g ρ G = .ok (.bl b) G1) : gTru g ρ G = .ok b G1 := by rw [gTru_ev, h, bind_ok, asTru_bl]
theorem notT {t : FT} {ρ : En} {b : Bool} {G1 : GH} (h : t ρ G = .ok b G1) : gNotT t ρ G = .ok (!b) G1 := by rw [gNotT_ev, h, bind_ok]
theorem orF {t u : FT} {ρ : En} {b : Bool} {G1 G2 : GH} (h : t ρ G = .ok false G1) (h2 : u ρ G1 = .ok b G2) : gOrT t u ρ G = .ok b G2 := by rw [gOrT_ev, h, bind_ok, if_neg (by decide), h2]
theorem vr {i : Nat} {ρ : En} {w : W} (h : ρ[i]? = some (some w)) : gVar i ρ G = .ok w G := gVar_ev h
theorem andV {a b : FE} {ρ : En} {k : Bool} {G1 G2 : GH} (h : a ρ G = .ok (.bl true) G1) (h2 : b ρ G1 = .ok (.bl k) G2) : gAnd a b ρ G = .ok (.bl k) G2 := by
  rw [gAnd_ev, h, bind_ok]
  exact h2
theorem if_only_f {t : FT} {a b : FS} {ρ : En} {G1 : GH} (e : t ρ G = .ok false G1) : gIfS t a b ρ G = b ρ G1 := by
  rw [gIfS_ev, e, thn_ok, if_neg (by decide)]
abbrev kd : W := .tup [.int 1, .int 3, .int 2]
theorem number_ok (h : Deck G n) : ∃ (i : Int) (G' : GH), f__law_number [.ref n] G = .ok (.int i) G' ∧ Drawn n G G' := by
  rw [e__law_number]
  unfold b__law_number t__law_number_3 t__law_number_2
  obtain ⟨d, G1, e1, d0, d9, r1⟩ := drawn 12 h
  by_cases hd : d = 11
  · subst hd
    obtain ⟨k, G2, e2, _, _, r2⟩ := drawn 1000000000 r1.deck
    refine ⟨k - 500000000, G2, ?_, r1.trans r2⟩
    have mu := fMul_i (G := G2) (i := 5) (j := 100000000) (.inl (by decide))
    simp [e1, e2, mu]
  · refine ⟨d - 4, G1, ?_, r1⟩
    unfold t__law_number_1
    simp [e1, hd]
theorem plainK (h : Deck G n) : ∃ (x : Pl) (G' : GH), f__law_plain [.ref n, kd] G = .ok x.w G' ∧ Drawn n G G' := by
  rw [e__law_plain]
  unfold b__law_plain t__law_plain_4 t__law_plain_3
  obtain ⟨d, G1, e1, d0, d9, r1⟩ := drawn 6 h
  by_cases hd : d = 0
  · subst hd
    obtain ⟨i, G2, e2, r2⟩ := number_ok r1.deck
    refine ⟨.num i, G2, ?_, r1.trans r2⟩
    simp [e1, e2, lens, Pl.w]
  · unfold t__law_plain_2
    by_cases h1 : d = 1
    · subst h1
      obtain ⟨i, G2, e2, _, _, r2⟩ := drawn 2 r1.deck
      obtain ⟨j, G3, e3, _, _, r3⟩ := drawn 4 r2.deck
      refine ⟨.len i (j - 2), G3, ?_, (r1.trans r2).trans r3⟩
      simp [e1, e2, e3, lens, Pl.w]
    · obtain ⟨i, G2, e2, _, _, r2⟩ := drawn 3 r1.deck
      obtain ⟨j, G3, e3, _, _, r3⟩ := drawn 5 r2.deck
      refine ⟨.var i (j - 2), G3, ?_, (r1.trans r2).trans r3⟩
      unfold t__law_plain_1
      simp [e1, hd, h1, e2, e3, lens, Pl.w]
theorem termK (h : Deck G n) : ∃ (x : Tm) (G' : GH), f__law_term [.ref n, kd] G = .ok x.w G' ∧ Drawn n G G' := by
  rw [e__law_term]
  unfold b__law_term t__law_term_3 t__law_term_2
  obtain ⟨x, G1, e1, r1⟩ := plainK h
  obtain ⟨d, G2, e2, d0, d9, r2⟩ := drawn 3 r1.deck
  by_cases hd : d = 0
  · subst hd
    obtain ⟨i, G3, e3, _, _, r3⟩ := drawn 2 r2.deck
    obtain ⟨j, G4, e4, _, _, r4⟩ := drawn 3 r3.deck
    refine ⟨.cell i x (j - 1), G4, ?_, ((r1.trans r2).trans r3).trans r4⟩
    simp [e1, e2, e3, e4, lens, Tm.w]
  · refine ⟨.pl x, G2, ?_, r1.trans r2⟩
    unfold t__law_term_1
    simp [e1, e2, hd, Tm.w]
theorem arg_turnK {G0 : GH} {as : List Ar} {x2 x6 : Option W} {i j : Int} (T : Told n m G0 G (as.map Ar.w)) (hl : as.length < 1000) :
    ∃ (a : Ar) (i' j' : Int) (G' : GH), t__law_arguments_1 [some (.ref n), some kd, x2, some (.int i), some (.int j), some (.ref m), x6] G = .nx [some (.ref n), some kd, x2, some (.int i'), some (.int j'), some (.ref m), x6] G' ∧ Told n m G0 G' ((as ++ [a]).map Ar.w) := by
  have lst : ∀ {G1 : GH} {k : Int} , Told n m G0 G1 (as.map Ar.w) → mAppend (.ref m) [.tup [.str "list", .int k]] G1 = .ok .non (G1.set m (.lst ((as ++ [Ar.lst k]).map Ar.w))) := fun T1 => by
    rw [mAppend_at T1.r (by rw [List.length_map]; omega), List.map_append]
    rfl
  have pln : ∀ {G1 : GH} {x : Pl} , Told n m G0 G1 (as.map Ar.w) → mAppend (.ref m) [x.w] G1 = .ok .non (G1.set m (.lst ((as ++ [Ar.pl x]).map Ar.w))) := fun T1 => by
    rw [mAppend_at T1.r (by rw [List.length_map]; omega), List.map_append]
    rfl
  unfold t__law_arguments_1
  have ty : ∀ {G1 : GH}, Told n m G0 G1 (as.map Ar.w) → isTy "list" G1 (.ref m) = true := fun T1 => isTy_at T1.r
  by_cases hi : i = 0
  · subst hi
    obtain ⟨k, G1, e1, _, _, r1⟩ := drawn 2 T.dr.deck
    have T1 := T.draw r1
    exact ⟨.lst k, 0, j - 1, _, by simp [ty T, ty T1, e1, lens, lst T1], T1.set _⟩
  · by_cases hj : 0 < j
    · obtain ⟨d, G1, e1, _, _, r1⟩ := drawn 2 T.dr.deck
      have T1 := T.draw r1
      by_cases hd : d = 0
      · subst hd
        obtain ⟨k, G2, e2, _, _, r2⟩ := drawn 2 T1.dr.deck
        have T2 := T1.draw r2
        exact ⟨.lst k, i, j - 1, _, by simp [hi, hj, e1, ty T1, ty T2, e2, lens, lst T2], T2.set _⟩
      · obtain ⟨x, G2, e2, r2⟩ := plainK T1.dr.deck
        have T2 := T1.draw r2
        exact ⟨.pl x, i - 1, j, _, by simp [hi, hj, e1, hd, ty T1, ty T2, e2, lens, pln T2], T2.set _⟩
    · obtain ⟨x, G2, e2, r2⟩ := plainK T.dr.deck
      have T2 := T.draw r2
      exact ⟨.pl x, i - 1, j, _, by simp [hi, hj, ty T, ty T2, e2, lens, pln T2], T2.set _⟩
theorem arg_loopK {G0 : GH} {x2 : Option W} : ∀ (us : List W) (as : List Ar) (i j : Int) (x6 : Option W) (G : GH), Told n m G0 G (as.map Ar.w) → as.length + us.length < 1000 →
    ∃ (bs : List Ar) (y3 y4 y6 : Option W) (G' : GH), forF (tgName 6) t__law_arguments_1 us [some (.ref n), some kd, x2, some (.int i), some (.int j), some (.ref m), x6] G = .nx [some (.ref n), some kd, x2, y3, y4, some (.ref m), y6] G' ∧ Told n m G0 G' (bs.map Ar.w) ∧ bs.length = as.length + us.length
  | [], as, i, j, x6, G, T, _ => ⟨as, _, _, x6, G, rfl, T, rfl⟩
  | u :: us, as, i, j, x6, G, T, hl => by
    rw [List.length_cons] at hl
    obtain ⟨a, i', j', G1, e1, T1⟩ := arg_turnK (x2 := x2) (x6 := some u) (i := i) (j := j) T (by omega)
    obtain ⟨bs, y3, y4, y6, G', e2, T2, l2⟩ := arg_loopK us (as ++ [a]) i' j' (some u) G1 T1 (by simp; omega)
    refine ⟨bs, y3, y4, y6, G', ?_, T2, by rw [l2]; simp; omega⟩
    rw [forF_nx (w := u) (ρ := [some (.ref n), some kd, x2, some (.int i), some (.int j), some (.ref m), x6]) (G := G) rfl e1]
    exact e2
theorem argsK (h : Deck G n) (hn : n < G.n) : ∃ (l : List Ar) (G' : GH), f__law_arguments [.ref n, kd, kd] G = .ok (.tup (l.map Ar.w)) G' ∧ Dr n G G' ∧ l.length = 3 := by
  have T0 : Told n G.n G (G.push (.lst [])) (([] : List Ar).map Ar.w) := ⟨Grow.dr (Grow.push G _) h hn, push_same, Nat.le_refl _, by simp, hn⟩
  obtain ⟨bs, y3, y4, y6, G', e, T, l⟩ := arg_loopK (x2 := some kd) (rngW 0 3) [] 1 2 none _ T0 (by rw [rngW_length]; simp)
  rw [rngW_length] at l
  refine ⟨bs, G', ?_, T.dr, by simpa using l⟩
  have s1 : b__law_arguments [some (.ref n), some kd, some kd, none, none, none, none] G = t__law_arguments_3 [some (.ref n), some kd, some kd, some (.int 1), some (.int 2), some (.ref G.n), none] (G.push (.lst [])) := by
    unfold b__law_arguments t__law_arguments_6
    rw [asg_nx (w := .int 1) (G1 := G) (by simp)]
    show t__law_arguments_5 _ _ = _
    unfold t__law_arguments_5
    rw [asg_nx (w := .int 2) (G1 := G) (by simp)]
    show t__law_arguments_4 _ _ = _
    unfold t__law_arguments_4
    rw [asg_nx (w := .ref G.n) (G1 := G.push (.lst [])) (by simp [lens])]
    rfl
  have ag : gCons (gOp (fAddL false) (gOp fIx (gVar 2) (gC (.int 0))) (gOp fIx (gVar 2) (gC (.int 2)))) gNil [some (.ref n), some kd, some kd, some (.int 1), some (.int 2), some (.ref G.n), none] (G.push (.lst [])) = .ok [.int ((3 : Nat) : Int)] (G.push (.lst [])) := by simp
  have s2 : t__law_arguments_3 [some (.ref n), some kd, some kd, some (.int 1), some (.int 2), some (.ref G.n), none] (G.push (.lst [])) = t__law_arguments_2 [some (.ref n), some kd, some kd, y3, y4, some (.ref G.n), y6] G' := by
    unfold t__law_arguments_3
    rw [gSeq_ev, for_rng ag (lread_rng (m := 3) (by omega)), e, seq_nx]
  rw [e__law_arguments, s1, s2]
  unfold t__law_arguments_2
  have ct := cTuple_at T.r
  rw [gRet_ev, gCall_ev, gCons_ev, gVar_ev (i := 5) (w := .ref G.n) rfl, bind_ok, gNil_ev, bind_ok, bind_ok, ct, thn_ok, fin_rt, calm_ok]
theorem bindR {α β : Type} {r : R α} {a : α} {G1 : GH} {f : α → GH → R β} (h : r = .ok a G1) : r.bind f = f a G1 := by rw [h]; rfl
abbrev fr3 : W := .lst [.int 0, .int 1, .int 2]
abbrev cl1 : W := .lst [.tup [.int 0, kd]]
theorem straight_ok (h : Deck G n) (hn : n < G.n) : ∃ (r : Rw) (G' : GH), f__law_straight [.ref n, kd, fr3, cl1] G = .ok r.w G' ∧ Dr n G G' ∧ r.tg = none ∧ r.ws.length ≤ 19 := by
  rw [e__law_straight]
  unfold b__law_straight
  obtain ⟨p, G1, e1, p0, p8, r1⟩ := drawn 8 h
  obtain ⟨a, G2, e2, a0, a3, r2⟩ := drawn 3 r1.deck
  have s6 : t__law_straight_7 [some (.ref n), some kd, some fr3, some cl1, none, none, none] G = t__law_straight_5 [some (.ref n), some kd, some fr3, some cl1, some (.int p), some (.int a), none] G2 := by
    unfold t__law_straight_7
    rw [asg_nx (w := .int p) (G1 := G1) (by simp [e1])]
    show t__law_straight_6 [some (.ref n), some kd, some fr3, some cl1, some (.int p), none, none] G1 = _
    unfold t__law_straight_6
    have ai : L2.atI [W.int 0, .int 1, .int 2] a = some (.int a) := by
      have : a = 0 ∨ a = 1 ∨ a = 2 := by omega
      rcases this with rfl | rfl | rfl <;> simp
    rw [asg_nx (w := .int a) (G1 := G2) (by simp [e2, ai])]
    rfl
  rw [s6]
  have r12 := r1.trans r2
  have tail : ∀ (r : Rw) (G' : GH), Dr n G2 G' → r.tg = none → r.ws.length ≤ 19 → t__law_straight_5 [some (.ref n), some kd, some fr3, some cl1, some (.int p), some (.int a), none] G2 = .rt r.w G' → ∃ (r : Rw) (G' : GH), (t__law_straight_5 [some (.ref n), some kd, some fr3, some cl1, some (.int p), some (.int a), none] G2).fin.calm = .ok r.w G' ∧ Dr n G G' ∧ r.tg = none ∧ r.ws.length ≤ 19 := fun r G' d t l e => ⟨r, G', by rw [e]; rfl, r12.dr.trans d, t, l⟩
  by_cases h2 : p < 2
  · obtain ⟨i, G3, e3, _, _, r3⟩ := drawn 2 r2.deck
    obtain ⟨x, G4, e4, r4⟩ := plainK r3.deck
    obtain ⟨t, G5, e5, r5⟩ := termK r4.deck
    refine tail (.put i x t) G5 ((r3.trans r4).trans r5).dr rfl (by simp [Rw.ws, x.ws_len, t.ws_len]) ?_
    unfold t__law_straight_5
    simp [h2, e3, e4, e5, lens, Rw.w]
  · by_cases h22 : p = 2
    · subst h22
      obtain ⟨i, G3, e3, _, _, r3⟩ := drawn 2 r2.deck
      obtain ⟨x, G4, e4, r4⟩ := plainK r3.deck
      obtain ⟨t, G5, e5, r5⟩ := plainK r4.deck
      refine tail (.swap i x t) G5 ((r3.trans r4).trans r5).dr rfl (by simp [Rw.ws, x.ws_len, t.ws_len]) ?_
      unfold t__law_straight_5 t__law_straight_4
      simp [e3, e4, e5, lens, Rw.w]
    · by_cases h3 : p = 3
      · subst h3
        obtain ⟨x, G4, e4, r4⟩ := plainK r2.deck
        obtain ⟨t, G5, e5, r5⟩ := plainK r4.deck
        refine tail (.choose a x t) G5 (r4.trans r5).dr rfl (by simp [Rw.ws, x.ws_len, t.ws_len]) ?_
        unfold t__law_straight_5 t__law_straight_4 t__law_straight_3
        simp [e4, e5, lens, Rw.w]
      · by_cases h4 : p = 4
        · subst h4
          obtain ⟨z, G3, e3, z0, z1, r3⟩ := drawn 1 r2.deck
          have hz : z = 0 := by omega
          subst hz
          obtain ⟨l, G4, e4, d4, ll⟩ := argsK r3.deck (by rw [r3.1, r2.1, r1.1]; exact hn)
          refine tail (.call a 0 l) G4 (r3.dr.trans d4) rfl (by simp only [Rw.ws, List.length_append, Ar.flat_len, ll, List.length_cons, List.length_nil]; omega) ?_
          unfold t__law_straight_5 t__law_straight_4 t__law_straight_3 t__law_straight_2
          simp [e3, e4, lens, Rw.w]
        · obtain ⟨t, G5, e5, r5⟩ := termK r2.deck
          refine tail (.set a t) G5 r5.dr rfl (by simp [Rw.ws, t.ws_len]) ?_
          unfold t__law_straight_5 t__law_straight_4 t__law_straight_3 t__law_straight_2 t__law_straight_1
          simp [h2, h22, h3, h4, e5, lens, Rw.w]
theorem testK {g : Int} (h : Deck G n) : ∃ (s : Fin 6) (x y : Tm) (G' : GH), f__law_test [.ref n, kd, .int g] G = .ok (Rw.test s x y g).w G' ∧ Drawn n G G' := by
  rw [e__law_test]
  unfold b__law_test t__law_test_2
  obtain ⟨p, G1, e1, p0, p6, r1⟩ := drawn 6 h
  obtain ⟨x, G2, e2, r2⟩ := termK r1.deck
  obtain ⟨y, G3, e3, r3⟩ := termK r2.deck
  have sg : L2.atI [W.str "<", .str "<=", .str ">", .str ">=", .str "==", .str "!="] p = some (sgn ((⟨p.toNat, by omega⟩ : Fin 6).val : Int)) := by
    have : p = 0 ∨ p = 1 ∨ p = 2 ∨ p = 3 ∨ p = 4 ∨ p = 5 := by omega
    rcases this with rfl | rfl | rfl | rfl | rfl | rfl <;> simp [sgn]
  refine ⟨⟨p.toNat, by omega⟩, x, y, G3, ?_, (r1.trans r2).trans r3⟩
  unfold t__law_test_1
  simp only [Rw.w]
  simp [e1, e2, e3, lens, sg]
/-- a row for a body of s rows -/
def Rok (s : Int) (r : Rw) : Prop := (∀ t, r.tg = some t → 0 ≤ t ∧ t < s) ∧ r.ws.length ≤ 19
theorem rowK {s : Int} (h : Deck G n) (hn : n < G.n) (h1 : 1 ≤ s) (h8 : s ≤ 30) : ∃ (r : Rw) (G' : GH), f__law_row [.ref n, .int s] G = .ok r.w G' ∧ Dr n G G' ∧ Rok s r := by
  rw [e__law_row]
  unfold b__law_row
  obtain ⟨p, G1, e1, p0, p8, r1⟩ := drawn 8 h
  obtain ⟨g, G2, e2, g0, g1, r2⟩ := draw_ok (m := s) r1.deck (by omega) (log2_of (by omega))
  have r12 := r1.trans r2
  have n2 : n < G2.n := by rw [r2.1, r1.1]; exact hn
  have s5 : t__law_row_7 [some (.ref n), some (.int s), none, none, none] G = t__law_row_4 [some (.ref n), some (.int s), some (.int p), some (.int g), some kd] G2 := by
    unfold t__law_row_7
    rw [asg_nx (w := .int p) (G1 := G1) (by simp [e1])]
    show t__law_row_6 [some (.ref n), some (.int s), some (.int p), none, none] G1 = _
    unfold t__law_row_6
    rw [asg_nx (w := .int g) (G1 := G2) (by simp [e2])]
    show t__law_row_5 [some (.ref n), some (.int s), some (.int p), some (.int g), none] G2 = _
    unfold t__law_row_5
    rw [asg_nx (w := kd) (G1 := G2) (by simp [lens])]
    rfl
  rw [s5]
  by_cases h2 : p < 2
  · obtain ⟨q, x, y, G3, e3, r3⟩ := testK (g := g) r2.deck
    refine ⟨.test q x y g, G3, ?_, (r12.trans r3).dr, ⟨fun t e => by cases e; exact ⟨g0, g1⟩, by simp [Rw.ws, x.ws_len, y.ws_len]⟩⟩
    unfold t__law_row_4
    simp [h2, e3]
  · by_cases h22 : p = 2
    · subst h22
      refine ⟨.jump g, G2, ?_, r12.dr, ⟨fun t e => by cases e; exact ⟨g0, g1⟩, by simp [Rw.ws]⟩⟩
      unfold t__law_row_4 t__law_row_3
      simp [lens, Rw.w]
    · by_cases h3 : p = 3
      · subst h3
        obtain ⟨t, G3, e3, r3⟩ := termK r2.deck
        obtain ⟨d, G4, e4, d0, d2, r4⟩ := drawn 2 r3.deck
        have hd : d = 0 ∨ d = 1 := by omega
        unfold t__law_row_4 t__law_row_3 t__law_row_2
        rcases hd with rfl | rfl
        · refine ⟨.fail (1 + g), G4, ?_, ((r12.trans r3).trans r4).dr, ⟨fun t e => (by cases e), by simp [Rw.ws]⟩⟩
          simp [lens, Rw.w, e3, e4]
        · refine ⟨.ret t, G4, ?_, ((r12.trans r3).trans r4).dr, ⟨fun t e => (by cases e), by simp [Rw.ws, t.ws_len]⟩⟩
          simp [lens, Rw.w, e3, e4]
      · obtain ⟨r, G3, e3, d3, tg, ln⟩ := straight_ok r2.deck n2
        refine ⟨r, G3, ?_, r12.dr.trans d3, ⟨fun t e => (by rw [tg] at e; cases e), ln⟩⟩
        unfold t__law_row_4 t__law_row_3 t__law_row_2 t__law_row_1
        simp [h2, h22, h3, lens, e3]
end
end Lw

set_option Elab.async false
set_option linter.all false
set_option maxRecDepth 100000
namespace Lw
open PySem PySem.Spec PyProof.Rows L2 Fn
/-- a row that does not go on -/
def endR : Rw → Bool
  | .ret _ | .fail _ | .jump _ => true
  | _ => false
structure Good (b : List Rw) : Prop where
  pos : 1 ≤ b.length
  le : b.length ≤ 40
  tg : ∀ r ∈ b, ∀ t, r.tg = some t → 0 ≤ t ∧ t < b.length
  last : ∀ r, b[b.length - 1]? = some r → endR r = true
def nextD (r : Rw) (a : Int) : List Int := match r with
  | .ret _ | .fail _ => []
  | .jump g => [g]
  | .test _ _ _ g => if g = a + 1 then [a + 1] else [a + 1, g]
  | _ => [a + 1]
def nx (b : List Rw) (a : Int) : List Int := match b[a.toNat]? with
  | some r => nextD r a
  | none => []
inductive Rch (b : List Rw) : Int → Prop
  | zero : Rch b 0
  | step {a t : Int} : Rch b a → t ∈ nx b a → Rch b t
theorem Rch.sub {b : List Rw} {S : Int → Prop} (h0 : S 0) (hs : ∀ a, S a → ∀ t ∈ nx b a, S t) : ∀ a, Rch b a → S a := fun a h => by
  induction h with
  | zero => exact h0
  | step _ m ih => exact hs _ ih _ m
section
variable {G G0 : GH} {b : List Rw}
theorem Good.next (g : Good b) {k : Nat} {r : Rw} (h : b[k]? = some r) (he : endR r = false) : k + 1 < b.length := by
  have hk := (List.getElem?_eq_some_iff.mp h).1
  by_cases e : k = b.length - 1
  · subst e
    rw [g.last r h] at he
    cases he
  · omega
theorem Good.nx (g : Good b) {a t : Int} (h0 : 0 ≤ a) (h : t ∈ nx b a) : 0 ≤ t ∧ t < b.length := by
  unfold Lw.nx at h
  cases e : b[a.toNat]? with
  | none => rw [e] at h; cases h
  | some r =>
    rw [e] at h
    have hm := List.mem_of_getElem? e
    have nxt : endR r = false → a + 1 < b.length := fun z => by have := g.next e z; omega
    simp only at h
    unfold nextD at h
    cases r with
    | ret x => cases h
    | fail x => cases h
    | jump q => rw [List.mem_singleton] at h; subst h; exact g.tg _ hm _ rfl
    | test s x y q =>
      have n := nxt rfl
      simp only at h
      split at h
      · rw [List.mem_singleton] at h; omega
      · rcases List.mem_cons.mp h with h | h
        · omega
        · rw [List.mem_singleton] at h; subst h; exact g.tg _ hm _ rfl
    | _ =>
      have n := nxt rfl
      rw [List.mem_singleton] at h; omega
theorem Good.rch (g : Good b) {a : Int} (h : Rch b a) : 0 ≤ a ∧ a < b.length := Rch.sub (S := fun a => 0 ≤ a ∧ a < b.length) ⟨by omega, by have := g.pos; omega⟩ (fun a h t m => g.nx h.1 m) a h
theorem row_at {k : Nat} {r : Rw} (h : b[k]? = some r) : L2.atI (b.map Rw.w) (k : Int) = some r.w := atI_at (by omega) (by rw [Int.toNat_natCast, List.getElem?_map, h]; rfl)
theorem next_ok {k : Nat} {r : Rw} (h : b[k]? = some r) : f__law_next [.tup (b.map Rw.w), .int (k : Int)] G = .ok (.lst (iws (nextD r k))) G := by
  rw [e__law_next]
  unfold b__law_next t__law_next_5 t__law_next_4 t__law_next_3 t__law_next_2 t__law_next_1
  have ra := row_at h
  cases r with
  | test s x y g =>
    by_cases hg : g = (k : Int) + 1
    · simp [ra, Rw.w, nextD, hg, lens, iws]
    · simp [ra, Rw.w, nextD, hg, lens, iws]
  | _ => simp [ra, Rw.w, nextD, lens, iws]
theorem steps_ok (g : Good b) {k : Nat} {r : Rw} (h : b[k]? = some r) : ∃ G', f_step_targets [.tup (b.map Rw.w), .int (k : Int)] G = .ok (.ref G.n) G' ∧ One G G' G.n (iws (nextD r k)) := by
  rw [e_step_targets]
  have ra := row_at h
  have hk := (List.getElem?_eq_some_iff.mp h).1
  have is1 := fun a : String => in_strs (G := G) a "return" "fail"
  have go : ∀ (us : List W), (t_step_targets_5 [some (.tup (b.map Rw.w)), some (.int (k : Int)), some r.w, none] G) = .rt (.ref G.n) (G.push (.lst us)) → us = iws (nextD r k) → ∃ G', (b_step_targets [some (.tup (b.map Rw.w)), some (.int (k : Int)), none, none] G).fin.calm = .ok (.ref G.n) G' ∧ One G G' G.n (iws (nextD r k)) := fun us e eu => by
    refine ⟨G.push (.lst us), ?_, by rw [← eu]; exact One.new G us⟩
    unfold b_step_targets t_step_targets_6
    rw [asg_nx (w := r.w) (G1 := G) (by simp [ra])]
    show (t_step_targets_5 [some (.tup (b.map Rw.w)), some (.int (k : Int)), some r.w, none] G).fin.calm = _
    rw [e]
    rfl
  unfold t_step_targets_5 t_step_targets_4 at go
  cases r with
  | ret t => exact go [] (by simp [Rw.w, is1, lens]) rfl
  | fail t => exact go [] (by simp [Rw.w, is1, lens]) rfl
  | jump q => exact go [.int q] (by simp [Rw.w, is1, lens]) rfl
  | test s x y q =>
    have n := g.next h rfl
    have n' : (k : Int) + 1 < b.length := by omega
    have ty := isTy_at (G := G.push (.lst [.int ((k : Int) + 1)])) (n := G.n) push_same
    have ap := mAppend_at (G := G.push (.lst [.int ((k : Int) + 1)])) (n := G.n) (w := .int q) push_same (by simp)
    rw [push_set] at ap
    have ir : res (G.push (.lst [.int ((k : Int) + 1)])) (.ref G.n) = .lst (iws [(k : Int) + 1]) := by unfold res; simp only [push_same]; rfl
    have ni : fIn true (.int q) (.ref G.n) (G.push (.lst [.int ((k : Int) + 1)])) = .ok (.bl (!decide (q = (k : Int) + 1))) (G.push (.lst [.int ((k : Int) + 1)])) := by
      unfold fIn
      rw [ir]
      unfold itemsD iws
      simp only [res, W.pl, pls_ints, deps_ints, inWs_ints, W.dep]
      simp
    unfold t_step_targets_3 t_step_targets_2 t_step_targets_1 at go
    by_cases hg : q = (k : Int) + 1
    · subst hg
      exact go [.int ((k : Int) + 1)] (by simp [Rw.w, is1, lens, n', ni]) (by simp [nextD, iws])
    · exact go [.int ((k : Int) + 1), .int q] (by simp [Rw.w, is1, lens, n', ni, hg, ty, ap]) (by simp [nextD, hg, iws])
  | _ =>
    have n := g.next h rfl
    have n' : (k : Int) + 1 < b.length := by omega
    unfold t_step_targets_3 t_step_targets_2 t_step_targets_1 at go
    exact go [.int ((k : Int) + 1)] (by simp [Rw.w, is1, lens, n']) rfl
end
end Lw

set_option Elab.async false
set_option linter.all false
set_option maxRecDepth 100000
namespace Lw
open PySem PySem.Spec PyProof.Rows L2 Fn
/-! ### the rows that can be come to -/
def tru_ (ks : List Int) : List W := ks.map fun _ => W.bl true
def keyL (ks : List Int) : List Key := ks.map .inl
theorem getW_tru (t : Int) : ∀ ks : List Int, getW (keyL ks) (tru_ ks) (.inl t) = if t ∈ ks then some (.bl true) else none
  | [] => rfl
  | k :: ks => by
    show (if (.inl k : Key) = .inl t then some (W.bl true) else getW (keyL ks) (tru_ ks) (.inl t)) = _
    rw [getW_tru t ks]
    by_cases e : k = t
    · subst e; simp
    · have e1 : ¬ (.inl k : Key) = .inl t := fun z => e (Sum.inl.inj z)
      have e2 : ¬ t = k := fun z => e z.symm
      simp [e1, e2]
theorem any_key (t : Int) : ∀ ks : List Int, ((keyL ks).any fun j => decide (j = .inl t)) = decide (t ∈ ks)
  | [] => rfl
  | k :: ks => by
    show (decide ((.inl k : Key) = .inl t) || (keyL ks).any _) = _
    rw [any_key t ks]
    by_cases e : k = t
    · subst e; simp
    · have e1 : ¬ (.inl k : Key) = .inl t := fun z => e (Sum.inl.inj z)
      have e2 : ¬ t = k := fun z => e z.symm
      simp [e1, e2]
theorem put_new {t : Int} {ks : List Int} (h : t ∉ ks) : putW (keyL ks) (tru_ ks) (.inl t) (.bl true) = (keyL (ks ++ [t]), tru_ (ks ++ [t])) := by
  unfold putW
  rw [any_key, decide_eq_false h, if_neg (by decide)]
  simp [keyL, tru_]
theorem put_old {t : Int} {ks : List Int} (h : t ∈ ks) : putW (keyL ks) (tru_ ks) (.inl t) (.bl true) = (keyL ks, tru_ ks) := by
  unfold putW
  rw [any_key, decide_eq_true h, if_pos rfl]
  congr 1
  have : ∀ ks : List Int, (((keyL ks).zip (tru_ ks)).map fun p => if p.1 = .inl t then W.bl true else p.2) = tru_ ks := by
    intro ks
    induction ks with
    | nil => rfl
    | cons k ks ih =>
      show (if (.inl k : Key) = .inl t then W.bl true else W.bl true) :: (((keyL ks).zip (tru_ ks)).map fun p => if p.1 = .inl t then W.bl true else p.2) = W.bl true :: tru_ ks
      rw [ih, ite_self]
  exact this ks
/-- a dict and a list of one's own -/
structure DS (G0 G : GH) (n1 n2 : Nat) (ks wt : List Int) : Prop where
  grow : Grow G0 G
  d : G.at_ n1 = some (.dic (keyL ks) (tru_ ks))
  l : G.at_ n2 = some (.lst (iws wt))
  a1 : G0.n ≤ n1
  b1 : n1 < G.n
  a2 : G0.n ≤ n2
  b2 : n2 < G.n
  ne : n1 ≠ n2
section
variable {G G0 : GH} {b : List Rw} {n1 n2 : Nat} {ks wt : List Int}
theorem DS.more (h : DS G0 G n1 n2 ks wt) {G' : GH} (g : Grow G G') : DS G0 G' n1 n2 ks wt :=
  ⟨h.grow.trans g, (g.2 _ h.b1).trans h.d, (g.2 _ h.b2).trans h.l, h.a1, Nat.lt_of_lt_of_le h.b1 g.1, h.a2, Nat.lt_of_lt_of_le h.b2 g.1, h.ne⟩
theorem DS.setD (h : DS G0 G n1 n2 ks wt) (us : List Int) : DS G0 (G.set n1 (.dic (keyL us) (tru_ us))) n1 n2 us wt :=
  ⟨h.grow.set h.a1 _, set_same, by rw [set_ne h.ne.symm]; exact h.l, h.a1, h.b1, h.a2, h.b2, h.ne⟩
theorem DS.setL (h : DS G0 G n1 n2 ks wt) (us : List Int) : DS G0 (G.set n2 (.lst (iws us))) n1 n2 ks us :=
  ⟨h.grow.set h.a2 _, by rw [set_ne h.ne]; exact h.d, set_same, h.a1, h.b1, h.a2, h.b2, h.ne⟩
def addT (s : List Int × List Int) (t : Int) : List Int × List Int := if t ∈ s.1 then s else (s.1 ++ [t], s.2 ++ [t])
theorem keyL_len (ks : List Int) : (keyL ks).length = ks.length := by unfold keyL; rw [List.length_map]
theorem rc_turn {x0 : Option W} {t : Int} (T : DS G0 G n1 n2 ks wt) (h1 : ks.length < 1000) (h2 : wt.length < 1000) :
    ∃ G', t_reached_1 [x0, some (.ref n1), some (.ref n2), some (.int t)] G = .nx [x0, some (.ref n1), some (.ref n2), some (.int t)] G' ∧ DS G0 G' n1 n2 (addT (ks, wt) t).1 (addT (ks, wt) t).2 := by
  have dl : dlook G (.ref n1) = some (keyL ks, tru_ ks) := by unfold dlook; simp only [T.d]
  have inx : fInX true (.int t) (.ref n1) G = .ok (.bl (!decide (t ∈ ks))) G := by
    unfold fInX
    rw [dl]
    show R.ok (W.bl (if true = true then !(getW (keyL ks) (tru_ ks) (.inl t)).isSome else (getW (keyL ks) (tru_ ks) (.inl t)).isSome)) G = _
    rw [getW_tru, if_pos rfl]
    by_cases h : t ∈ ks <;> simp [h]
  unfold t_reached_1 addT
  by_cases h : t ∈ ks
  · refine ⟨G, ?_, by rw [if_pos h]; exact T⟩
    rw [decide_eq_true h] at inx
    simp [inx]
  · have sx : fSetX (.ref n1) (.int t) (.bl true) G = some (G.set n1 (.dic (keyL (ks ++ [t])) (tru_ (ks ++ [t])))) := by
      unfold fSetX
      simp only [T.d, keyW]
      rw [if_pos (by rw [keyL_len, sizeLine_eq]; omega), put_new h]
    have T1 := T.setD (ks ++ [t])
    have ap := mAppend_at (w := .int t) T1.l (by rw [iws_len]; omega)
    rw [show iws wt ++ [W.int t] = iws (wt ++ [t]) from (iws_app wt [t]).symm] at ap
    refine ⟨_, ?_, by rw [if_neg h]; exact T1.setL (wt ++ [t])⟩
    rw [decide_eq_false h] at inx
    have st : gSetX (gC (.bl true)) (gVar 1) (gVar 3) [x0, some (.ref n1), some (.ref n2), some (.int t)] G = .nx [x0, some (.ref n1), some (.ref n2), some (.int t)] (G.set n1 (.dic (keyL (ks ++ [t])) (tru_ (ks ++ [t])))) := by
      unfold gSetX
      rw [gC_ev, thn_ok, vr (i := 1) (w := .ref n1) rfl, thn_ok, vr (i := 3) (w := .int t) rfl, thn_ok, sx]
    simp [inx, st, isTy_at T1.l, ap]
theorem rc_inner {x0 : Option W} : ∀ (ts ks wt : List Int) (x3 : Option W) (G : GH), DS G0 G n1 n2 ks wt → ks.length + ts.length < 1000 → wt.length + ts.length < 1000 →
    ∃ y3 G', forF (tgName 3) t_reached_1 (iws ts) [x0, some (.ref n1), some (.ref n2), x3] G = .nx [x0, some (.ref n1), some (.ref n2), y3] G' ∧ DS G0 G' n1 n2 (ts.foldl addT (ks, wt)).1 (ts.foldl addT (ks, wt)).2
  | [], ks, wt, x3, G, T, _, _ => ⟨x3, G, rfl, T⟩
  | t :: ts, ks, wt, x3, G, T, h1, h2 => by
    rw [List.length_cons] at h1 h2
    obtain ⟨G1, e1, T1⟩ := rc_turn (x0 := x0) (t := t) T (by omega) (by omega)
    have l1 : (addT (ks, wt) t).1.length ≤ ks.length + 1 ∧ (addT (ks, wt) t).2.length ≤ wt.length + 1 := by
      unfold addT
      split <;> simp
    obtain ⟨y3, G', e2, T2⟩ := rc_inner ts (addT (ks, wt) t).1 (addT (ks, wt) t).2 (some (.int t)) G1 T1 (by omega) (by omega)
    refine ⟨y3, G', ?_, T2⟩
    show forF (tgName 3) t_reached_1 (W.int t :: iws ts) _ G = _
    rw [forF_nx (w := .int t) (ρ := [x0, some (.ref n1), some (.ref n2), x3]) (G := G) rfl e1, e2]
theorem for_seq {g : FE} {t : FG1} {b : FS} {ρ : En} {vs : List W} {G G1 : GH} (h1 : g ρ G = .ok (.lst vs) G1) : gFor (iSeq g) t b ρ G = forF t b vs ρ G1 := by
  rw [gFor_ev, iSeq_ev, h1, bind_ok, asSeq_l, thn_ok, forW_vals]
theorem rc_outer {x3 : Option W} {a : Int} (g : Good b) (T : DS G0 G n1 n2 ks (wt ++ [a])) (h0 : 0 ≤ a) (ha : a < b.length) (h1 : ks.length < 900) (h2 : wt.length < 900) :
    ∃ y3 G', t_reached_2 [some (.tup (b.map Rw.w)), some (.ref n1), some (.ref n2), x3] G = .nx [some (.tup (b.map Rw.w)), some (.ref n1), some (.ref n2), y3] G' ∧ DS G0 G' n1 n2 ((nx b a).foldl addT (ks, wt)).1 ((nx b a).foldl addT (ks, wt)).2 := by
  have e0 : b[a.toNat]? = some (b[a.toNat]'(by omega)) := List.getElem?_eq_getElem _
  have en : nx b a = nextD (b[a.toNat]'(by omega)) a := by unfold nx; rw [e0]
  have pp := mPop_at (w := .int a) (us := iws wt) (by rw [T.l, iws_app]; rfl)
  have T1 := T.setL wt
  obtain ⟨G2, e2, o2⟩ := steps_ok (G := G.set n2 (.lst (iws wt))) g e0
  rw [show ((a.toNat : Nat) : Int) = a by omega] at e2 o2
  rw [← en] at o2
  have fz := frz_at o2.r
  have T2 := T1.more (o2.grow.del (Nat.le_refl _))
  have ty := isTy_at T.l
  have ev : gFrz (gCall (cFn 2 f_step_targets) (gCons (gVar 0) (gCons (gMt "list" mPop (gVar 2) gNil) gNil))) [some (.tup (b.map Rw.w)), some (.ref n1), some (.ref n2), x3] G = .ok (.lst (iws (nx b a))) (G2.del (G.set n2 (.lst (iws wt))).n) := by
    rw [gFrz_ev, gCall_ev, gCons_ev, vr (i := 0) (w := .tup (b.map Rw.w)) rfl, bind_ok, gCons_ev, gMt_ev, vr (i := 2) (w := .ref n2) rfl, bind_ok, if_pos ty, gNil_ev, bind_ok, pp, bind_ok, gNil_ev, bind_ok, bind_ok, bind_ok, cFn_ev (n := 2) (ws := [.tup (b.map Rw.w), .int a]) rfl, e2, calm_ok, bind_ok, fz]
  have nl : (nx b a).length ≤ 2 := by
    rw [en]
    unfold nextD
    split <;> first | simp | (split <;> simp)
  obtain ⟨y3, G', e3, T3⟩ := rc_inner (x0 := some (.tup (b.map Rw.w))) (nx b a) ks wt x3 _ T2 (by omega) (by omega)
  refine ⟨y3, G', ?_, T3⟩
  unfold t_reached_2
  rw [for_seq ev, e3]
theorem fold_add : ∀ (ts ks wt : List Int), (∀ x ∈ ks, x ∈ (ts.foldl addT (ks, wt)).1) ∧ (∀ x ∈ wt, x ∈ (ts.foldl addT (ks, wt)).2) ∧ (∀ t ∈ ts, t ∈ (ts.foldl addT (ks, wt)).1) ∧
    (∀ x ∈ (ts.foldl addT (ks, wt)).1, x ∈ ks ∨ (x ∈ ts ∧ x ∈ (ts.foldl addT (ks, wt)).2)) ∧ (∀ x ∈ (ts.foldl addT (ks, wt)).2, x ∈ wt ∨ x ∈ (ts.foldl addT (ks, wt)).1) ∧
    (ks.Nodup → (ts.foldl addT (ks, wt)).1.Nodup) ∧ (ts.foldl addT (ks, wt)).2.length + ks.length = wt.length + (ts.foldl addT (ks, wt)).1.length
  | [], ks, wt => ⟨fun x h => h, fun x h => h, fun t h => (by cases h), fun x h => .inl h, fun x h => .inl h, fun h => h, rfl⟩
  | t :: ts, ks, wt => by
    rw [List.foldl_cons]
    by_cases h : t ∈ ks
    · have e : addT (ks, wt) t = (ks, wt) := if_pos h
      rw [e]
      obtain ⟨a, b, c, d, f, g, l⟩ := fold_add ts ks wt
      refine ⟨a, b, fun x m => ?_, fun x m => ?_, f, g, l⟩
      · rcases List.mem_cons.mp m with rfl | m
        · exact a _ h
        · exact c _ m
      · rcases d x m with m | ⟨m, n⟩
        · exact .inl m
        · exact .inr ⟨List.mem_cons_of_mem _ m, n⟩
    · have e : addT (ks, wt) t = (ks ++ [t], wt ++ [t]) := if_neg h
      rw [e]
      obtain ⟨a, b, c, d, f, g, l⟩ := fold_add ts (ks ++ [t]) (wt ++ [t])
      refine ⟨fun x m => a x (List.mem_append_left _ m), fun x m => b x (List.mem_append_left _ m), fun x m => ?_, fun x m => ?_, fun x m => ?_, fun n => g ?_, by simp at l ⊢; omega⟩
      · rcases List.mem_cons.mp m with rfl | m
        · exact a _ (by simp)
        · exact c _ m
      · rcases d x m with m | ⟨m, n⟩
        · rcases List.mem_append.mp m with m | m
          · exact .inl m
          · rw [List.mem_singleton] at m; subst m; exact .inr ⟨List.mem_cons_self, b _ (by simp)⟩
        · exact .inr ⟨List.mem_cons_of_mem _ m, n⟩
      · rcases f x m with m | m
        · rcases List.mem_append.mp m with m | m
          · exact .inl m
          · rw [List.mem_singleton] at m; subst m; exact .inr (a _ (by simp))
        · exact .inr m
      · rw [List.nodup_append]
        exact ⟨n, by simp, fun x m y my => by rw [List.mem_singleton] at my; subst my; rintro rfl; exact h m⟩
theorem nodup_le : ∀ (n : Nat) (l : List Int), l.Nodup → (∀ x ∈ l, 0 ≤ x ∧ x < n) → l.length ≤ n
  | 0, l, _, h => by
    cases l with
    | nil => exact Nat.le_refl _
    | cons x l => have := h x List.mem_cons_self; omega
  | n + 1, l, hd, h => by
    by_cases m : (n : Int) ∈ l
    · have ih := nodup_le n (l.erase (n : Int)) (hd.erase _) fun x mx => by
        have mm := (List.Nodup.mem_erase_iff hd).mp mx
        have := h x mm.2
        have := mm.1
        omega
      rw [List.length_erase_of_mem m] at ih
      omega
    · have := nodup_le n l hd fun x mx => by
        have := h x mx
        have : x ≠ n := fun z => m (z ▸ mx)
        omega
      omega
/-- what holds ahead of each turn -/
structure RI (b : List Rw) (ks wt : List Int) : Prop where
  z : 0 ∈ ks
  r : ∀ a ∈ ks, Rch b a
  s : ∀ a ∈ wt, a ∈ ks
  c : ∀ a ∈ ks, a ∈ wt ∨ ∀ t ∈ nx b a, t ∈ ks
  n : ks.Nodup
theorem RI.step {a : Int} (h : RI b ks (wt ++ [a])) : RI b ((nx b a).foldl addT (ks, wt)).1 ((nx b a).foldl addT (ks, wt)).2 := by
  obtain ⟨f1, f2, f3, f4, f5, f6, _⟩ := fold_add (nx b a) ks wt
  have ra : Rch b a := h.r a (h.s a (by simp))
  refine ⟨f1 _ h.z, fun x m => ?_, fun x m => ?_, fun x m => ?_, f6 h.n⟩
  · rcases f4 x m with m | ⟨m, _⟩
    · exact h.r x m
    · exact .step ra m
  · rcases f5 x m with m | m
    · exact f1 _ (h.s x (List.mem_append_left _ m))
    · exact m
  · rcases f4 x m with m | ⟨_, m⟩
    · rcases h.c x m with m | m
      · rcases List.mem_append.mp m with m | m
        · exact .inl (f2 _ m)
        · rw [List.mem_singleton] at m; subst m; exact .inr f3
      · exact .inr fun t mt => f1 _ (m t mt)
    · exact .inl m
theorem RI.done (h : RI b ks []) (a : Int) : a ∈ ks ↔ Rch b a :=
  ⟨h.r a, fun r => Rch.sub (S := (· ∈ ks)) h.z (fun a m t mt => by
    rcases h.c a m with z | z
    · cases z
    · exact z t mt) a r⟩
theorem RI.len (g : Good b) (h : RI b ks wt) : ks.length ≤ b.length := nodup_le _ _ h.n fun x m => g.rch (h.r x m)
theorem rc_while (g : Good b) : ∀ (M : Nat) (ks wt : List Int) (x3 : Option W) (G : GH), RI b ks wt → DS G0 G n1 n2 ks wt → wt.length + (b.length - ks.length) ≤ M → M < 200 →
    ∃ ks' y3 G', gWhile (gTest (gOp fGt (gCall cLen (gCons (gVar 2) gNil)) (gC (.int 0)))) t_reached_2 [some (.tup (b.map Rw.w)), some (.ref n1), some (.ref n2), x3] G = .nx [some (.tup (b.map Rw.w)), some (.ref n1), some (.ref n2), y3] G' ∧ DS G0 G' n1 n2 ks' [] ∧ RI b ks' [] := by
  intro M
  induction M with
  | zero =>
    intro ks wt x3 G hi T hm _
    have hw : wt = [] := by cases wt with
      | nil => rfl
      | cons _ _ => simp at hm
    subst hw
    refine ⟨ks, x3, G, ?_, T, hi⟩
    have ln : cLen [.ref n2] G = .ok (.int 0) G := by rw [cLen_at T.l]; rfl
    rw [gWhile_eq]
    simp [ln]
  | succ M ih =>
    intro ks wt x3 G hi T hm hM
    rcases List.eq_nil_or_concat wt with rfl | ⟨wt0, a, rfl⟩
    · refine ⟨ks, x3, G, ?_, T, hi⟩
      have ln : cLen [.ref n2] G = .ok (.int 0) G := by rw [cLen_at T.l]; rfl
      rw [gWhile_eq]
      simp [ln]
    · rw [List.concat_eq_append] at hi T hm
      have ra := g.rch (hi.r a (hi.s a (by simp)))
      have kl := hi.len g
      have gl := g.le
      rw [List.length_append, List.length_singleton] at hm
      obtain ⟨y3, G1, e1, T1⟩ := rc_outer (x3 := x3) g T ra.1 ra.2 (by omega) (by omega)
      have hi1 := hi.step
      have kl1 := hi1.len g
      obtain ⟨_, _, _, _, _, _, fl⟩ := fold_add (nx b a) ks wt0
      obtain ⟨ks', z3, G', e2, T2, r2⟩ := ih _ _ y3 G1 hi1 T1 (by omega) (by omega)
      refine ⟨ks', z3, G', ?_, T2, r2⟩
      have ln : cLen [.ref n2] G = .ok (.int ((wt0.length + 1 : Nat) : Int)) G := by rw [cLen_at T.l, iws_len]; simp
      have tt : gTest (gOp fGt (gCall cLen (gCons (gVar 2) gNil)) (gC (.int 0))) [some (.tup (b.map Rw.w)), some (.ref n1), some (.ref n2), x3] G = .ok true G := by
        rw [tst (op2 (call1' (vr rfl) ln) gC_ev (fGt_i _ _))]
        congr 1
        exact decide_eq_true (by omega)
      rw [gWhile_eq, tt, thn_ok, if_pos rfl, e1]
      exact e2
where
  call1' {f : FC} {g : FE} {ρ : En} {w v : W} {G G1 G2 : GH} (h1 : g ρ G = .ok w G1) (h2 : f [w] G1 = .ok v G2) : gCall f (gCons g gNil) ρ G = .ok v G2 := by
    rw [gCall_ev, gCons_ev, h1, bind_ok, gNil_ev, bind_ok, bind_ok, h2]
end
end Lw

set_option Elab.async false
set_option linter.all false
set_option maxRecDepth 100000
namespace Lw
open PySem PySem.Spec PyProof.Rows L2 Fn
section
variable {G G0 : GH} {b : List Rw}
theorem reached_ok (g : Good b) : ∃ ks G', f_reached [.tup (b.map Rw.w)] G = .ok (.ref G.n) G' ∧ G'.at_ G.n = some (.dic (keyL ks) (tru_ ks)) ∧ Grow G G' ∧ (∀ a, a ∈ ks ↔ Rch b a) := by
  have T : DS G ((G.push (.dic (keyL [0]) (tru_ [0]))).push (.lst (iws [0]))) G.n (G.n + 1) [0] [0] := ⟨(Grow.push G _).trans (Grow.push _ _), by rw [push_ne (by simp)]; exact push_same, push_same (G := G.push (.dic (keyL [0]) (tru_ [0]))), Nat.le_refl _, by simp; omega, Nat.le_succ _, by simp, by omega⟩
  have hi : RI b [0] [0] := ⟨by simp, fun a m => by rw [List.mem_singleton] at m; subst m; exact .zero, fun a m => m, fun a m => .inl m, by simp⟩
  have gl := g.le
  obtain ⟨ks, y3, G', e, T', hd⟩ := rc_while g (1 + b.length) [0] [0] none _ hi T (by simp) (by omega)
  refine ⟨ks, G', ?_, T'.d, T'.grow, fun a => hd.done a⟩
  have gp := g.pos
  have s6 : b_reached [some (.tup (b.map Rw.w)), none, none, none] G = t_reached_5 [some (.tup (b.map Rw.w)), some (.ref G.n), none, none] (G.push (.dic (keyL [0]) (tru_ [0]))) := by
    unfold b_reached t_reached_6
    refine asg_nx ?_
    have : (0 : Int) < b.length := by omega
    have hb : b ≠ [] := by rintro rfl; simp at gp
    simp [this, hb, gDL, mkD, Lit.w, keyL, tru_]
  have ld : cListD true [.ref G.n] (G.push (.dic (keyL [0]) (tru_ [0]))) = .ok (.ref (G.n + 1)) ((G.push (.dic (keyL [0]) (tru_ [0]))).push (.lst (iws [0]))) := by
    unfold cListD dow
    simp only [push_same]
    rfl
  have s5 : t_reached_5 [some (.tup (b.map Rw.w)), some (.ref G.n), none, none] (G.push (.dic (keyL [0]) (tru_ [0]))) = t_reached_4 [some (.tup (b.map Rw.w)), some (.ref G.n), some (.ref (G.n + 1)), none] ((G.push (.dic (keyL [0]) (tru_ [0]))).push (.lst (iws [0]))) := by
    unfold t_reached_5
    refine asg_nx ?_
    rw [gCall_ev, gCons_ev, vr (i := 1) (w := .ref G.n) rfl, bind_ok, gNil_ev, bind_ok, bind_ok, ld]
  have s4 : t_reached_4 [some (.tup (b.map Rw.w)), some (.ref G.n), some (.ref (G.n + 1)), none] ((G.push (.dic (keyL [0]) (tru_ [0]))).push (.lst (iws [0]))) = t_reached_3 [some (.tup (b.map Rw.w)), some (.ref G.n), some (.ref (G.n + 1)), y3] G' := by
    unfold t_reached_4
    rw [gSeq_ev, e, seq_nx]
  rw [e_reached, s6, s5, s4]
  unfold t_reached_3
  rw [gRet_ev, vr (i := 1) (w := .ref G.n) rfl, thn_ok, fin_rt, calm_ok]
open Classical in
/-- the head that a row leads back to -/
noncomputable def backT (b : List Rw) (r : Rw) (i : Nat) : Option Int := match r.tg with
  | some t => if t ≤ i ∧ Rch b t then some t else none
  | none => none
def addK (fs : List Int) (t : Int) : List Int := if t ∈ fs then fs else fs ++ [t]
noncomputable def foldH (b : List Rw) : Nat → List Rw → List Int → List Int
  | _, [], fs => fs
  | i, r :: l, fs => foldH b (i + 1) l (match backT b r i with
    | some t => addK fs t
    | none => fs)
/-- a dict of one's own -/
structure OneD (G0 G : GH) (n : Nat) (ks : List Int) : Prop where
  grow : Grow G0 G
  d : G.at_ n = some (.dic (keyL ks) (tru_ ks))
  a : G0.n ≤ n
  b : n < G.n
theorem OneD.setD {n : Nat} {ks : List Int} (h : OneD G0 G n ks) (us : List Int) : OneD G0 (G.set n (.dic (keyL us) (tru_ us))) n us := ⟨h.grow.set h.a _, set_same, h.a, h.b⟩
theorem addK_len (fs : List Int) (t : Int) : (addK fs t).length ≤ fs.length + 1 := by unfold addK; split <;> simp
theorem setX_add {n : Nat} {fs : List Int} {t : Int} (T : OneD G0 G n fs) (hl : fs.length < 1000) : fSetX (.ref n) (.int t) (.bl true) G = some (G.set n (.dic (keyL (addK fs t)) (tru_ (addK fs t)))) := by
  unfold fSetX addK
  simp only [T.d, keyW]
  rw [if_pos (by rw [keyL_len, sizeLine_eq]; omega)]
  by_cases h : t ∈ fs
  · rw [if_pos h, put_old h]
  · rw [if_neg h, put_new h]
theorem atI_last {l : List W} {x : W} : L2.atI (l ++ [x]) (-1) = some x := by
  unfold L2.atI
  rw [show L2.ixN (l ++ [x]).length (-1) = some l.length by unfold L2.ixN; simp; omega]
  simp
theorem Rw.w_last {r : Rw} {t : Int} (h : r.tg = some t) : L2.atI (match r.w with | .tup l => l | _ => []) (-1) = some (.int t) := by
  cases r with
  | test s x y g => cases h; exact atI_last (l := [.str "test", sgn (s.val : Int), x.w, y.w])
  | jump g => cases h; exact atI_last (l := [.str "jump"])
  | _ => cases h
theorem hd_turn {n i : Nat} {fs ks : List Int} {r : Rw} {x0 : Option W} (T : OneD G0 G n fs) (hl : fs.length < 1000) (hk : ∀ a, a ∈ ks ↔ Rch b a) :
    ∃ G', t_heads_of_1 [x0, some (.dic (keyL ks) (tru_ ks)), some (.ref n), some (.int (i : Int)), some r.w] G = .nx [x0, some (.dic (keyL ks) (tru_ ks)), some (.ref n), some (.int (i : Int)), some r.w] G' ∧ OneD G0 G' n (match backT b r i with
      | some t => addK fs t
      | none => fs) := by
  obtain ⟨k, l, ew, tg⟩ := r.tag
  have is1 := in_strs (G := G) k "test" "jump"
  have wl := fun t h => Rw.w_last (r := r) (t := t) h
  rw [ew] at wl ⊢
  simp only at wl
  have i0 : gOp fIx (gVar 4) (gC (.int 0)) [x0, some (.dic (keyL ks) (tru_ ks)), some (.ref n), some (.int (i : Int)), some (.tup (.str k :: l))] G = .ok (.str k) G := by simp
  have tp : gTup (gCons (gC (.str "test")) (gCons (gC (.str "jump")) gNil)) [x0, some (.dic (keyL ks) (tru_ ks)), some (.ref n), some (.int (i : Int)), some (.tup (.str k :: l))] G = .ok (.tup [.str "test", .str "jump"]) G := by simp [lens]
  have c1 := tst (op2 i0 tp is1)
  unfold t_heads_of_1 backT
  rcases tg with ⟨tg, k1, k2⟩ | ⟨t, tg, kk⟩
  · refine ⟨G, ?_, by rw [tg]; exact T⟩
    have f0 : (decide ("test" = k) || decide ("jump" = k)) = false := by simp [Ne.symm k1, Ne.symm k2]
    rw [f0] at c1
    rw [if_only_f (G1 := G) (by rw [gAndT_ev, c1, bind_ok, if_neg (by decide)])]
    rfl
  · have t0 : (decide ("test" = k) || decide ("jump" = k)) = true := by rcases kk with rfl | rfl <;> simp
    rw [t0] at c1
    have lt := wl t tg
    have il : gOp fIx (gVar 4) (gNeg (gC (.int 1))) [x0, some (.dic (keyL ks) (tru_ ks)), some (.ref n), some (.int (i : Int)), some (.tup (.str k :: l))] G = .ok (.int t) G := by simp [lt]
    have c2 := tst (op2 il (vr (i := 3) (w := .int (i : Int)) rfl) (fLe_i t (i : Int)))
    have inx : fInX false (.int t) (.dic (keyL ks) (tru_ ks)) G = .ok (.bl (decide (t ∈ ks))) G := by
      unfold fInX
      show R.ok (W.bl (if false = true then !(getW (keyL ks) (tru_ ks) (.inl t)).isSome else (getW (keyL ks) (tru_ ks) (.inl t)).isSome)) G = _
      rw [getW_tru]
      by_cases h : t ∈ ks <;> simp [h]
    have c3 := tst (op2 il (vr (i := 1) (w := .dic (keyL ks) (tru_ ks)) rfl) inx)
    have cc : gAndT (gTest (gOp (fIn false) (gOp fIx (gVar 4) (gC (.int 0))) (gTup (gCons (gC (.str "test")) (gCons (gC (.str "jump")) gNil))))) (gAndT (gTest (gOp fLe (gOp fIx (gVar 4) (gNeg (gC (.int 1)))) (gVar 3))) (gTest (gOp (fInX false) (gOp fIx (gVar 4) (gNeg (gC (.int 1)))) (gVar 1)))) [x0, some (.dic (keyL ks) (tru_ ks)), some (.ref n), some (.int (i : Int)), some (.tup (.str k :: l))] G = .ok (decide (t ≤ (i : Int)) && decide (t ∈ ks)) G := by
      rw [gAndT_ev, c1, bind_ok, if_pos rfl, gAndT_ev, c2, bind_ok]
      by_cases h : t ≤ (i : Int)
      · rw [decide_eq_true h, if_pos rfl, c3, Bool.true_and]
      · rw [decide_eq_false h, if_neg (by decide), Bool.false_and]
    rw [tg]
    simp only
    by_cases hb : t ≤ (i : Int) ∧ Rch b t
    · rw [if_pos hb]
      have ct : (decide (t ≤ (i : Int)) && decide (t ∈ ks)) = true := by simp [hb.1, (hk t).mpr hb.2]
      rw [ct] at cc
      refine ⟨_, ?_, T.setD (addK fs t)⟩
      rw [gIfS_ev, cc, thn_ok, if_pos rfl]
      unfold gSetX
      rw [gC_ev, thn_ok, vr (i := 2) (w := .ref n) rfl, thn_ok, il, thn_ok, setX_add T hl]
    · rw [if_neg hb]
      have ct : (decide (t ≤ (i : Int)) && decide (t ∈ ks)) = false := by
        by_cases h : t ≤ (i : Int)
        · have : ¬ t ∈ ks := fun z => hb ⟨h, (hk t).mp z⟩
          simp [this]
        · simp [h]
      rw [ct] at cc
      exact ⟨G, by rw [if_only_f cc]; rfl, T⟩
theorem hd_loop {n : Nat} {ks : List Int} {x0 : Option W} (hk : ∀ a, a ∈ ks ↔ Rch b a) : ∀ (l : List Rw) (i : Nat) (fs : List Int) (x3 x4 : Option W) (G : GH), OneD G0 G n fs → fs.length + l.length < 1000 →
    ∃ y3 y4 G', forF (tgTup 2 (tgCons (tgName 3) (tgCons (tgName 4) tgNil))) t_heads_of_1 (enumFrom' i (l.map Rw.w)) [x0, some (.dic (keyL ks) (tru_ ks)), some (.ref n), x3, x4] G = .nx [x0, some (.dic (keyL ks) (tru_ ks)), some (.ref n), y3, y4] G' ∧ OneD G0 G' n (foldH b i l fs)
  | [], i, fs, x3, x4, G, T, _ => ⟨x3, x4, G, rfl, T⟩
  | r :: l, i, fs, x3, x4, G, T, hl => by
    rw [List.length_cons] at hl
    obtain ⟨G1, e1, T1⟩ := hd_turn (b := b) (i := i) (r := r) (x0 := x0) T (by omega) hk
    have ll : (match backT b r i with | some t => addK fs t | none => fs).length ≤ fs.length + 1 := by
      split
      · exact addK_len _ _
      · omega
    obtain ⟨y3, y4, G', e2, T2⟩ := hd_loop hk l (i + 1) _ (some (.int (i : Int))) (some r.w) G1 T1 (by omega)
    refine ⟨y3, y4, G', ?_, T2⟩
    show forF _ _ (W.tup [.int (i : Int), r.w] :: enumFrom' (i + 1) (l.map Rw.w)) _ G = _
    rw [forF_nx (w := .tup [.int (i : Int), r.w]) (ρ := [x0, some (.dic (keyL ks) (tru_ ks)), some (.ref n), x3, x4]) (G := G) (ρ1 := [x0, some (.dic (keyL ks) (tru_ ks)), some (.ref n), some (.int (i : Int)), some r.w]) rfl e1, e2]
/-- the heads -/
noncomputable def headsD (b : List Rw) : List Int := sortI (foldH b 0 b [])
theorem foldH_mem : ∀ (l : List Rw) (i : Nat) (fs : List Int) (t : Int), t ∈ foldH b i l fs ↔ t ∈ fs ∨ ∃ (k : Nat) (r : Rw), l[k]? = some r ∧ backT b r (i + k) = some t
  | [], i, fs, t => by simp [foldH]
  | r :: l, i, fs, t => by
    rw [foldH, foldH_mem l (i + 1)]
    have hs : (∃ (k : Nat) (q : Rw), (r :: l)[k]? = some q ∧ backT b q (i + k) = some t) ↔ backT b r i = some t ∨ ∃ (k : Nat) (q : Rw), l[k]? = some q ∧ backT b q (i + 1 + k) = some t := by
      constructor
      · rintro ⟨k, q, e, h⟩
        cases k with
        | zero => cases e; exact .inl h
        | succ k => exact .inr ⟨k, q, by simpa using e, by rw [show i + 1 + k = i + (k + 1) by omega]; exact h⟩
      · rintro (h | ⟨k, q, e, h⟩)
        · exact ⟨0, r, rfl, h⟩
        · exact ⟨k + 1, q, by simpa using e, by rw [show i + (k + 1) = i + 1 + k by omega]; exact h⟩
    rw [hs]
    cases hb : backT b r i with
    | none => simp
    | some u =>
      have : t ∈ addK fs u ↔ t ∈ fs ∨ t = u := by
        unfold addK
        split
        · rename_i m
          exact ⟨.inl, fun z => z.elim id fun z => z ▸ m⟩
        · simp
      simp only [this, Option.some.injEq, or_assoc, eq_comm]
theorem foldH_nodup : ∀ (l : List Rw) (i : Nat) (fs : List Int), fs.Nodup → (foldH b i l fs).Nodup
  | [], _, fs, h => h
  | r :: l, i, fs, h => by
    rw [foldH]
    refine foldH_nodup l (i + 1) _ ?_
    split
    · unfold addK
      split
      · exact h
      · rename_i m
        rw [List.nodup_append]
        exact ⟨h, by simp, fun x mx y my => by rw [List.mem_singleton] at my; subst my; rintro rfl; exact m mx⟩
    · exact h
theorem back_rch {r : Rw} {i : Nat} {t : Int} (h : backT b r i = some t) : r.tg = some t ∧ t ≤ i ∧ Rch b t := by
  unfold backT at h
  split at h
  · rename_i u hu
    split at h
    · rename_i c
      cases h
      exact ⟨hu, c⟩
    · cases h
  · cases h
theorem foldH_len (g : Good b) : (foldH b 0 b []).length ≤ b.length := nodup_le _ _ (foldH_nodup b 0 [] List.nodup_nil) fun x m => by
  rcases (foldH_mem b 0 [] x).mp m with m | ⟨k, r, _, h⟩
  · cases m
  · exact g.rch (back_rch h).2.2
theorem heads_ok (g : Good b) : ∃ m G', f_heads_of [.tup (b.map Rw.w)] G = .ok (.ref m) G' ∧ One G G' m (iws (headsD b)) := by
  obtain ⟨ks, G1, e1, hd, gr, hk⟩ := reached_ok (G := G) g
  have fz : frz (.ref G.n) G1 = .ok (.dic (keyL ks) (tru_ ks)) (G1.del G.n) := by unfold frz; simp only [hd]
  have g1 : Grow G (G1.del G.n) := gr.del (Nat.le_refl _)
  have T0 : OneD G ((G1.del G.n).push (.dic (keyL []) (tru_ []))) (G1.del G.n).n [] := ⟨g1.trans (Grow.push _ _), push_same, g1.1, Nat.lt_succ_self _⟩
  have gl := g.le
  obtain ⟨y3, y4, G2, e2, T2⟩ := hd_loop (x0 := some (.tup (b.map Rw.w))) hk b 0 [] none none _ T0 (by simp; omega)
  have fl := foldH_len g
  have so : cSortD true [.ref (G1.del G.n).n] G2 = .ok (.ref G2.n) (G2.push (.lst (iws (headsD b)))) := by
    unfold cSortD dow
    simp only [T2.d]
    show (match intKs ((foldH b 0 b []).map .inl) with | some is => if is.length < 64 then mkL true ((sortI is).map .int) G2 else .no | none => .no) = _
    rw [intKs_map]
    show (if (foldH b 0 b []).length < 64 then mkL true ((sortI (foldH b 0 b [])).map .int) G2 else .no) = _
    rw [if_pos (by omega)]
    rfl
  refine ⟨G2.n, _, ?_, ⟨T2.grow.trans (Grow.push G2 _), push_same, T2.grow.1, Nat.lt_succ_self _⟩⟩
  have s5 : b_heads_of [some (.tup (b.map Rw.w)), none, none, none, none] G = t_heads_of_4 [some (.tup (b.map Rw.w)), some (.dic (keyL ks) (tru_ ks)), none, none, none] (G1.del G.n) := by
    unfold b_heads_of t_heads_of_5
    refine asg_nx ?_
    rw [gFrz_ev, call1 (vr rfl) e1, bind_ok, fz]
  have s4 : t_heads_of_4 [some (.tup (b.map Rw.w)), some (.dic (keyL ks) (tru_ ks)), none, none, none] (G1.del G.n) = t_heads_of_3 [some (.tup (b.map Rw.w)), some (.dic (keyL ks) (tru_ ks)), some (.ref (G1.del G.n).n), none, none] ((G1.del G.n).push (.dic (keyL []) (tru_ []))) := by
    unfold t_heads_of_4
    exact asg_nx rfl
  have ag : gCons (gVar 0) gNil [some (.tup (b.map Rw.w)), some (.dic (keyL ks) (tru_ ks)), some (.ref (G1.del G.n).n), none, none] ((G1.del G.n).push (.dic (keyL []) (tru_ []))) = .ok [.tup (b.map Rw.w)] ((G1.del G.n).push (.dic (keyL []) (tru_ []))) := rfl
  have s3 : t_heads_of_3 [some (.tup (b.map Rw.w)), some (.dic (keyL ks) (tru_ ks)), some (.ref (G1.del G.n).n), none, none] ((G1.del G.n).push (.dic (keyL []) (tru_ []))) = t_heads_of_2 [some (.tup (b.map Rw.w)), some (.dic (keyL ks) (tru_ ks)), some (.ref (G1.del G.n).n), y3, y4] G2 := by
    unfold t_heads_of_3
    rw [gSeq_ev, for_rng (f := asEnumB) ag (show asEnumB [.tup (b.map Rw.w)] _ = .ok (.vals (enumFrom' 0 (b.map Rw.w))) _ from rfl), e2, seq_nx]
  rw [e_heads_of, s5, s4, s3]
  unfold t_heads_of_2
  rw [gRet_ev, gCall_ev, gCons_ev, vr (i := 2) (w := .ref (G1.del G.n).n) rfl, bind_ok, gNil_ev, bind_ok, bind_ok, so, thn_ok, fin_rt, calm_ok]
end
end Lw

set_option Elab.async false
set_option linter.all false
set_option maxRecDepth 100000
namespace Lw
open PySem PySem.Spec PyProof.Rows L2 Fn
def bls (l : List Bool) : List W := l.map W.bl
theorem bls_len (l : List Bool) : (bls l).length = l.length := by unfold bls; rw [List.length_map]
theorem bls_at {l : List Bool} {a : Int} (h0 : 0 ≤ a) (h : a < l.length) : L2.atI (bls l) a = some (.bl (l.getD a.toNat false)) := by
  refine atI_at h0 ?_
  unfold bls
  rw [List.getElem?_map, List.getElem?_eq_getElem (by omega), List.getD_eq_getElem?_getD, List.getElem?_eq_getElem (by omega)]
  rfl
theorem bls_set (l : List Bool) (k : Nat) : (bls l).set k (.bl true) = bls (l.set k true) := by unfold bls; rw [List.map_set]
/-- two lists of truth values, and a list that waits -/
structure CS (G0 G : GH) (n1 n2 m : Nat) (cs bs : List Bool) (wt : List Int) : Prop where
  grow : Grow G0 G
  c : G.at_ n1 = some (.lst (bls cs))
  k : G.at_ n2 = some (.lst (bls bs))
  w : G.at_ m = some (.lst (iws wt))
  a1 : G0.n ≤ n1
  b1 : n1 < G.n
  a2 : G0.n ≤ n2
  b2 : n2 < G.n
  a3 : G0.n ≤ m
  b3 : m < G.n
  n12 : n1 ≠ n2
  n13 : n1 ≠ m
  n23 : n2 ≠ m
section
variable {G G0 : GH} {b : List Rw} {n1 n2 m : Nat} {cs bs : List Bool} {wt : List Int}
theorem CS.setW (h : CS G0 G n1 n2 m cs bs wt) (us : List Int) : CS G0 (G.set m (.lst (iws us))) n1 n2 m cs bs us :=
  ⟨h.grow.set h.a3 _, by rw [set_ne h.n13]; exact h.c, by rw [set_ne h.n23]; exact h.k, set_same, h.a1, h.b1, h.a2, h.b2, h.a3, h.b3, h.n12, h.n13, h.n23⟩
theorem CS.setC (h : CS G0 G n1 n2 m cs bs wt) (us : List Bool) : CS G0 (G.set n1 (.lst (bls us))) n1 n2 m us bs wt :=
  ⟨h.grow.set h.a1 _, set_same, by rw [set_ne h.n12.symm]; exact h.k, by rw [set_ne h.n13.symm]; exact h.w, h.a1, h.b1, h.a2, h.b2, h.a3, h.b3, h.n12, h.n13, h.n23⟩
theorem CS.pushW (h : CS G0 G n1 n2 m cs bs wt) (us : List Int) : CS G0 (G.push (.lst (iws us))) n1 n2 G.n cs bs us :=
  ⟨h.grow.trans (Grow.push G _), by rw [push_ne (by have := h.b1; omega)]; exact h.c, by rw [push_ne (by have := h.b2; omega)]; exact h.k, push_same, h.a1, Nat.lt_succ_of_lt h.b1, h.a2, Nat.lt_succ_of_lt h.b2, h.grow.1, Nat.lt_succ_self _, h.n12, by have := h.b1; omega, by have := h.b2; omega⟩
def stepC (b : List Rw) (s : List Bool × List Int) : List Bool × List Int := match s.2.reverse with
  | [] => s
  | a :: r => if s.1.getD a.toNat false = true then (s.1, r.reverse) else (s.1.set a.toNat true, r.reverse ++ nx b a)
theorem stepC_nil : stepC b (cs, []) = (cs, []) := rfl
theorem stepC_snoc {a : Int} : stepC b (cs, wt ++ [a]) = if cs.getD a.toNat false = true then (cs, wt) else (cs.set a.toNat true, wt ++ nx b a) := by
  unfold stepC
  simp
theorem lh_turn {x3 x5 x6 x7 : Option W} (g : Good b) (T : CS G0 G n1 n2 m cs bs wt) (hc : cs.length = b.length) (hw : ∀ a ∈ wt, 0 ≤ a ∧ a < b.length) (hl : wt.length < 500) :
    ∃ m' y3 G', t__law_heads_3 [some (.tup (b.map Rw.w)), some (.ref n1), some (.ref n2), x3, some (.ref m), x5, x6, x7] G = .nx [some (.tup (b.map Rw.w)), some (.ref n1), some (.ref n2), y3, some (.ref m'), x5, x6, x7] G' ∧ CS G0 G' n1 n2 m' (stepC b (cs, wt)).1 bs (stepC b (cs, wt)).2 := by
  have tr : gTru (gVar 4) [some (.tup (b.map Rw.w)), some (.ref n1), some (.ref n2), x3, some (.ref m), x5, x6, x7] G = .ok (!(iws wt).isEmpty) G := by
    rw [gTru_ev, vr (i := 4) (w := .ref m) rfl, bind_ok]
    unfold asTru truW
    simp only [T.w]
  unfold t__law_heads_3
  rcases List.eq_nil_or_concat wt with rfl | ⟨wt0, a, rfl⟩
  · refine ⟨m, x3, G, ?_, by rw [stepC_nil]; exact T⟩
    rw [if_only_f (G1 := G) tr]
    rfl
  · rw [List.concat_eq_append] at *
    have tr1 : gTru (gVar 4) [some (.tup (b.map Rw.w)), some (.ref n1), some (.ref n2), x3, some (.ref m), x5, x6, x7] G = .ok true G := by
      rw [tr, iws_app]
      simp [iws]
    have ra := hw a (by simp)
    have pp := mPop_at (w := .int a) (us := iws wt0) (by rw [T.w, iws_app]; rfl)
    have T1 := T.setW wt0
    have ty := isTy_at T.w
    have ca := bls_at (l := cs) ra.1 (by omega)
    have ci : gOp fIx (gVar 1) (gVar 3) [some (.tup (b.map Rw.w)), some (.ref n1), some (.ref n2), some (.int a), some (.ref m), x5, x6, x7] (G.set m (.lst (iws wt0))) = .ok (.bl (cs.getD a.toNat false)) (G.set m (.lst (iws wt0))) := by
      rw [op2 (vr (i := 1) (w := .ref n1) rfl) (vr (i := 3) (w := .int a) rfl) (show fIx (.ref n1) (.int a) _ = .ok (.bl (cs.getD a.toNat false)) (G.set m (.lst (iws wt0))) from ?_)]
      rw [fIx_ref]
      simp only [T1.c, ca]
      rfl
    have ag : gMt "list" mPop (gVar 4) gNil [some (.tup (b.map Rw.w)), some (.ref n1), some (.ref n2), x3, some (.ref m), x5, x6, x7] G = .ok (.int a) (G.set m (.lst (iws wt0))) := by
      rw [gMt_ev, vr (i := 4) (w := .ref m) rfl, bind_ok, if_pos ty, gNil_ev, bind_ok, pp]
    rw [gIfS_ev, tr1, thn_ok, if_pos rfl, asg_nx ag]
    show ∃ m' y3 G', gIfS _ _ _ [some (.tup (b.map Rw.w)), some (.ref n1), some (.ref n2), some (.int a), some (.ref m), x5, x6, x7] (G.set m (.lst (iws wt0))) = _ ∧ _
    cases hcs : cs.getD a.toNat false with
    | true =>
      rw [hcs] at ci
      refine ⟨m, some (.int a), _, ?_, by rw [stepC_snoc, if_pos hcs]; exact T1⟩
      rw [if_only_f (notT (tru ci) : _ = R.ok false _)]
      rfl
    | false =>
      rw [hcs] at ci
      have T2 := T1.setC (cs.set a.toNat true)
      have e0 : b[a.toNat]? = some (b[a.toNat]'(by omega)) := List.getElem?_eq_getElem _
      have en : nx b a = nextD (b[a.toNat]'(by omega)) a := by unfold nx; rw [e0]
      have nk := next_ok (G := (G.set m (.lst (iws wt0))).set n1 (.lst (bls (cs.set a.toNat true)))) e0
      rw [show ((a.toNat : Nat) : Int) = a by omega] at nk
      rw [← en] at nk
      have nl : (nx b a).length ≤ 2 := by
        rw [en]
        unfold nextD
        split <;> first | simp | (split <;> simp)
      simp only [List.length_append, List.length_singleton] at hl
      have ad := addT_at (v := nx b a) T2.w (by omega)
      refine ⟨((G.set m (.lst (iws wt0))).set n1 (.lst (bls (cs.set a.toNat true)))).n, some (.int a), _, ?_, by rw [stepC_snoc, if_neg (by rw [hcs]; decide)]; exact T2.pushW (wt0 ++ nx b a)⟩
      have sx : gSet (gC (.bl true)) (gVar 1) (gVar 3) [some (.tup (b.map Rw.w)), some (.ref n1), some (.ref n2), some (.int a), some (.ref m), x5, x6, x7] (G.set m (.lst (iws wt0))) = .nx [some (.tup (b.map Rw.w)), some (.ref n1), some (.ref n2), some (.int a), some (.ref m), x5, x6, x7] ((G.set m (.lst (iws wt0))).set n1 (.lst (bls (cs.set a.toNat true)))) := by
        rw [gSet_ev, gC_ev, thn_ok, vr (i := 1) (w := .ref n1) rfl, thn_ok, vr (i := 3) (w := .int a) rfl, thn_ok]
        have := fSet_ref (v := .bl true) T1.c (k := a) (j := a.toNat) (by rw [bls_len]; have := ixn (len := cs.length) (k := a.toNat) (by omega); rwa [show ((a.toNat : Nat) : Int) = a by omega] at this)
        rw [this, bls_set]
      rw [gIfS_ev, (notT (tru ci) : _ = R.ok true _), thn_ok, if_pos (by decide), gSeq_ev, sx, seq_nx]
      have c2 : gCall (cFn 2 f__law_next) (gCons (gVar 0) (gCons (gVar 3) gNil)) [some (.tup (b.map Rw.w)), some (.ref n1), some (.ref n2), some (.int a), some (.ref m), x5, x6, x7] ((G.set m (.lst (iws wt0))).set n1 (.lst (bls (cs.set a.toNat true)))) = .ok (.lst (iws (nx b a))) ((G.set m (.lst (iws wt0))).set n1 (.lst (bls (cs.set a.toNat true)))) := by
        rw [gCall_ev, gCons_ev, vr (i := 0) (w := .tup (b.map Rw.w)) rfl, bind_ok, gCons_ev, vr (i := 3) (w := .int a) rfl, bind_ok, gNil_ev, bind_ok, bind_ok, bind_ok, cFn_ev (n := 2) (ws := [.tup (b.map Rw.w), .int a]) rfl, nk, calm_ok]
      rw [asg_only (op2 (vr (i := 4) (w := .ref m) rfl) c2 ad)]
      rfl
/-- what holds ahead of each turn -/
structure CI (b : List Rw) (cs : List Bool) (wt : List Int) : Prop where
  l : cs.length = b.length
  w : ∀ a ∈ wt, Rch b a
  r : ∀ a : Int, 0 ≤ a → cs.getD a.toNat false = true → Rch b a
  z : 0 ∈ wt ∨ cs.getD 0 false = true
  c : ∀ a : Int, 0 ≤ a → cs.getD a.toNat false = true → ∀ t ∈ nx b a, t ∈ wt ∨ cs.getD t.toNat false = true
theorem getD_set {l : List Bool} {i j : Nat} (h : (l.set i true).getD j false = true) : j = i ∨ l.getD j false = true := by
  rw [List.getD_eq_getElem?_getD] at *
  by_cases e : i = j
  · exact .inl e.symm
  · rw [List.getElem?_set_ne e] at h
    exact .inr h
theorem set_getD {l : List Bool} {i j : Nat} (h : l.getD j false = true) : (l.set i true).getD j false = true := by
  rw [List.getD_eq_getElem?_getD] at *
  by_cases e : i = j
  · subst e
    cases hl : l[i]? with
    | none => rw [hl] at h; cases h
    | some x => rw [List.getElem?_set_self (List.getElem?_eq_some_iff.mp hl).1]; rfl
  · rw [List.getElem?_set_ne e]; exact h
theorem getD_same {l : List Bool} {i : Nat} (h : i < l.length) : (l.set i true).getD i false = true := by
  rw [List.getD_eq_getElem?_getD, List.getElem?_set_self h]; rfl
theorem count_set {l : List Bool} {i : Nat} (h : i < l.length) (hf : l.getD i false = false) : (l.set i true).count false + 1 = l.count false := by
  induction l generalizing i with
  | nil => simp at h
  | cons x l ih =>
    cases i with
    | zero =>
      have : x = false := hf
      subst this
      simp
    | succ i =>
      have := ih (i := i) (by simpa using h) hf
      rw [List.set_cons_succ, List.count_cons, List.count_cons]
      omega
theorem CI.step (g : Good b) (h : CI b cs wt) : CI b (stepC b (cs, wt)).1 (stepC b (cs, wt)).2 ∧ (wt ≠ [] → (stepC b (cs, wt)).2.length + 2 * (stepC b (cs, wt)).1.count false < wt.length + 2 * cs.count false) := by
  rcases List.eq_nil_or_concat wt with rfl | ⟨wt0, a, rfl⟩
  · exact ⟨h, fun z => absurd rfl z⟩
  · rw [List.concat_eq_append] at *
    have ra := h.w a (by simp)
    have rr := g.rch ra
    rw [stepC_snoc]
    cases hc : cs.getD a.toNat false with
    | true =>
      rw [if_pos rfl]
      refine ⟨⟨h.l, fun x m => h.w x (List.mem_append_left _ m), h.r, ?_, fun x h0 hx t mt => ?_⟩, fun _ => by simp⟩
      · rcases h.z with z | z
        · rcases List.mem_append.mp z with z | z
          · exact .inl z
          · rw [List.mem_singleton] at z; subst z; exact .inr hc
        · exact .inr z
      · rcases h.c x h0 hx t mt with z | z
        · rcases List.mem_append.mp z with z | z
          · exact .inl z
          · rw [List.mem_singleton] at z; subst z; exact .inr hc
        · exact .inr z
    | false =>
      rw [if_neg (by decide)]
      have hal : a.toNat < cs.length := by rw [h.l]; omega
      have nl : (nx b a).length ≤ 2 := by
        unfold nx
        split
        · unfold nextD
          split <;> first | simp | (split <;> simp)
        · simp
      refine ⟨⟨by rw [List.length_set]; exact h.l, fun x m => ?_, fun x h0 hx => ?_, ?_, fun x h0 hx t mt => ?_⟩, fun _ => by have := count_set hal hc; simp; omega⟩
      · rcases List.mem_append.mp m with m | m
        · exact h.w x (List.mem_append_left _ m)
        · exact .step ra m
      · rcases getD_set hx with e | e
        · have : x = a := by omega
          subst this
          exact ra
        · exact h.r x h0 e
      · rcases h.z with z | z
        · rcases List.mem_append.mp z with z | z
          · exact .inl (List.mem_append_left _ z)
          · rw [List.mem_singleton] at z; subst z; exact .inr (getD_same hal)
        · exact .inr (set_getD z)
      · rcases getD_set hx with e | e
        · have : x = a := by omega
          subst this
          exact .inl (List.mem_append_right _ mt)
        · rcases h.c x h0 e t mt with z | z
          · rcases List.mem_append.mp z with z | z
            · exact .inl (List.mem_append_left _ z)
            · rw [List.mem_singleton] at z; subst z; exact .inr (getD_same hal)
          · exact .inr (set_getD z)
theorem CI.done (g : Good b) (h : CI b cs []) (a : Int) (h0 : 0 ≤ a) : cs.getD a.toNat false = true ↔ Rch b a :=
  ⟨h.r a h0, fun r => (Rch.sub (S := fun a => 0 ≤ a ∧ cs.getD a.toNat false = true) (by
    rcases h.z with z | z
    · cases z
    · exact ⟨Int.le_refl _, z⟩) (fun a m t mt => ⟨(g.nx m.1 mt).1, by
    rcases h.c a m.1 m.2 t mt with z | z
    · cases z
    · exact z⟩) a r).2⟩
theorem lh_loop {x6 x7 : Option W} (g : Good b) : ∀ (us : List W) (cs : List Bool) (wt : List Int) (m : Nat) (x3 x5 : Option W) (G : GH), CI b cs wt → CS G0 G n1 n2 m cs bs wt → wt.length + 2 * cs.count false ≤ us.length → us.length < 400 →
    ∃ cs' m' y3 y5 G', forF (tgName 5) t__law_heads_3 us [some (.tup (b.map Rw.w)), some (.ref n1), some (.ref n2), x3, some (.ref m), x5, x6, x7] G = .nx [some (.tup (b.map Rw.w)), some (.ref n1), some (.ref n2), y3, some (.ref m'), y5, x6, x7] G' ∧ CS G0 G' n1 n2 m' cs' bs [] ∧ CI b cs' []
  | [], cs, wt, m, x3, x5, G, hi, T, hm, _ => by
    have hw : wt = [] := by cases wt with
      | nil => rfl
      | cons _ _ => simp at hm
    subst hw
    exact ⟨cs, m, x3, x5, G, rfl, T, hi⟩
  | u :: us, cs, wt, m, x3, x5, G, hi, T, hm, hu => by
    rw [List.length_cons] at hm hu
    obtain ⟨m1, y3, G1, e1, T1⟩ := lh_turn (x3 := x3) (x5 := some u) (x6 := x6) (x7 := x7) g T hi.l (fun a ma => g.rch (hi.w a ma)) (by omega)
    obtain ⟨hi1, hd⟩ := hi.step g
    have hm1 : (stepC b (cs, wt)).2.length + 2 * (stepC b (cs, wt)).1.count false ≤ us.length ∨ wt = [] := by
      by_cases hw : wt = []
      · exact .inr hw
      · exact .inl (by have := hd hw; omega)
    rcases hm1 with hm1 | rfl
    · obtain ⟨cs', m', z3, z5, G', e2, T2, h2⟩ := lh_loop g us _ _ m1 y3 (some u) G1 hi1 T1 hm1 (by omega)
      refine ⟨cs', m', z3, z5, G', ?_, T2, h2⟩
      rw [forF_nx (w := u) (ρ := [some (.tup (b.map Rw.w)), some (.ref n1), some (.ref n2), x3, some (.ref m), x5, x6, x7]) (G := G) rfl e1, e2]
    · -- nothing waits: all turns do nothing
      have idle : ∀ (us : List W) (m : Nat) (x3 x5 : Option W) (G : GH), us.length < 400 → CS G0 G n1 n2 m cs bs [] → ∃ m' y3 y5 G', forF (tgName 5) t__law_heads_3 us [some (.tup (b.map Rw.w)), some (.ref n1), some (.ref n2), x3, some (.ref m), x5, x6, x7] G = .nx [some (.tup (b.map Rw.w)), some (.ref n1), some (.ref n2), y3, some (.ref m'), y5, x6, x7] G' ∧ CS G0 G' n1 n2 m' cs bs [] := by
        intro us
        induction us with
        | nil => intro m x3 x5 G _ T; exact ⟨m, x3, x5, G, rfl, T⟩
        | cons v us ih =>
          intro m x3 x5 G hu T
          rw [List.length_cons] at hu
          obtain ⟨m1, y3, G1, e1, T1⟩ := lh_turn (x3 := x3) (x5 := some v) (x6 := x6) (x7 := x7) g T hi.l (fun a ma => by cases ma) (by simp)
          rw [stepC_nil] at T1
          obtain ⟨m', z3, z5, G', e2, T2⟩ := ih m1 y3 (some v) G1 (by omega) T1
          refine ⟨m', z3, z5, G', ?_, T2⟩
          rw [forF_nx (w := v) (ρ := [some (.tup (b.map Rw.w)), some (.ref n1), some (.ref n2), x3, some (.ref m), x5, x6, x7]) (G := G) rfl e1, e2]
      obtain ⟨m', z3, z5, G', e2, T2⟩ := idle (u :: us) m x3 x5 G (by simp; omega) T
      exact ⟨cs, m', z3, z5, G', e2, T2, hi⟩
end
end Lw

set_option Elab.async false
set_option linter.all false
set_option maxRecDepth 100000
namespace Lw
open PySem PySem.Spec PyProof.Rows L2 Fn
structure CB (G0 G : GH) (n1 n2 : Nat) (cs bs : List Bool) : Prop where
  grow : Grow G0 G
  c : G.at_ n1 = some (.lst (bls cs))
  k : G.at_ n2 = some (.lst (bls bs))
  a1 : G0.n ≤ n1
  b1 : n1 < G.n
  a2 : G0.n ≤ n2
  b2 : n2 < G.n
  n12 : n1 ≠ n2
section
variable {G G0 : GH} {b : List Rw} {n1 n2 m : Nat} {cs bs : List Bool}
theorem CB.setK (h : CB G0 G n1 n2 cs bs) (us : List Bool) : CB G0 (G.set n2 (.lst (bls us))) n1 n2 cs us :=
  ⟨h.grow.set h.a2 _, by rw [set_ne h.n12]; exact h.c, set_same, h.a1, h.b1, h.a2, h.b2, h.n12⟩
def backF (i : Int) (r : Rw) (bs : List Bool) : List Bool := match r.tg with
  | some t => if t ≤ i then bs.set t.toNat true else bs
  | none => bs
theorem backF_len (i : Int) (r : Rw) (bs : List Bool) : (backF i r bs).length = bs.length := by
  unfold backF
  split
  · split
    · rw [List.length_set]
    · rfl
  · rfl
theorem Rw.w_len {r : Rw} {t : Int} {l : List W} (ew : r.w = .tup l) (h : r.tg = some t) : L2.atI l ((l.length : Int) - 1) = some (.int t) := by
  cases r with
  | test s x y g =>
    cases h; cases ew
    simp [Rw.w]
  | jump g =>
    cases h; cases ew
    simp [Rw.w]
  | _ => cases h
theorem bk_turn {i : Nat} {r : Rw} {x4 x5 x6 x7 : Option W} (T : CB G0 G n1 n2 cs bs) (hr : b[i]? = some r) (ht : ∀ t, r.tg = some t → 0 ≤ t ∧ t < bs.length) :
    ∃ y6 G', t__law_heads_2 [some (.tup (b.map Rw.w)), some (.ref n1), some (.ref n2), some (.int (i : Int)), x4, x5, x6, x7] G = .nx [some (.tup (b.map Rw.w)), some (.ref n1), some (.ref n2), some (.int (i : Int)), x4, x5, y6, x7] G' ∧ CB G0 G' n1 n2 cs (backF i r bs) := by
  obtain ⟨k, l, ew, tg⟩ := r.tag
  have ra := row_at hr
  rw [ew] at ra
  have wl := fun t h => Rw.w_len (r := r) (t := t) ew h
  have s2 : t__law_heads_2 [some (.tup (b.map Rw.w)), some (.ref n1), some (.ref n2), some (.int (i : Int)), x4, x5, x6, x7] G = t__law_heads_1 [some (.tup (b.map Rw.w)), some (.ref n1), some (.ref n2), some (.int (i : Int)), x4, x5, some (.int ((((W.str k : W) :: l).length : Int) - 1)), x7] G := by
    unfold t__law_heads_2
    exact asg_nx (by simp [ra])
  refine ⟨some (.int ((((W.str k : W) :: l).length : Int) - 1)), ?_⟩
  rw [s2]
  generalize ((((W.str k : W) :: l).length : Int) - 1) = q at wl ⊢
  have r0 : ∀ x6, gOp fIx (gOp fIx (gVar 0) (gVar 3)) (gC (.int 0)) [some (.tup (b.map Rw.w)), some (.ref n1), some (.ref n2), some (.int (i : Int)), x4, x5, some (.int q), x6] G = .ok (.str k) G := fun x6 => by simp [ra]
  unfold t__law_heads_1 backF
  rcases tg with ⟨tg, k1, k2⟩ | ⟨t, tg, kk⟩
  · refine ⟨G, ?_, by rw [tg]; exact T⟩
    rw [if_only_f (G1 := G) (by simp [ra, k1, k2])]
    rfl
  · have il : gOp fIx (gOp fIx (gVar 0) (gVar 3)) (gVar 6) [some (.tup (b.map Rw.w)), some (.ref n1), some (.ref n2), some (.int (i : Int)), x4, x5, some (.int q), x7] G = .ok (.int t) G := by simp [ra, wl t tg]
    have c2 := tst (op2 il (vr (i := 3) (w := .int (i : Int)) rfl) (fLe_i t (i : Int)))
    have c1 : gOrT (gTest (gOp fEq (gOp fIx (gOp fIx (gVar 0) (gVar 3)) (gC (.int 0))) (gC (.str "jump")))) (gTest (gOp fEq (gOp fIx (gOp fIx (gVar 0) (gVar 3)) (gC (.int 0))) (gC (.str "test")))) [some (.tup (b.map Rw.w)), some (.ref n1), some (.ref n2), some (.int (i : Int)), x4, x5, some (.int q), x7] G = .ok true G := by
      rcases kk with rfl | rfl <;> simp [ra]
    have cc : gAndT (gOrT (gTest (gOp fEq (gOp fIx (gOp fIx (gVar 0) (gVar 3)) (gC (.int 0))) (gC (.str "jump")))) (gTest (gOp fEq (gOp fIx (gOp fIx (gVar 0) (gVar 3)) (gC (.int 0))) (gC (.str "test"))))) (gTest (gOp fLe (gOp fIx (gOp fIx (gVar 0) (gVar 3)) (gVar 6)) (gVar 3))) [some (.tup (b.map Rw.w)), some (.ref n1), some (.ref n2), some (.int (i : Int)), x4, x5, some (.int q), x7] G = .ok (decide (t ≤ (i : Int))) G := by
      rw [gAndT_ev, c1, bind_ok, if_pos rfl, c2]
    rw [tg]
    simp only
    by_cases hb : t ≤ (i : Int)
    · rw [if_pos hb]
      rw [decide_eq_true hb] at cc
      obtain ⟨t0, t1⟩ := ht t tg
      refine ⟨_, ?_, T.setK (bs.set t.toNat true)⟩
      have fs := fSet_ref (v := .bl true) T.k (k := t) (j := t.toNat) (by rw [bls_len]; have := ixn (len := bs.length) (k := t.toNat) (by omega); rwa [show ((t.toNat : Nat) : Int) = t by omega] at this)
      rw [gIfS_ev, cc, thn_ok, if_pos rfl, gSet_ev, gC_ev, thn_ok, vr (i := 2) (w := .ref n2) rfl, thn_ok, il, thn_ok, fs, bls_set]
    · rw [if_neg hb]
      rw [decide_eq_false hb] at cc
      exact ⟨G, by rw [if_only_f cc]; rfl, T⟩
def foldB : Nat → List Rw → List Bool → List Bool
  | _, [], bs => bs
  | i, r :: l, bs => foldB (i + 1) l (backF i r bs)
theorem bk_loop {x4 x5 x7 : Option W} : ∀ (l : List Rw) (i : Nat) (bs : List Bool) (x3 x6 : Option W) (G : GH), CB G0 G n1 n2 cs bs → b.drop i = l → (∀ r ∈ l, ∀ t, r.tg = some t → 0 ≤ t ∧ t < bs.length) →
    ∃ y3 y6 G', forF (tgName 3) t__law_heads_2 ((List.range' i l.length).map fun (k : Nat) => W.int (k : Int)) [some (.tup (b.map Rw.w)), some (.ref n1), some (.ref n2), x3, x4, x5, x6, x7] G = .nx [some (.tup (b.map Rw.w)), some (.ref n1), some (.ref n2), y3, x4, x5, y6, x7] G' ∧ CB G0 G' n1 n2 cs (foldB i l bs)
  | [], i, bs, x3, x6, G, T, _, _ => ⟨x3, x6, G, rfl, T⟩
  | r :: l, i, bs, x3, x6, G, T, hd, ht => by
    have hr : b[i]? = some r := by
      have := congrArg (fun l => l[0]?) hd
      simpa using this
    have hd' : b.drop (i + 1) = l := by rw [← List.drop_drop, hd]; rfl
    obtain ⟨y6, G1, e1, T1⟩ := bk_turn (x4 := x4) (x5 := x5) (x6 := x6) (x7 := x7) T hr (ht r List.mem_cons_self)
    obtain ⟨y3, z6, G', e2, T2⟩ := bk_loop l (i + 1) (backF i r bs) (some (.int (i : Int))) y6 G1 T1 hd' (fun q mq => by rw [backF_len]; exact ht q (List.mem_cons_of_mem _ mq))
    refine ⟨y3, z6, G', ?_, T2⟩
    rw [List.length_cons, List.range'_succ, List.map_cons, forF_nx (w := .int (i : Int)) (ρ := [some (.tup (b.map Rw.w)), some (.ref n1), some (.ref n2), x3, x4, x5, x6, x7]) (G := G) rfl e1, e2]
theorem foldB_len : ∀ (l : List Rw) (i : Nat) (bs : List Bool), (foldB i l bs).length = bs.length
  | [], _, _ => rfl
  | r :: l, i, bs => by rw [foldB, foldB_len l, backF_len]
theorem foldB_mem : ∀ (l : List Rw) (i : Nat) (bs : List Bool) (a : Int), 0 ≤ a → a < bs.length → (∀ r ∈ l, ∀ t, r.tg = some t → 0 ≤ t) →
    ((foldB i l bs).getD a.toNat false = true ↔ bs.getD a.toNat false = true ∨ ∃ (k : Nat) (r : Rw), l[k]? = some r ∧ r.tg = some a ∧ a ≤ ((i + k : Nat) : Int))
  | [], i, bs, a, _, _, _ => by simp [foldB]
  | r :: l, i, bs, a, h0, ha, ht => by
    rw [foldB, foldB_mem l (i + 1) (backF i r bs) a h0 (by rw [backF_len]; exact ha) fun q mq => ht q (List.mem_cons_of_mem _ mq)]
    have hs : (∃ (k : Nat) (q : Rw), (r :: l)[k]? = some q ∧ q.tg = some a ∧ a ≤ ((i + k : Nat) : Int)) ↔ (r.tg = some a ∧ a ≤ (i : Int)) ∨ ∃ (k : Nat) (q : Rw), l[k]? = some q ∧ q.tg = some a ∧ a ≤ ((i + 1 + k : Nat) : Int) := by
      constructor
      · rintro ⟨k, q, e, h⟩
        cases k with
        | zero => cases e; exact .inl h
        | succ k => exact .inr ⟨k, q, by simpa using e, by rw [show i + 1 + k = i + (k + 1) by omega]; exact h⟩
      · rintro (h | ⟨k, q, e, h⟩)
        · exact ⟨0, r, rfl, h⟩
        · exact ⟨k + 1, q, by simpa using e, by rw [show i + (k + 1) = i + 1 + k by omega]; exact h⟩
    have hb : (backF i r bs).getD a.toNat false = true ↔ bs.getD a.toNat false = true ∨ (r.tg = some a ∧ a ≤ (i : Int)) := by
      unfold backF
      cases hr : r.tg with
      | none => simp
      | some t =>
        simp only
        have t0 := ht r List.mem_cons_self t hr
        split
        · rename_i c
          constructor
          · intro z
            rcases getD_set z with e | e
            · have : t = a := by omega
              subst this
              exact .inr ⟨rfl, c⟩
            · exact .inl e
          · rintro (z | ⟨z, _⟩)
            · exact set_getD z
            · cases z
              exact getD_same (by omega)
        · rename_i c
          constructor
          · exact .inl
          · rintro (z | ⟨z, y⟩)
            · exact z
            · cases z; exact absurd y c
    rw [hs, hb, or_assoc]
theorem lc_fN {ρw : En} {t : FG1} {tt : FT} {te : FE} (q : Nat → Bool) : ∀ (l : List Nat), (∀ k ∈ l, ∃ ρ1, t (.int (k : Int)) ρw G = some (ρ1, G) ∧ tt ρ1 G = .ok (q k) G ∧ te ρ1 G = .ok (.int (k : Int)) G) → lcF t tt te ρw (l.map fun (k : Nat) => W.int (k : Int)) G = .ok (iws ((l.filter q).map fun (k : Nat) => (k : Int))) G
  | [], _ => rfl
  | k :: l, st => by
    obtain ⟨ρ1, e1, e2, e3⟩ := st k List.mem_cons_self
    have ih := lc_fN q l fun j m => st j (List.mem_cons_of_mem _ m)
    rw [List.map_cons, lcF, lcTurn, e1]
    cases h : q k with
    | true => rw [h] at e2; simp [e2, e3, ih, addO, h, iws]
    | false => rw [h] at e2; simp [e2, ih, addO, h, iws]
theorem lcIT {own : Bool} {f : List W → GH → R Wk} {ga : FA} {t : FG1} {tt : FT} {te : FE} {vs : List Nat} {ρ : En} {us ws rs : List W} {G G1 G2 G3 : GH} (h1 : ga ρ G = .ok us G1) (h2 : f us G1 = .ok (.vals ws) G2) (h3 : lcF t tt te (wipeW ρ vs) ws G2 = .ok rs G3) (hl : rs.length ≤ 1000000) : gLc own (iRng f ga) t tt te vs ρ G = mkL own rs G3 := by
  rw [gLc_ev, iRng_ev, h1, bind_ok, h2, bind_ok, lcW_vals, h3, calm_ok, bind_ok, if_pos (by rw [sizeLine_eq]; omega)]
theorem heads_eq (g : Good b) (hc : CI b cs []) (hl : bs = foldB 0 b (List.replicate b.length false)) : ((List.range b.length).filter fun k => cs.getD k false && bs.getD k false).map (fun (k : Nat) => (k : Int)) = headsD b := by
  refine sortI_of ?_ ?_
  · refine (List.perm_ext_iff_of_nodup ?_ (foldH_nodup b 0 [] List.nodup_nil)).mpr fun a => ?_
    · show List.Pairwise (· ≠ ·) _
      rw [List.pairwise_map]
      exact List.Pairwise.imp (fun h z => h (by omega)) (List.nodup_range.filter _)
    · rw [foldH_mem]
      have fm : ∀ k : Nat, k < b.length → (bs.getD k false = true ↔ ∃ (j : Nat) (r : Rw), b[j]? = some r ∧ r.tg = some (k : Int) ∧ (k : Int) ≤ (j : Int)) := fun k hk => by
        have := foldB_mem b 0 (List.replicate b.length false) (k : Int) (by omega) (by simp; omega) fun r m t e => (g.tg r m t e).1
        rw [← hl, Int.toNat_natCast] at this
        rw [this]
        constructor
        · rintro (z | ⟨j, r, e1, e2, e3⟩)
          · rw [List.getD_eq_getElem?_getD, List.getElem?_replicate] at z
            split at z <;> simp at z
          · exact ⟨j, r, e1, e2, by rw [Nat.zero_add] at e3; exact e3⟩
        · rintro ⟨j, r, e1, e2, e3⟩
          exact .inr ⟨j, r, e1, e2, by rw [Nat.zero_add]; exact e3⟩
      constructor
      · intro h
        obtain ⟨k, hk, rfl⟩ := List.mem_map.mp h
        rw [List.mem_filter, List.mem_range, Bool.and_eq_true] at hk
        obtain ⟨k1, k2, k3⟩ := hk
        obtain ⟨j, r, e1, e2, e3⟩ := (fm k k1).mp k3
        refine .inr ⟨j, r, e1, ?_⟩
        have rk : Rch b (k : Int) := (hc.done g (k : Int) (by omega)).mp (by rw [Int.toNat_natCast]; exact k2)
        unfold backT
        rw [e2]
        simp only
        rw [if_pos ⟨by rw [Nat.zero_add]; exact e3, rk⟩]
      · rintro (z | ⟨j, r, e1, e2⟩)
        · cases z
        · obtain ⟨h1, h2, h3⟩ := back_rch e2
          have rr := g.rch h3
          refine List.mem_map.mpr ⟨a.toNat, ?_, by omega⟩
          rw [List.mem_filter, List.mem_range, Bool.and_eq_true]
          refine ⟨by omega, (hc.done g a rr.1).mpr h3, (fm a.toNat (by omega)).mpr ⟨j, r, e1, by rw [show ((a.toNat : Nat) : Int) = a by omega]; exact h1, by rw [Nat.zero_add] at h2; omega⟩⟩
  · rw [List.pairwise_map]
    exact (List.pairwise_lt_range.filter _).imp fun h => by omega
theorem lheads_ok (g : Good b) : ∃ G', f__law_heads [.tup (b.map Rw.w)] G = .ok (.lst (iws (headsD b))) G' ∧ Grow G G' := by
  have gl := g.le
  have gp := g.pos
  let F : List Bool := List.replicate b.length false
  have em : (b.map fun _ => W.bl false) = bls F := by
    show (b.map fun _ => W.bl false) = (List.replicate b.length false).map W.bl
    rw [List.map_replicate]
    clear gl gp g
    induction b with
    | nil => rfl
    | cons r b ih => rw [List.map_cons, ih]; rfl
  have fl : ∀ {x1 x2 x3 x4 x5 x6 : Option W} {G : GH}, gLc true (iSeq (gVar 0)) (tgName 7) gYes (gC (.bl false)) [7] [some (.tup (b.map Rw.w)), x1, x2, x3, x4, x5, x6, none] G = .ok (.ref G.n) (G.push (.lst (bls F))) := fun {x1 x2 x3 x4 x5 x6 G} => by
    have h3 := lc_on (G := G) (ρw := [some (.tup (b.map Rw.w)), x1, x2, x3, x4, x5, x6, none]) (t := tgName 7) (te := gC (.bl false)) Rw.w (fun _ => W.bl false) b (fun r _ => ⟨_, rfl, rfl⟩)
    rw [em] at h3
    have ll : (bls F).length ≤ 1000000 := by rw [bls_len, List.length_replicate]; omega
    exact lcS (own := true) (vs := [7]) (w := .tup (b.map Rw.w)) rfl rfl h3 ll
  have T0 : CB G ((G.push (.lst (bls F))).push (.lst (bls F))) G.n (G.n + 1) F F := ⟨(Grow.push G _).trans (Grow.push _ _), by rw [push_ne (by simp)]; exact push_same, push_same (G := G.push (.lst (bls F))), Nat.le_refl _, by simp; omega, Nat.le_succ _, by simp, by omega⟩
  obtain ⟨y3, y6, G1, e1, T1⟩ := bk_loop (x4 := none) (x5 := none) (x7 := none) b 0 F none none _ T0 List.drop_zero (fun r m t e => by have := g.tg r m t e; rw [List.length_replicate]; exact this)
  have ff : ∀ k : Nat, ¬ F.getD k false = true := fun k h => by
    have h : (List.replicate b.length false).getD k false = true := h
    rw [List.getD_eq_getElem?_getD, List.getElem?_replicate] at h
    by_cases c : k < b.length
    · rw [if_pos c] at h; cases h
    · rw [if_neg c] at h; cases h
  have hi : CI b F [0] := ⟨List.length_replicate, fun a m => (by rw [List.mem_singleton] at m; subst m; exact .zero), fun a _ h => absurd h (ff _), .inl (by simp), fun a _ h => absurd h (ff _)⟩
  have T2 : CS G (G1.push (.lst (iws [0]))) G.n (G.n + 1) G1.n F (foldB 0 b F) [0] := ⟨T1.grow.trans (Grow.push _ _), by rw [push_ne (by have := T1.b1; omega)]; exact T1.c, by rw [push_ne (by have := T1.b2; omega)]; exact T1.k, push_same, T1.a1, Nat.lt_succ_of_lt T1.b1, T1.a2, Nat.lt_succ_of_lt T1.b2, T1.grow.1, Nat.lt_succ_self _, T1.n12, by have := T1.b1; omega, by have := T1.b2; omega⟩
  have cf : F.count false = b.length := by show (List.replicate b.length false).count false = _; rw [List.count_replicate_self]
  obtain ⟨cs, m', z3, z5, G2, e2, T3, hd⟩ := lh_loop (x6 := y6) (x7 := none) g ((List.range (2 * b.length + 2)).map fun (k : Nat) => W.int (k : Int)) F [0] G1.n y3 none _ hi T2 (by rw [cf]; simp; omega) (by simp; omega)
  have s9 : b__law_heads [some (.tup (b.map Rw.w)), none, none, none, none, none, none, none] G = t__law_heads_8 [some (.tup (b.map Rw.w)), some (.ref G.n), none, none, none, none, none, none] (G.push (.lst (bls F))) := by
    unfold b__law_heads t__law_heads_9
    exact asg_nx fl
  have s8 : t__law_heads_8 [some (.tup (b.map Rw.w)), some (.ref G.n), none, none, none, none, none, none] (G.push (.lst (bls F))) = t__law_heads_7 [some (.tup (b.map Rw.w)), some (.ref G.n), some (.ref (G.n + 1)), none, none, none, none, none] ((G.push (.lst (bls F))).push (.lst (bls F))) := by
    unfold t__law_heads_8
    exact asg_nx fl
  have ag1 : ∀ {x1 x2 x3 x4 x5 x6 x7 : Option W} {G : GH}, gCons (gCall cLen (gCons (gVar 0) gNil)) gNil [some (.tup (b.map Rw.w)), x1, x2, x3, x4, x5, x6, x7] G = .ok [.int ((b.length : Nat) : Int)] G := by intros; simp
  rw [← List.range_eq_range'] at e1
  have s7 : t__law_heads_7 [some (.tup (b.map Rw.w)), some (.ref G.n), some (.ref (G.n + 1)), none, none, none, none, none] ((G.push (.lst (bls F))).push (.lst (bls F))) = t__law_heads_6 [some (.tup (b.map Rw.w)), some (.ref G.n), some (.ref (G.n + 1)), y3, none, none, y6, none] G1 := by
    unfold t__law_heads_7
    rw [gSeq_ev, for_rng ag1 (rng_n (by omega)), e1, seq_nx]
  have s6 : t__law_heads_6 [some (.tup (b.map Rw.w)), some (.ref G.n), some (.ref (G.n + 1)), y3, none, none, y6, none] G1 = t__law_heads_5 [some (.tup (b.map Rw.w)), some (.ref G.n), some (.ref (G.n + 1)), y3, some (.ref G1.n), none, y6, none] (G1.push (.lst (iws [0]))) := by
    unfold t__law_heads_6
    exact asg_nx (by rw [gLst_ev, gCons_ev, gC_ev, bind_ok, gNil_ev, bind_ok, bind_ok, if_pos (lens _), mkL_true]; rfl)
  have ag2 : gCons (gOp (fAddL false) (gOp fMul (gC (.int 2)) (gCall cLen (gCons (gVar 0) gNil))) (gC (.int 2))) gNil [some (.tup (b.map Rw.w)), some (.ref G.n), some (.ref (G.n + 1)), y3, some (.ref G1.n), none, y6, none] (G1.push (.lst (iws [0]))) = .ok [.int ((2 * b.length + 2 : Nat) : Int)] (G1.push (.lst (iws [0]))) := by
    have mu := fMul_i (G := G1.push (.lst (iws [0]))) (i := 2) (j := (b.length : Int)) (.inl (by decide))
    simp [mu]
  have s5 : t__law_heads_5 [some (.tup (b.map Rw.w)), some (.ref G.n), some (.ref (G.n + 1)), y3, some (.ref G1.n), none, y6, none] (G1.push (.lst (iws [0]))) = t__law_heads_4 [some (.tup (b.map Rw.w)), some (.ref G.n), some (.ref (G.n + 1)), z3, some (.ref m'), z5, y6, none] G2 := by
    unfold t__law_heads_5
    rw [gSeq_ev, for_rng ag2 (rng_n (by omega)), e2, seq_nx]
  have bl : (foldB 0 b F).length = b.length := by rw [foldB_len, List.length_replicate]
  have h3 := lc_fN (G := G2) (ρw := [some (.tup (b.map Rw.w)), some (.ref G.n), some (.ref (G.n + 1)), none, some (.ref m'), z5, y6, none]) (t := tgName 3) (tt := gAndT (gTru (gOp fIx (gVar 1) (gVar 3))) (gTru (gOp fIx (gVar 2) (gVar 3)))) (te := gVar 3) (fun k => cs.getD k false && (foldB 0 b F).getD k false) (List.range b.length) (fun k hk => by
    rw [List.mem_range] at hk
    refine ⟨_, rfl, ?_, rfl⟩
    have a1 := bls_at (l := cs) (a := (k : Int)) (by omega) (by rw [hd.l]; omega)
    have a2 := bls_at (l := foldB 0 b F) (a := (k : Int)) (by omega) (by rw [bl]; omega)
    rw [Int.toNat_natCast] at a1 a2
    have i1 : fIx (.ref G.n) (.int (k : Int)) G2 = .ok (.bl (cs.getD k false)) G2 := by rw [fIx_ref]; simp only [T3.c, a1]; rfl
    have i2 : fIx (.ref (G.n + 1)) (.int (k : Int)) G2 = .ok (.bl ((foldB 0 b F).getD k false)) G2 := by rw [fIx_ref]; simp only [T3.k, a2]; rfl
    rw [gAndT_ev, tru (op2 (vr rfl) (vr rfl) i1), bind_ok]
    cases cs.getD k false with
    | true => rw [if_pos rfl, tru (op2 (vr rfl) (vr rfl) i2), Bool.true_and]
    | false => rw [if_neg (by decide), Bool.false_and])
  rw [heads_eq g hd rfl] at h3
  have hl : (iws (headsD b)).length ≤ 1000000 := by
    rw [iws_len]
    have := foldH_len g
    have := (sortI_perm (foldH b 0 b [])).length_eq
    show (sortI (foldH b 0 b [])).length ≤ _
    omega
  have lc := lcIT (own := false) (vs := [3]) (ρ := [some (.tup (b.map Rw.w)), some (.ref G.n), some (.ref (G.n + 1)), z3, some (.ref m'), z5, y6, none]) ag1 (rng_n (by omega)) h3 hl
  refine ⟨G2, ?_, T3.grow⟩
  rw [e__law_heads, s9, s8, s7, s6, s5]
  unfold t__law_heads_4
  rw [gRet_ev, lc, mkL_false, thn_ok, fin_rt, calm_ok]
end
end Lw

set_option Elab.async false
set_option linter.all false
set_option maxRecDepth 100000
namespace Lw
open PySem PySem.Spec PyProof.Rows L2 Fn
section
variable {G G0 : GH} {b : List Rw} {n m : Nat} {st : List Int}
theorem lst_nb (st : List Int) : (W.lst (iws st)).nb = true := by simp only [W.nb]; exact (nbs_iws st).1
theorem lst_dep (st : List Int) : (W.lst (iws st)).dep ≤ 1 := by simp only [W.dep, (nbs_iws st).2]; omega
theorem ne_rl (h : G.at_ m = some (.lst (iws st))) : fNe (.ref m) (.lst (iws st)) G = .ok (.bl false) G := by
  have ra : res G (.ref m) = .lst (iws st) := by unfold res; simp only [h]
  unfold fNe eqOk
  rw [ra, res_nb (lst_nb st), W.pl_of_nb _ (lst_nb st), eqW_self (lst_nb st), decide_eq_true (by have := lst_dep st; omega)]
  rfl
theorem ne_ll : fNe (.lst (iws st)) (.lst (iws st)) G = .ok (.bl false) G := by
  rw [fNe_nb (lst_nb st) (lst_nb st) (by have := lst_dep st; omega), eqW_self (lst_nb st)]
  rfl
theorem eq_ll : fEq (.lst (iws st)) (.lst (iws st)) G = .ok (.bl true) G := by
  rw [fEq_nb (lst_nb st) (lst_nb st) (by have := lst_dep st; omega), eqW_self (lst_nb st)]
theorem call2 {f : FC} {g1 g2 : FE} {ρ : En} {w1 w2 v : W} {G1 G2 G3 : GH} (h1 : g1 ρ G = .ok w1 G1) (h2 : g2 ρ G1 = .ok w2 G2) (h3 : f [w1, w2] G2 = .ok v G3) : gCall (cFn 2 f) (gCons g1 (gCons g2 gNil)) ρ G = .ok v G3 := by
  rw [gCall_ev, gCons_ev, h1, bind_ok, gCons_ev, h2, bind_ok, gNil_ev, bind_ok, bind_ok, bind_ok, cFn_ev (n := 2) (ws := [w1, w2]) rfl, h3, calm_ok]
theorem frzE {g : FE} {ρ : En} {us : List W} {G1 : GH} (h : g ρ G = .ok (.ref m) G1) (hm : G1.at_ m = some (.lst us)) : gFrz g ρ G = .ok (.lst us) (G1.del m) := by
  rw [gFrz_ev, h, bind_ok, frz_at hm]
theorem isaE {g : FE} {ρ : En} {T : String} {w : W} {k : Bool} {G1 : GH} (h : g ρ G = .ok w G1) (h2 : cIsa [w, .op (.ty T)] G1 = .ok (.bl k) G1) : gCall cIsa (gCons g (gCons (gC (.op (.ty T))) gNil)) ρ G = .ok (.bl k) G1 := by
  rw [gCall_ev, gCons_ev, h, bind_ok, gCons_ev, gC_ev, bind_ok, gNil_ev, bind_ok, bind_ok, bind_ok, h2]
theorem orF' {t u : FT} {ρ : En} {G1 G2 : GH} (h : t ρ G = .ok false G1) (h2 : u ρ G1 = .ok false G2) : gOrT t u ρ G = .ok false G2 := orF h h2
theorem apE {g : FE} {go : FE} {k : FS} {ρ : En} {us : List W} {w : W} {G1 : GH} (ho : go ρ G = .ok (.ref m) G) (h0 : G.at_ m = some (.lst us)) (h : g ρ G = .ok w G1) (h1 : G1.at_ m = some (.lst us)) (hl : us.length < 1000000) : gSeq (gDrop (gMt "list" mAppend go (gCons g gNil))) k ρ G = k ρ (G1.set m (.lst (us ++ [w]))) := by
  rw [gSeq_ev, gDrop_ev, gMt_ev, ho, bind_ok, if_pos (isTy_at h0), gCons_ev, h, bind_ok, gNil_ev, bind_ok, bind_ok, mAppend_at h1 hl, thn_ok, seq_nx]
theorem ask_turn {k : Nat} {r : Rw} {x1 x2 x4 : Option W} (g : Good b) (hr : b[k]? = some r) :
    ∃ y4 G', t__law_asked_4 [some (.tup (b.map Rw.w)), x1, x2, some (.int (k : Int)), x4] G = .nx [some (.tup (b.map Rw.w)), x1, x2, some (.int (k : Int)), y4] G' ∧ Grow G G' := by
  obtain ⟨G1, e1, o1⟩ := steps_ok (G := G) g hr
  have n1 := next_ok (G := G1) hr
  have v0 : ∀ {x4} {G : GH}, gVar 0 [some (.tup (b.map Rw.w)), x1, x2, some (.int (k : Int)), x4] G = .ok (.tup (b.map Rw.w)) G := rfl
  have v3 : ∀ {x4} {G : GH}, gVar 3 [some (.tup (b.map Rw.w)), x1, x2, some (.int (k : Int)), x4] G = .ok (.int (k : Int)) G := rfl
  have v4 : ∀ {G' : GH}, gVar 4 [some (.tup (b.map Rw.w)), x1, x2, some (.int (k : Int)), some (.ref G.n)] G' = .ok (.ref G.n) G' := rfl
  have s4 : t__law_asked_4 [some (.tup (b.map Rw.w)), x1, x2, some (.int (k : Int)), x4] G = t__law_asked_3 [some (.tup (b.map Rw.w)), x1, x2, some (.int (k : Int)), some (.ref G.n)] G1 := by
    unfold t__law_asked_4
    exact asg_nx (call2 v0 v3 e1)
  have s3 : t__law_asked_3 [some (.tup (b.map Rw.w)), x1, x2, some (.int (k : Int)), some (.ref G.n)] G1 = t__law_asked_2 [some (.tup (b.map Rw.w)), x1, x2, some (.int (k : Int)), some (.ref G.n)] G1 := by
    unfold t__law_asked_3
    rw [seq_if_f (orF' (notT (tru (isaE v4 (isa_places o1.r))) : _ = R.ok false G1) (tst (op2 v4 (call2 v0 v3 n1) (ne_rl o1.r)))), gNext_ev, seq_nx]
  have nl : (iws (nextD r k)).length < 1000000 := by
    rw [iws_len]
    unfold nextD
    split <;> first | simp | (split <;> simp)
  have o2 := o1.set (iws (nextD r k) ++ [.int (k : Int)])
  have s2 : t__law_asked_2 [some (.tup (b.map Rw.w)), x1, x2, some (.int (k : Int)), some (.ref G.n)] G1 = t__law_asked_1 [some (.tup (b.map Rw.w)), x1, x2, some (.int (k : Int)), some (.ref G.n)] (G1.set G.n (.lst (iws (nextD r k) ++ [.int (k : Int)]))) := by
    unfold t__law_asked_2
    exact apE v4 o1.r v3 o1.r nl
  obtain ⟨G3, e3, o3⟩ := steps_ok (G := G1.set G.n (.lst (iws (nextD r k) ++ [.int (k : Int)]))) g hr
  refine ⟨some (.ref G.n), G3.del (G1.set G.n (.lst (iws (nextD r k) ++ [.int (k : Int)]))).n, ?_, o2.grow.trans (o3.grow.del o3.a)⟩
  rw [s4, s3, s2]
  unfold t__law_asked_1
  rw [if_only_f (tst (op2 (frzE (call2 v0 v3 e3) o3.r) (call2 v0 v3 (next_ok hr)) ne_ll)), gNext_ev]
theorem ask_loop {x1 x2 : Option W} (g : Good b) : ∀ (l : List Rw) (i : Nat) (x3 x4 : Option W) (G : GH), b.drop i = l → ∃ y3 y4 G', forF (tgName 3) t__law_asked_4 ((List.range' i l.length).map fun (k : Nat) => W.int (k : Int)) [some (.tup (b.map Rw.w)), x1, x2, x3, x4] G = .nx [some (.tup (b.map Rw.w)), x1, x2, y3, y4] G' ∧ Grow G G'
  | [], i, x3, x4, G, _ => ⟨x3, x4, G, rfl, Grow.refl G⟩
  | r :: l, i, x3, x4, G, hd => by
    have hr : b[i]? = some r := by
      have := congrArg (fun l => l[0]?) hd
      simpa using this
    have hd' : b.drop (i + 1) = l := by rw [← List.drop_drop, hd]; rfl
    obtain ⟨y4, G1, e1, g1⟩ := ask_turn (G := G) (x1 := x1) (x2 := x2) (x4 := x4) g hr
    obtain ⟨y3, z4, G', e2, g2⟩ := ask_loop g l (i + 1) (some (.int (i : Int))) y4 G1 hd'
    refine ⟨y3, z4, G', ?_, g1.trans g2⟩
    rw [List.length_cons, List.range'_succ, List.map_cons, forF_nx (w := .int (i : Int)) (ρ := [some (.tup (b.map Rw.w)), x1, x2, x3, x4]) (G := G) rfl e1, e2]
theorem falses (l : List Int) : inWs (.bl true) (l.map fun _ => W.bl false) = false ∧ W.pls (l.map fun _ => W.bl false) = true ∧ W.deps (l.map fun _ => W.bl false) = 0 := by
  induction l with
  | nil => exact ⟨rfl, rfl, rfl⟩
  | cons a l ih => exact ⟨by rw [List.map_cons, inWs, ih.1]; rfl, by rw [List.map_cons, W.pls, ih.2.1]; rfl, by rw [List.map_cons, W.deps, ih.2.2]; rfl⟩
theorem askedK (g : Good b) : ∃ G', f__law_asked [.tup (b.map Rw.w), .lst (iws (headsD b))] G = .ok (.bl true) G' ∧ Grow G G' := by
  have gl := g.le
  obtain ⟨m, G1, e1, o1⟩ := heads_ok (G := G) g
  obtain ⟨y3, y4, G2, e2, g2⟩ := ask_loop (x1 := some (.lst (iws (headsD b)))) (x2 := some (.ref m)) g b 0 none none G1 List.drop_zero
  have o2 := o1.more g2
  have hl : (headsD b).length ≤ 40 := by
    have := foldH_len g
    have := (sortI_perm (foldH b 0 b [])).length_eq
    show (sortI (foldH b 0 b [])).length ≤ _
    omega
  have v0 : ∀ {x2 x3 x4} {G : GH}, gVar 0 [some (.tup (b.map Rw.w)), some (.lst (iws (headsD b))), x2, x3, x4] G = .ok (.tup (b.map Rw.w)) G := rfl
  have v1 : ∀ {x2 x3 x4} {G : GH}, gVar 1 [some (.tup (b.map Rw.w)), some (.lst (iws (headsD b))), x2, x3, x4] G = .ok (.lst (iws (headsD b))) G := rfl
  have v2 : ∀ {x3 x4} {G : GH}, gVar 2 [some (.tup (b.map Rw.w)), some (.lst (iws (headsD b))), some (.ref m), x3, x4] G = .ok (.ref m) G := rfl
  have s9 : b__law_asked [some (.tup (b.map Rw.w)), some (.lst (iws (headsD b))), none, none, none] G = t__law_asked_8 [some (.tup (b.map Rw.w)), some (.lst (iws (headsD b))), some (.ref m), none, none] G1 := by
    unfold b__law_asked t__law_asked_9
    exact asg_nx (call1 v0 e1)
  have lc : gLc false (iSeq (gVar 2)) (tgName 3) gYes (gCall cIsa (gCons (gVar 3) (gCons (gC (.op (.ty "bool"))) gNil))) [3] [some (.tup (b.map Rw.w)), some (.lst (iws (headsD b))), some (.ref m), none, none] G1 = .ok (.lst ((headsD b).map fun _ => W.bl false)) G1 := by
    have te : ∀ i : Int, gCall cIsa (gCons (gVar 3) (gCons (gC (.op (.ty "bool"))) gNil)) [some (.tup (b.map Rw.w)), some (.lst (iws (headsD b))), some (.ref m), some (.int i), none] G1 = .ok (.bl false) G1 := fun i => isaE (w := .int i) rfl (cIsa_nb rfl rfl)
    have h3 := lc_on (G := G1) (ρw := [some (.tup (b.map Rw.w)), some (.lst (iws (headsD b))), some (.ref m), none, none]) (t := tgName 3) (te := gCall cIsa (gCons (gVar 3) (gCons (gC (.op (.ty "bool"))) gNil))) W.int (fun _ => W.bl false) (headsD b) (fun i _ => ⟨_, rfl, te i⟩)
    have as : asSeq (.ref m) G1 = .ok (.own m) G1 := by unfold asSeq; simp only [o1.r]
    have lo : lcO m (tgName 3) gYes (gCall cIsa (gCons (gVar 3) (gCons (gC (.op (.ty "bool"))) gNil))) [some (.tup (b.map Rw.w)), some (.lst (iws (headsD b))), some (.ref m), none, none] (iws (headsD b)).length 0 G1 = _ := lcO_eq o1.r (fun w mw => by
      obtain ⟨i, _, rfl⟩ := List.mem_map.mp mw
      refine ⟨some (.bl false), ?_⟩
      unfold lcTurn
      show R.bind (R.calm (R.ok true G1)) _ = _
      rw [calm_ok, bind_ok, if_pos rfl]
      show R.bind (R.calm (gCall cIsa (gCons (gVar 3) (gCons (gC (.op (.ty "bool"))) gNil)) [some (.tup (b.map Rw.w)), some (.lst (iws (headsD b))), some (.ref m), some (.int i), none] G1)) _ = _
      rw [te i, calm_ok, bind_ok]) (iws (headsD b)).length 0 (by omega)
    rw [List.drop_zero] at lo
    rw [gLc_ev, iSeq_ev, v2, bind_ok, as, bind_ok, lcW_own, lenO_at o1.r]
    show (R.calm (lcO m _ _ _ [some (.tup (b.map Rw.w)), some (.lst (iws (headsD b))), some (.ref m), none, none] (iws (headsD b)).length 0 G1)).bind _ = _
    rw [lo]
    have h3' : lcF (tgName 3) gYes (gCall cIsa (gCons (gVar 3) (gCons (gC (.op (.ty "bool"))) gNil))) [some (.tup (b.map Rw.w)), some (.lst (iws (headsD b))), some (.ref m), none, none] (iws (headsD b)) G1 = _ := h3
    rw [h3', calm_ok, bind_ok, if_pos (len_le _ (by rw [List.length_map]; omega)), mkL_false]
  have inF : fIn false (.bl true) (.lst ((headsD b).map fun _ => W.bl false)) G1 = .ok (.bl false) G1 := by
    obtain ⟨f1, f2, f3⟩ := falses (headsD b)
    unfold fIn itemsD
    simp only [res, W.pl, f1, f2, f3, W.dep]
    rfl
  have s8 : t__law_asked_8 [some (.tup (b.map Rw.w)), some (.lst (iws (headsD b))), some (.ref m), none, none] G1 = t__law_asked_7 [some (.tup (b.map Rw.w)), some (.lst (iws (headsD b))), some (.ref m), none, none] G1 := by
    unfold t__law_asked_8
    rw [seq_if_f (orF' (notT (tru (isaE v2 (isa_places o1.r))) : _ = R.ok false G1) (orF' (tst (op2 v2 v1 (ne_rl o1.r))) (tst (op2 gC_ev lc inF)))), gNext_ev, seq_nx]
  have ag : gCons (gCall cLen (gCons (gVar 0) gNil)) gNil [some (.tup (b.map Rw.w)), some (.lst (iws (headsD b))), some (.ref m), none, none] G1 = .ok [.int ((b.length : Nat) : Int)] G1 := by simp
  rw [← List.range_eq_range'] at e2
  have s7 : t__law_asked_7 [some (.tup (b.map Rw.w)), some (.lst (iws (headsD b))), some (.ref m), none, none] G1 = t__law_asked_6 [some (.tup (b.map Rw.w)), some (.lst (iws (headsD b))), some (.ref m), y3, y4] G2 := by
    unfold t__law_asked_7
    rw [gSeq_ev, for_rng ag (rng_n (by omega)), e2, seq_nx]
  have ins := mInsert_at (i := 0) (w := .int (b.length : Int)) o2.r (by rw [iws_len]; omega) (by omega) (by omega)
  have o3 := o2.set ((iws (headsD b)).take (0 : Int).toNat ++ [.int (b.length : Int)] ++ (iws (headsD b)).drop (0 : Int).toNat)
  have s6 : t__law_asked_6 [some (.tup (b.map Rw.w)), some (.lst (iws (headsD b))), some (.ref m), y3, y4] G2 = t__law_asked_5 [some (.tup (b.map Rw.w)), some (.lst (iws (headsD b))), some (.ref m), y3, y4] (G2.set m (.lst ((iws (headsD b)).take (0 : Int).toNat ++ [.int (b.length : Int)] ++ (iws (headsD b)).drop (0 : Int).toNat))) := by
    unfold t__law_asked_6
    rw [gSeq_ev, gDrop_ev, gMt_ev, v2, bind_ok, if_pos (isTy_at o2.r), gCons_ev, gC_ev, bind_ok, gCons_ev, gCall_ev, gCons_ev, v0, bind_ok, gNil_ev, bind_ok, bind_ok, cLen_tup, bind_ok, gNil_ev, bind_ok, bind_ok, bind_ok, List.length_map, ins, thn_ok, seq_nx]
  obtain ⟨m2, G4, e4, o4⟩ := heads_ok (G := G2.set m (.lst ((iws (headsD b)).take (0 : Int).toNat ++ [.int (b.length : Int)] ++ (iws (headsD b)).drop (0 : Int).toNat))) g
  refine ⟨G4.del m2, ?_, o3.grow.trans (o4.grow.del o4.a)⟩
  rw [e__law_asked, s9, s8, s7, s6]
  unfold t__law_asked_5
  rw [gRet_ev, op2 (frzE (call1 v0 e4) o4.r) v1 eq_ll, thn_ok, fin_rt, calm_ok]
end
end Lw

set_option Elab.async false
set_option linter.all false
set_option maxRecDepth 100000
namespace Lw
open PySem PySem.Spec PyProof.Rows L2 Fn
section
variable {G G0 : GH} {b : List Rw} {n m : Nat}
theorem Told.dr' {n m : Nat} {G0 G G' : GH} {us : List W} (h : Told n m G0 G us) (d : Dr n G G') : Told n m G0 G' us := ⟨h.dr.trans d, (d.keep m h.b h.ne).trans h.r, h.a, Nat.lt_of_lt_of_le h.b d.le, h.lt⟩
theorem apL {g : FE} {go : FE} {ρ : En} {us : List W} {w : W} {G1 : GH} (ho : go ρ G = .ok (.ref m) G) (h0 : G.at_ m = some (.lst us)) (h : g ρ G = .ok w G1) (h1 : G1.at_ m = some (.lst us)) (hl : us.length < 1000000) : gDrop (gMt "list" mAppend go (gCons g gNil)) ρ G = .nx ρ (G1.set m (.lst (us ++ [w]))) := by
  rw [gDrop_ev, gMt_ev, ho, bind_ok, if_pos (isTy_at h0), gCons_ev, h, bind_ok, gNil_ev, bind_ok, bind_ok, mAppend_at h1 hl, thn_ok]
theorem later_ok (r : Rw) : f__law_later [r.w] G = .ok (r.mapT (· + 1)).w G := by
  rw [e__law_later]
  unfold b__law_later t__law_later_3 t__law_later_2 t__law_later_1
  cases r with
  | test s x y g =>
    have c4 : cutW [W.str "test", sgn (s.val : Int), x.w, y.w, .int g] none (some 4) = [W.str "test", sgn (s.val : Int), x.w, y.w] := cut_at (k := 4)
    simp [Rw.w, Rw.mapT, c4, lens, len_le, fAddL]
  | jump g =>
    have c4 : cutW [W.str "jump", .int g] none (some 1) = [W.str "jump"] := cut_at (k := 1)
    simp [Rw.w, Rw.mapT, c4, lens, len_le, fAddL]
  | _ => simp [Rw.w, Rw.mapT]
theorem rows_turn' {s : Int} {k : Nat} {rs : List Rw} {x0 x5 x6 x7 x8 x9 x10 x11 x12 : Option W} (T : Told n m G0 G (rs.map Rw.w)) (h1 : 1 ≤ s) (h30 : s ≤ 30) (hl : rs.length < 100) :
    ∃ (r : Rw) (y11 : Option W) (G' : GH), t_law_1 [x0, some (.ref n), some (.int s), some (.ref m), some (.int (k : Int)), x5, x6, x7, x8, x9, x10, x11, x12] G = .nx [x0, some (.ref n), some (.int s), some (.ref m), some (.int (k : Int)), x5, x6, x7, x8, x9, x10, y11, x12] G' ∧ Told n m G0 G' ((rs ++ [r]).map Rw.w) ∧ Rok s r := by
  have nl : (rs.map Rw.w).length < 1000000 := by rw [List.length_map]; omega
  have fin : ∀ {G1 : GH} {r : Rw}, Told n m G0 G1 (rs.map Rw.w) → Told n m G0 (G1.set m (.lst (rs.map Rw.w ++ [r.w]))) ((rs ++ [r]).map Rw.w) := fun {G1 r} T1 => by
    rw [List.map_append]
    exact T1.set _
  have row : ∀ {G1 : GH}, Told n m G0 G1 (rs.map Rw.w) → ∃ (r : Rw) (G' : GH), gDrop (gMt "list" mAppend (gVar 3) (gCons (gCall (cFn 2 f__law_row) (gCons (gVar 1) (gCons (gVar 2) gNil))) gNil)) [x0, some (.ref n), some (.int s), some (.ref m), some (.int (k : Int)), x5, x6, x7, x8, x9, x10, x11, x12] G1 = .nx [x0, some (.ref n), some (.int s), some (.ref m), some (.int (k : Int)), x5, x6, x7, x8, x9, x10, x11, x12] G' ∧ Told n m G0 G' ((rs ++ [r]).map Rw.w) ∧ Rok s r := fun {G1} T1 => by
    obtain ⟨r, G2, e2, d2, rk⟩ := rowK T1.dr.deck (T1.dr.lt T1.lt) h1 h30
    have T2 := T1.dr' d2
    exact ⟨r, _, apL rfl T1.r (call2 rfl rfl e2) T2.r nl, fin T2, rk⟩
  unfold t_law_1
  by_cases hs : 14 < s
  · obtain ⟨d, G1, e1, d0, d3, r1⟩ := drawn 3 T.dr.deck
    have T1 := T.draw r1
    have cc : gAndT (gTest (gOp fGt (gVar 2) (gC (.int 14)))) (gTest (gOp fGt (gCall (cFn 2 f__law_draw) (gCons (gVar 1) (gCons (gC (.int 3)) gNil))) (gC (.int 0)))) [x0, some (.ref n), some (.int s), some (.ref m), some (.int (k : Int)), x5, x6, x7, x8, x9, x10, x11, x12] G = .ok (decide (0 < d)) G1 := by
      rw [gAndT_ev, tst (op2 (vr (i := 2) (w := .int s) rfl) gC_ev (fGt_i _ _)), bind_ok, if_pos (decide_eq_true hs), tst (op2 (call2 (vr (i := 1) (w := .ref n) rfl) gC_ev e1) gC_ev (fGt_i _ _))]
    by_cases hd : 0 < d
    · rw [decide_eq_true hd] at cc
      obtain ⟨q, G2, e2, q0, q5, r2⟩ := drawn 5 T1.dr.deck
      have T2 := T1.draw r2
      have nr : ∃ v : Int, 0 ≤ v ∧ v < s ∧ gCall cMin2 (gCons (gOp fSub (gVar 2) (gC (.int 1))) (gCons (gCall cMax2 (gCons (gC (.int 0)) (gCons (gOp fSub (gOp (fAddL false) (gVar 4) (gCall (cFn 2 f__law_draw) (gCons (gVar 1) (gCons (gC (.int 5)) gNil)))) (gC (.int 2))) gNil))) gNil)) [x0, some (.ref n), some (.int s), some (.ref m), some (.int (k : Int)), x5, x6, x7, x8, x9, x10, x11, x12] G1 = .ok (.int v) G2 := by
        have mx : ∃ u : Int, 0 ≤ u ∧ cMax2 [.int 0, .int ((k : Int) + q - 2)] G2 = .ok (.int u) G2 := by
          unfold cMax2
          by_cases c : (0 : Int) < (k : Int) + q - 2
          · exact ⟨(k : Int) + q - 2, by omega, by simp only [if_pos c]⟩
          · exact ⟨0, by omega, by simp only [if_neg c]⟩
        obtain ⟨u, u0, eu⟩ := mx
        have mn : ∃ v : Int, 0 ≤ v ∧ v < s ∧ cMin2 [.int (s - 1), .int u] G2 = .ok (.int v) G2 := by
          unfold cMin2
          by_cases c : u < s - 1
          · exact ⟨u, u0, by omega, by simp only [if_pos c]⟩
          · exact ⟨s - 1, by omega, by omega, by simp only [if_neg c]⟩
        obtain ⟨v, v0, v1, ev⟩ := mn
        refine ⟨v, v0, v1, ?_⟩
        rw [gCall_ev, gCons_ev, op2 (vr (i := 2) (w := .int s) rfl) gC_ev (fSub_i _ _), bind_ok, gCons_ev, gCall_ev, gCons_ev, gC_ev, bind_ok, gCons_ev, op2 (op2 (vr (i := 4) (w := .int (k : Int)) rfl) (call2 (vr (i := 1) (w := .ref n) rfl) gC_ev e2) (fAdd_i false _ _)) gC_ev (fSub_i _ _), bind_ok, gNil_ev, bind_ok, bind_ok, bind_ok, eu, bind_ok, gNil_ev, bind_ok, bind_ok, bind_ok, ev]
      obtain ⟨v, v0, v1, ev⟩ := nr
      refine ⟨.test 0 (.pl (.var 0 0)) (.pl (.num (k : Int))) v, some (.int v), G2.set m (.lst (rs.map Rw.w ++ [(Rw.test 0 (.pl (.var 0 0)) (.pl (.num (k : Int))) v).w])), ?_, fin T2, ⟨fun t e => by cases e; exact ⟨v0, v1⟩, by simp [Rw.ws, Tm.ws_len]⟩⟩
      rw [gIfS_ev, cc, thn_ok, if_pos rfl, asg_nx ev]
      exact apL rfl T2.r (by simp [lens]; rfl) T2.r nl
    · rw [decide_eq_false hd] at cc
      obtain ⟨r, G2, e2, T2, rk⟩ := row T1
      exact ⟨r, x11, G2, by rw [if_only_f cc]; exact e2, T2, rk⟩
  · obtain ⟨r, G2, e2, T2, rk⟩ := row T
    refine ⟨r, x11, G2, ?_, T2, rk⟩
    rw [if_only_f (G1 := G) (by rw [gAndT_ev, tst (op2 (vr (i := 2) (w := .int s) rfl) gC_ev (fGt_i _ _)), bind_ok, if_neg (by simp; omega)])]
    exact e2
theorem rows_loop' {s : Int} {x0 x5 x6 x7 x8 x9 x10 x12 : Option W} (h1 : 1 ≤ s) (h30 : s ≤ 30) : ∀ (ks : List Nat) (rs : List Rw) (x4 x11 : Option W) (G : GH), Told n m G0 G (rs.map Rw.w) → rs.length + ks.length < 100 → (∀ r ∈ rs, Rok s r) →
    ∃ (rs' : List Rw) (y4 y11 : Option W) (G' : GH), forF (tgName 4) t_law_1 (ks.map fun (k : Nat) => W.int (k : Int)) [x0, some (.ref n), some (.int s), some (.ref m), x4, x5, x6, x7, x8, x9, x10, x11, x12] G = .nx [x0, some (.ref n), some (.int s), some (.ref m), y4, x5, x6, x7, x8, x9, x10, y11, x12] G' ∧ Told n m G0 G' (rs'.map Rw.w) ∧ (∀ r ∈ rs', Rok s r) ∧ rs'.length = rs.length + ks.length
  | [], rs, x4, x11, G, T, _, hr => ⟨rs, x4, x11, G, rfl, T, hr, rfl⟩
  | k :: ks, rs, x4, x11, G, T, hl, hr => by
    rw [List.length_cons] at hl
    obtain ⟨r, y11, G1, e1, T1, rk⟩ := rows_turn' (k := k) (x0 := x0) (x5 := x5) (x6 := x6) (x7 := x7) (x8 := x8) (x9 := x9) (x10 := x10) (x11 := x11) (x12 := x12) T h1 h30 (by omega)
    obtain ⟨rs', y4, z11, G', e2, T2, h2, l2⟩ := rows_loop' h1 h30 ks (rs ++ [r]) (some (.int (k : Int))) y11 G1 T1 (by rw [List.length_append, List.length_singleton]; omega) (fun q mq => by
      rcases List.mem_append.mp mq with mq | mq
      · exact hr q mq
      · rw [List.mem_singleton] at mq; subst mq; exact rk)
    refine ⟨rs', y4, z11, G', ?_, T2, h2, by rw [l2, List.length_append, List.length_singleton, List.length_cons]; omega⟩
    rw [List.map_cons, forF_nx (w := .int (k : Int)) (ρ := [x0, some (.ref n), some (.int s), some (.ref m), x4, x5, x6, x7, x8, x9, x10, x11, x12]) (G := G) rfl e1, e2]
theorem last_ok {s : Int} {x0 x3 x4 x5 x6 x7 x8 x9 x10 x11 x12 : Option W} (h : Deck G n) (h1 : 1 ≤ s) (h30 : s ≤ 30) :
    ∃ (r : Rw) (G' : GH), gOp fIx (gLst false (gCons (gTup (gCons (gC (.str "return")) (gCons (gTup (gCons (gC (.str "num")) (gCons (gVar 2) gNil))) gNil))) (gCons (gTup (gCons (gC (.str "fail")) (gCons (gVar 2) gNil))) (gCons (gTup (gCons (gC (.str "jump")) (gCons (gCall (cFn 2 f__law_draw) (gCons (gVar 1) (gCons (gVar 2) gNil))) gNil))) gNil)))) (gCall (cFn 2 f__law_draw) (gCons (gVar 1) (gCons (gC (.int 3)) gNil))) [x0, some (.ref n), some (.int s), x3, x4, x5, x6, x7, x8, x9, x10, x11, x12] G = .ok r.w G' ∧ Drawn n G G' ∧ Rok s r ∧ endR r = true := by
  obtain ⟨j, G1, e1, j0, j1, r1⟩ := draw_ok (m := s) h (by omega) (log2_of (by omega))
  obtain ⟨d, G2, e2, d0, d3, r2⟩ := drawn 3 r1.deck
  have cs : d = 0 ∨ d = 1 ∨ d = 2 := by omega
  rcases cs with rfl | rfl | rfl
  · exact ⟨.ret (.pl (.num s)), G2, by simp [lens, e1, e2, Rw.w, Tm.w, Pl.w], r1.trans r2, ⟨fun t e => (by cases e), by simp [Rw.ws, Tm.ws_len]⟩, rfl⟩
  · exact ⟨.fail s, G2, by simp [lens, e1, e2, Rw.w], r1.trans r2, ⟨fun t e => (by cases e), by simp [Rw.ws]⟩, rfl⟩
  · exact ⟨.jump j, G2, by simp [lens, e1, e2, Rw.w], r1.trans r2, ⟨fun t e => (by cases e; exact ⟨j0, j1⟩), by simp [Rw.ws]⟩, rfl⟩
def laterB (b : List Rw) : List Rw := .set 0 (.pl (.num 1)) :: b.map (Rw.mapT (· + 1))
theorem good_later (g : Good b) (h30 : b.length ≤ 30) : Good (laterB b) := by
  refine ⟨by simp [laterB], by simp [laterB]; omega, fun r hr t e => ?_, fun r hr => ?_⟩
  · rcases List.mem_cons.mp hr with rfl | hr
    · cases e
    · obtain ⟨q, hq, rfl⟩ := List.mem_map.mp hr
      rw [Rw.mapT_tg] at e
      obtain ⟨u, eu, rfl⟩ := Option.map_eq_some_iff.mp e
      have := g.tg q hq u eu
      simp [laterB]; omega
  · have gp := g.pos
    have l : (laterB b).length - 1 = (b.length - 1) + 1 := by simp [laterB]; omega
    rw [l] at hr
    unfold laterB at hr
    rw [List.getElem?_cons_succ, List.getElem?_map] at hr
    obtain ⟨q, hq, rfl⟩ := Option.map_eq_some_iff.mp hr
    have := g.last q hq
    cases q <;> first | rfl | cases this
end
end Lw

set_option Elab.async false
set_option linter.all false
set_option maxRecDepth 100000
namespace Lw
open PySem PySem.Spec PyProof.Rows L2 Fn
section
variable {G G0 : GH} {b : List Rw} {n m : Nat}
theorem Grow.one {us : List W} (h : G.at_ m = some (.lst us)) (hm : m < G.n) {G' : GH} (g : Grow G G') : G'.at_ m = some (.lst us) ∧ m < G'.n := ⟨(g.2 m hm).trans h, Nat.lt_of_lt_of_le hm g.1⟩
theorem longer_ok {x0 x1 x2 x4 x5 x6 x7 x8 x9 x10 x11 : Option W} (hm : G.at_ m = some (.lst (b.map Rw.w))) (hb : b.length ≤ 100) :
    gCall cTuple (gCons (gOp (fAddL false) (gLst false (gCons (gTup (gCons (gC (.str "set")) (gCons (gC (.int 0)) (gCons (gTup (gCons (gC (.str "num")) (gCons (gC (.int 1)) gNil))) gNil)))) gNil)) (gLc false (iSeq (gVar 3)) (tgName 12) gYes (gCall (cFn 1 f__law_later) (gCons (gVar 12) gNil)) [12])) gNil) [x0, x1, x2, some (.ref m), x4, x5, x6, x7, x8, x9, x10, x11, none] G = .ok (.tup ((laterB b).map Rw.w)) G := by
  have te : ∀ r : Rw, gCall (cFn 1 f__law_later) (gCons (gVar 12) gNil) [x0, x1, x2, some (.ref m), x4, x5, x6, x7, x8, x9, x10, x11, some r.w] G = .ok (r.mapT (· + 1)).w G := fun r => call1 (w := r.w) rfl (later_ok r)
  have h3 := lc_on (G := G) (ρw := [x0, x1, x2, some (.ref m), x4, x5, x6, x7, x8, x9, x10, x11, none]) (t := tgName 12) (te := gCall (cFn 1 f__law_later) (gCons (gVar 12) gNil)) Rw.w (fun r => (r.mapT (· + 1)).w) b (fun r _ => ⟨_, rfl, te r⟩)
  have as : asSeq (.ref m) G = .ok (.own m) G := by unfold asSeq; simp only [hm]
  have lo : lcO m (tgName 12) gYes (gCall (cFn 1 f__law_later) (gCons (gVar 12) gNil)) [x0, x1, x2, some (.ref m), x4, x5, x6, x7, x8, x9, x10, x11, none] (b.map Rw.w).length 0 G = _ := lcO_eq hm (fun w mw => by
    obtain ⟨r, _, rfl⟩ := List.mem_map.mp mw
    refine ⟨some (r.mapT (· + 1)).w, ?_⟩
    unfold lcTurn
    show R.bind (R.calm (R.ok true G)) _ = _
    rw [calm_ok, bind_ok, if_pos rfl]
    show R.bind (R.calm (gCall (cFn 1 f__law_later) (gCons (gVar 12) gNil) [x0, x1, x2, some (.ref m), x4, x5, x6, x7, x8, x9, x10, x11, some r.w] G)) _ = _
    rw [te r, calm_ok, bind_ok]) (b.map Rw.w).length 0 (by omega)
  rw [List.drop_zero] at lo
  have lc : gLc false (iSeq (gVar 3)) (tgName 12) gYes (gCall (cFn 1 f__law_later) (gCons (gVar 12) gNil)) [12] [x0, x1, x2, some (.ref m), x4, x5, x6, x7, x8, x9, x10, x11, none] G = .ok (.lst ((b.map (Rw.mapT (· + 1))).map Rw.w)) G := by
    rw [gLc_ev, iSeq_ev, vr (i := 3) (w := .ref m) rfl, bind_ok, as, bind_ok, lcW_own, lenO_at hm]
    show (R.calm (lcO m _ _ _ [x0, x1, x2, some (.ref m), x4, x5, x6, x7, x8, x9, x10, x11, none] (b.map Rw.w).length 0 G)).bind _ = _
    rw [lo, h3, calm_ok, bind_ok, if_pos (len_le _ (by rw [List.length_map]; omega)), mkL_false, List.map_map]
    rfl
  have l1 : gLst false (gCons (gTup (gCons (gC (.str "set")) (gCons (gC (.int 0)) (gCons (gTup (gCons (gC (.str "num")) (gCons (gC (.int 1)) gNil))) gNil)))) gNil) [x0, x1, x2, some (.ref m), x4, x5, x6, x7, x8, x9, x10, x11, none] G = .ok (.lst [(Rw.set 0 (.pl (.num 1))).w]) G := by
    simp [lens, Rw.w, Tm.w, Pl.w]
  have ad : fAddL false (.lst [(Rw.set 0 (.pl (.num 1))).w]) (.lst ((b.map (Rw.mapT (· + 1))).map Rw.w)) G = .ok (.lst ((laterB b).map Rw.w)) G := by
    show (if ([(Rw.set 0 (.pl (.num 1))).w] : List W).length + ((b.map (Rw.mapT (· + 1))).map Rw.w).length ≤ sizeLine then mkL false ([(Rw.set 0 (.pl (.num 1))).w] ++ (b.map (Rw.mapT (· + 1))).map Rw.w) G else .no) = _
    rw [if_pos (by rw [List.length_map, List.length_map, sizeLine_eq]; simp; omega)]
    rfl
  rw [gCall_ev, gCons_ev, op2 l1 lc ad, bind_ok, gNil_ev, bind_ok, bind_ok, cTuple_lst]
theorem tail_ok {x0 x1 x2 x4 x5 x11 : Option W} (g : Good b) (h30 : b.length ≤ 30) (hb : ∀ r ∈ b, r.ws.length ≤ 19) (hm : G.at_ m = some (.lst (b.map Rw.w))) (mn : m < G.n) :
    ∃ G', t_law_8 [x0, x1, x2, some (.ref m), x4, x5, some (.tup (b.map Rw.w)), none, none, none, none, x11, none] G = .rt (.bl true) G' := by
  have fl := flat_le hb
  have rl := rows_le b
  have wl : (wordsD b).length = (flat b).length := flat_mapT _ b
  have gp := g.pos
  obtain ⟨G1, e1, g1⟩ := lwords_ok (G := G) (b := b) (fun r mr => by have := hb r mr; omega) (by omega) g.tg (by omega)
  obtain ⟨m1, n1⟩ := Grow.one hm mn g1
  obtain ⟨G2, e2, g2⟩ := body_ok (G := G1) (ws := wordsD b) (by omega)
  obtain ⟨m2, n2⟩ := Grow.one m1 n1 g2
  have pd : parseD (wordsD b) (wordsD b).length 0 = some (b.map (Rw.mapT (pl (offs 0 b)))) := parse_flat _ _ (Nat.le_refl _)
  rw [pd, Option.bind_some, body_words g.tg] at e2
  have e2' : f_read_body [tw (wordsD b)] G1 = .ok (.tup (b.map Rw.w)) G2 := e2
  obtain ⟨G3, e3, g3⟩ := lheads_ok (G := G2) g
  obtain ⟨m3, n3⟩ := Grow.one m2 n2 g3
  obtain ⟨G4, e4, g4⟩ := askedK (G := G3) g
  obtain ⟨m4, n4⟩ := Grow.one m3 n3 g4
  obtain ⟨q5, G5, e5, o5⟩ := heads_ok (G := G4) g
  have g5 : Grow G4 (G5.del q5) := o5.grow.del o5.a
  obtain ⟨m5, n5⟩ := Grow.one m4 n4 g5
  have gl := good_later g h30
  obtain ⟨G6, e6, g6⟩ := lheads_ok (G := G5.del q5) gl
  obtain ⟨G7, e7, g7⟩ := askedK (G := G6) gl
  obtain ⟨q8, G8, e8, o8⟩ := heads_ok (G := G7) g
  refine ⟨G8.del q8, ?_⟩
  have s8 : t_law_8 [x0, x1, x2, some (.ref m), x4, x5, some (.tup (b.map Rw.w)), none, none, none, none, x11, none] G = t_law_7 [x0, x1, x2, some (.ref m), x4, x5, some (.tup (b.map Rw.w)), some (tw (wordsD b)), none, none, none, x11, none] G1 := by
    unfold t_law_8
    exact asg_nx (call1 rfl e1)
  have s7 : t_law_7 [x0, x1, x2, some (.ref m), x4, x5, some (.tup (b.map Rw.w)), some (tw (wordsD b)), none, none, none, x11, none] G1 = t_law_6 [x0, x1, x2, some (.ref m), x4, x5, some (.tup (b.map Rw.w)), some (tw (wordsD b)), some (.tup (b.map Rw.w)), none, none, x11, none] G2 := by
    unfold t_law_7
    exact asg_nx (call1 rfl e2')
  have s6 : t_law_6 [x0, x1, x2, some (.ref m), x4, x5, some (.tup (b.map Rw.w)), some (tw (wordsD b)), some (.tup (b.map Rw.w)), none, none, x11, none] G2 = t_law_5 [x0, x1, x2, some (.ref m), x4, x5, some (.tup (b.map Rw.w)), some (tw (wordsD b)), some (.tup (b.map Rw.w)), none, none, x11, none] G2 := by
    unfold t_law_6
    rw [seq_if_f (orF' (notT (tru (isaE (w := .tup (b.map Rw.w)) rfl (isa_tup b))) : _ = R.ok false G2) (tst (op2 (u := .tup (b.map Rw.w)) (v := .tup (b.map Rw.w)) rfl rfl (ne_body b)))), gNext_ev, seq_nx]
  have s5 : t_law_5 [x0, x1, x2, some (.ref m), x4, x5, some (.tup (b.map Rw.w)), some (tw (wordsD b)), some (.tup (b.map Rw.w)), none, none, x11, none] G2 = t_law_4 [x0, x1, x2, some (.ref m), x4, x5, some (.tup (b.map Rw.w)), some (tw (wordsD b)), some (.tup (b.map Rw.w)), some (.lst (iws (headsD b))), none, x11, none] G3 := by
    unfold t_law_5
    exact asg_nx (call1 (w := .tup (b.map Rw.w)) rfl e3)
  have s4 : t_law_4 [x0, x1, x2, some (.ref m), x4, x5, some (.tup (b.map Rw.w)), some (tw (wordsD b)), some (.tup (b.map Rw.w)), some (.lst (iws (headsD b))), none, x11, none] G3 = t_law_3 [x0, x1, x2, some (.ref m), x4, x5, some (.tup (b.map Rw.w)), some (tw (wordsD b)), some (.tup (b.map Rw.w)), some (.lst (iws (headsD b))), none, x11, none] (G5.del q5) := by
    unfold t_law_4
    rw [seq_if_f (orF' (notT (tru (call2 (w1 := .tup (b.map Rw.w)) (w2 := .lst (iws (headsD b))) rfl rfl e4)) : _ = R.ok false G4) (tst (op2 (v := .lst (iws (headsD b))) (frzE (call1 (w := .tup (b.map Rw.w)) rfl e5) o5.r) rfl ne_ll))), gNext_ev, seq_nx]
  have s3 : t_law_3 [x0, x1, x2, some (.ref m), x4, x5, some (.tup (b.map Rw.w)), some (tw (wordsD b)), some (.tup (b.map Rw.w)), some (.lst (iws (headsD b))), none, x11, none] (G5.del q5) = t_law_2 [x0, x1, x2, some (.ref m), x4, x5, some (.tup (b.map Rw.w)), some (tw (wordsD b)), some (.tup (b.map Rw.w)), some (.lst (iws (headsD b))), some (.tup ((laterB b).map Rw.w)), x11, none] (G5.del q5) := by
    unfold t_law_3
    exact asg_nx (longer_ok m5 (by omega))
  rw [s8, s7, s6, s5, s4, s3]
  unfold t_law_2
  rw [gRet_ev, andV (call2 (w1 := .tup ((laterB b).map Rw.w)) rfl (call1 (w := .tup ((laterB b).map Rw.w)) rfl e6) e7) (op2 (v := .lst (iws (headsD b))) (frzE (call1 (w := .tup (b.map Rw.w)) rfl e8) o8.r) rfl eq_ll), thn_ok]
theorem law_true : ∀ ns : List Int, ns.length ≤ 63 → ∃ G, f_law [.lst (ns.map W.int)] Fn.G0 = .ok (.bl true) G := fun ns hns => by
  have e0 := deck_ok (G := Fn.G0) hns
  have d0 := deck_at (G := Fn.G0) hns
  have n0 : (0 : Nat) < (Fn.G0.push (.lst [.lst (ns.map .int), .int 0, .int 0, .int 0])).n := Nat.lt_succ_self 0
  obtain ⟨d, G1, e1, a0, a1, r1⟩ := drawn 14 d0
  obtain ⟨z, G2, e2, z0, z1, r2⟩ := drawn 3 r1.deck
  have r12 := r1.trans r2
  have n2 : (0 : Nat) < G2.n := by rw [r12.1]; exact n0
  have sz : ∃ s : Nat, 1 ≤ s ∧ s ≤ 30 ∧ t_law_14 [some (.lst (ns.map .int)), some (.ref 0), some (.int (1 + d)), none, none, none, none, none, none, none, none, none, none] G1 = t_law_13 [some (.lst (ns.map .int)), some (.ref 0), some (.int (s : Int)), none, none, none, none, none, none, none, none, none, none] G2 := by
    unfold t_law_14
    by_cases hz : z = 0
    · subst hz
      refine ⟨(1 + d + 16).toNat, by omega, by omega, ?_⟩
      rw [show (((1 + d + 16).toNat : Nat) : Int) = 1 + d + 16 by omega]
      rw [seq_if_t (G1 := G2) (by rw [tst (op2 (call2 (vr (i := 1) (w := .ref 0) rfl) gC_ev e2) gC_ev (fEq_i _ _))]; rfl), asg_only (w := .int (1 + d + 16)) (G1 := G2) (op2 (u := .int (1 + d)) rfl gC_ev (fAdd_i false _ _)), seq_nx]
      rfl
    · refine ⟨(1 + d).toNat, by omega, by omega, ?_⟩
      rw [show (((1 + d).toNat : Nat) : Int) = 1 + d by omega]
      rw [seq_if_f (G1 := G2) (by rw [tst (op2 (call2 (vr (i := 1) (w := .ref 0) rfl) gC_ev e2) gC_ev (fEq_i _ _)), decide_eq_false hz]), gNext_ev, seq_nx]
  obtain ⟨s, s1, s30, es⟩ := sz
  have T0 : Told 0 G2.n G2 (G2.push (.lst [])) (([] : List Rw).map Rw.w) := ⟨Grow.dr (Grow.push G2 _) r12.deck n2, push_same, Nat.le_refl _, Nat.lt_succ_self _, n2⟩
  obtain ⟨rs, y4, y11, G3, e3, T3, hr, ln⟩ := rows_loop' (s := (s : Int)) (x0 := some (.lst (ns.map .int))) (x5 := none) (x6 := none) (x7 := none) (x8 := none) (x9 := none) (x10 := none) (x12 := none) (by omega) (by omega) (List.range s) [] none none _ T0 (by rw [List.length_range]; simp; omega) (fun r mr => by cases mr)
  rw [List.length_range, List.length_nil, Nat.zero_add] at ln
  obtain ⟨lr, G4, e4, r4, rk, ek⟩ := last_ok (s := (s : Int)) (x0 := some (.lst (ns.map .int))) (x3 := some (.ref G2.n)) (x4 := y4) (x5 := none) (x6 := none) (x7 := none) (x8 := none) (x9 := none) (x10 := none) (x11 := y11) (x12 := none) T3.dr.deck (by omega) (by omega)
  have T4 := T3.draw r4
  have T5 := T4.set ((rs.map Rw.w).set (s - 1) lr.w)
  have eb : (rs.map Rw.w).set (s - 1) lr.w = (rs.set (s - 1) lr).map Rw.w := by rw [List.map_set]
  rw [eb] at T5
  have bl : (rs.set (s - 1) lr).length = s := by rw [List.length_set, ln]
  have all : ∀ r ∈ rs.set (s - 1) lr, Rok (s : Int) r := fun r mr => by
    rcases List.mem_or_eq_of_mem_set mr with mr | rfl
    · exact hr r mr
    · exact rk
  have g : Good (rs.set (s - 1) lr) := ⟨by omega, by omega, fun r mr t e => by rw [bl]; exact (all r mr).1 t e, fun r h => by
    rw [bl, List.getElem?_set_self (by omega)] at h
    cases h
    exact ek⟩
  obtain ⟨G6, e6⟩ := tail_ok (x0 := some (.lst (ns.map .int))) (x1 := some (.ref 0)) (x2 := some (.int (s : Int))) (x4 := y4) (x5 := some lr.w) (x11 := y11) g (by omega) (fun r mr => (all r mr).2) T5.r T5.b
  refine ⟨G6, ?_⟩
  have s16 : b_law [some (.lst (ns.map .int)), none, none, none, none, none, none, none, none, none, none, none, none] Fn.G0 = t_law_15 [some (.lst (ns.map .int)), some (.ref 0), none, none, none, none, none, none, none, none, none, none, none] (Fn.G0.push (.lst [.lst (ns.map .int), .int 0, .int 0, .int 0])) := by
    unfold b_law t_law_16
    exact asg_nx (w := .ref 0) (call1 (vr rfl) e0)
  have s15 : t_law_15 [some (.lst (ns.map .int)), some (.ref 0), none, none, none, none, none, none, none, none, none, none, none] (Fn.G0.push (.lst [.lst (ns.map .int), .int 0, .int 0, .int 0])) = t_law_14 [some (.lst (ns.map .int)), some (.ref 0), some (.int (1 + d)), none, none, none, none, none, none, none, none, none, none] G1 := by
    unfold t_law_15
    exact asg_nx (w := .int (1 + d)) (add1_ev _ _ gC_ev (call2 (vr (i := 1) (w := .ref 0) rfl) gC_ev e1))
  have s13 : t_law_13 [some (.lst (ns.map .int)), some (.ref 0), some (.int (s : Int)), none, none, none, none, none, none, none, none, none, none] G2 = t_law_12 [some (.lst (ns.map .int)), some (.ref 0), some (.int (s : Int)), some (.ref G2.n), none, none, none, none, none, none, none, none, none] (G2.push (.lst [])) := by
    unfold t_law_13
    exact asg_nx (by rw [gLst_ev, gNil_ev, bind_ok, if_pos (lens _), mkL_true])
  have ag : gCons (gVar 2) gNil [some (.lst (ns.map .int)), some (.ref 0), some (.int (s : Int)), some (.ref G2.n), none, none, none, none, none, none, none, none, none] (G2.push (.lst [])) = .ok [.int (s : Int)] (G2.push (.lst [])) := rfl
  have s12 : t_law_12 [some (.lst (ns.map .int)), some (.ref 0), some (.int (s : Int)), some (.ref G2.n), none, none, none, none, none, none, none, none, none] (G2.push (.lst [])) = t_law_11 [some (.lst (ns.map .int)), some (.ref 0), some (.int (s : Int)), some (.ref G2.n), y4, none, none, none, none, none, none, y11, none] G3 := by
    unfold t_law_12
    rw [gSeq_ev, for_rng ag (rng_n (by omega)), e3, seq_nx]
  have s11 : t_law_11 [some (.lst (ns.map .int)), some (.ref 0), some (.int (s : Int)), some (.ref G2.n), y4, none, none, none, none, none, none, y11, none] G3 = t_law_10 [some (.lst (ns.map .int)), some (.ref 0), some (.int (s : Int)), some (.ref G2.n), y4, some lr.w, none, none, none, none, none, y11, none] G4 := by
    unfold t_law_11
    exact asg_nx e4
  have fs := fSet_ref (v := lr.w) T4.r (k := (s : Int) - 1) (j := s - 1) (by rw [List.length_map, ln, show (s : Int) - 1 = ((s - 1 : Nat) : Int) by omega]; exact ixn (by omega))
  rw [eb] at fs
  have s10 : t_law_10 [some (.lst (ns.map .int)), some (.ref 0), some (.int (s : Int)), some (.ref G2.n), y4, some lr.w, none, none, none, none, none, y11, none] G4 = t_law_9 [some (.lst (ns.map .int)), some (.ref 0), some (.int (s : Int)), some (.ref G2.n), y4, some lr.w, none, none, none, none, none, y11, none] (G4.set G2.n (.lst ((rs.set (s - 1) lr).map Rw.w))) := by
    unfold t_law_10
    rw [gSeq_ev, gSet_ev, vr (i := 5) (w := lr.w) rfl, thn_ok, vr (i := 3) (w := .ref G2.n) rfl, thn_ok, op2 (vr (i := 2) (w := .int (s : Int)) rfl) gC_ev (fSub_i _ _), thn_ok, fs]
    rfl
  have s9 : t_law_9 [some (.lst (ns.map .int)), some (.ref 0), some (.int (s : Int)), some (.ref G2.n), y4, some lr.w, none, none, none, none, none, y11, none] (G4.set G2.n (.lst ((rs.set (s - 1) lr).map Rw.w))) = t_law_8 [some (.lst (ns.map .int)), some (.ref 0), some (.int (s : Int)), some (.ref G2.n), y4, some lr.w, some (.tup ((rs.set (s - 1) lr).map Rw.w)), none, none, none, none, y11, none] (G4.set G2.n (.lst ((rs.set (s - 1) lr).map Rw.w))) := by
    unfold t_law_9
    exact asg_nx (by rw [gCall_ev, gCons_ev, vr (i := 3) (w := .ref G2.n) rfl, bind_ok, gNil_ev, bind_ok, bind_ok, cTuple_at T5.r])
  rw [e_law, s16, s15, es, s13, s12, s11, s10, s9, e6]
  rfl
end
end Lw

set_option Elab.async false
set_option linter.all false
set_option maxRecDepth 100000
namespace Lw
open PySem PySem.Spec PyProof.Rows L2 Fn
theorem fin {l : PySem.W.OpenLaw} {w : World} {K : PySem.W.Frag} {h : Heap} {mg : Str → Option Value} {fa : Addr} (X : K.In h) (G : h.Ns mainGlobals mg) (hfa : mg "law" = some (.ref fa)) (hT : ∃ T : Tx K w mg, T.a_law = fa) :
    ∃ fd : FuncData, (∀ (s : Shared) (v : Value), BindsTo s fd ⟨[v], []⟩ [("script", v)]) ∧ ∀ base : Heap, K.In base → base.Ns mainGlobals mg → FnOk l.prog w K mg base CX0 7 fa fd ["script"] (spLaw K) := by
  obtain ⟨T, rfl⟩ := hT
  exact ⟨T.d_law, law_binds T.F_law (fun _ _ _ _ _ _ _ => rfl), fun base _ _ => (ok_law (cls := fun _ => 0) T).imp (law_end law_true)⟩
end Lw
open PySem PySem.W PyProof.Rows
set_option maxHeartbeats 0 in
theorem PySem.Challenge.cw_swornlike_k42_steps_and_heads_holds : PySem.Challenge.rw_swornlike_k42_steps_and_heads.Holds := by
  w_on; o_law; k_head; (case hw => w_witness2)
  k_fill
  refine L2.walk_of (l := PySem.Challenge.rw_swornlike_k42_steps_and_heads) (n := 63) (k := 7) (x := "script") (CX := fun _ => L2.CX0) (sp := fun w => Fn.spLaw _) rfl (by decide) rfl ⟨rfl, by decide, by decide⟩ (fun w h Y => PySem.W.kIn_of Y) ?F (fun _ _ a ns hl _ hS => ⟨a, ns, rfl, hS, hl, fun _ => rfl⟩) (fun _ _ _ _ _ h => h)
  case F =>
    intro w mg fa h KX G hmg
    refine' Lw.fin KX G hmg (Lw.all_mk KX G hmg ?a0 ?l0 ?c0 ?k0 ?a1 ?l1 ?c1 ?k1 ?a2 ?l2 ?c2 ?k2 ?a3 ?l3 ?c3 ?k3 ?a4 ?l4 ?c4 ?k4 ?a5 ?l5 ?c5 ?k5 ?a6 ?l6 ?c6 ?k6 ?a7 ?l7 ?c7 ?k7 ?a8 ?l8 ?c8 ?k8 ?a9 ?l9 ?c9 ?k9 ?a10 ?l10 ?c10 ?k10 ?a11 ?l11 ?c11 ?k11 ?a12 ?l12 ?c12 ?k12 ?a13 ?l13 ?c13 ?k13 ?a14 ?l14 ?c14 ?k14 ?a15 ?l15 ?c15 ?k15 ?a16 ?l16 ?c16 ?k16 ?a17 ?l17 ?c17 ?k17 ?a18 ?l18 ?c18 ?k18 ?a19 ?l19 ?c19 ?k19 ?a20 ?l20 ?c20 ?k20 ?a21 ?l21 ?c21 ?k21 ?a22 ?l22 ?c22 ?k22 ?a23 ?l23 ?c23 ?k23 ?a24 ?l24 ?c24 ?k24 ?a25 ?l25 ?c25 ?k25 ?a26 ?l26 ?c26 ?k26 ?a27 ?l27 ?c27 ?k27 ?a28 ?l28 ?c28 ?k28 ?a29 ?l29 ?c29 ?k29 ?a30 ?l30 ?c30 ?k30 ?a31 ?l31 ?c31 ?k31 ?a32 ?l32 ?c32 ?k32 ?a33 ?l33 ?c33 ?k33 ?a34 ?l34 ?c34 ?k34 ?z0 ?z1 ?z2 ?z3 ?z4 ?z5 ?z6 ?z7 ?z8 ?z9 ?z10 ?z11 ?z12 ?z13 ?u0 ?u1 ?v1 ?y1 ?r1 ?u2 ?u3 ?u4 ?u5 ?u6 ?u7 ?v7 ?y7 ?r7 ?u8 ?v8 ?u9 ?u10 ?u11 ?u12 ?u13 ?u14 ?u15 ?u16 ?u17)
    (case a0 => k_is); (case a1 => k_is); (case a2 => k_is); (case a3 => k_is); (case a4 => k_is); (case a5 => k_is); (case a6 => k_is); (case a7 => k_is); (case a8 => k_is); (case a9 => k_is); (case a10 => k_is); (case a11 => k_is); (case a12 => k_is); (case a13 => k_is); (case a14 => k_is); (case a15 => k_is); (case a16 => k_is); (case a17 => k_is); (case a18 => k_is); (case a19 => k_is); (case a20 => k_is); (case a21 => k_is); (case a22 => k_is); (case a23 => k_is); (case a24 => k_is); (case a25 => k_is); (case a26 => k_is); (case a27 => k_is); (case a28 => k_is); (case a29 => k_is); (case a30 => k_is); (case a31 => k_is); (case a32 => k_is); (case a33 => k_is); (case a34 => k_is); (case l0 => k_is); (case l1 => k_is); (case l2 => k_is); (case l3 => k_is); (case l4 => k_is); (case l5 => k_is); (case l6 => k_is); (case l7 => k_is); (case l8 => k_is); (case l9 => k_is); (case l10 => k_is); (case l11 => k_is); (case l12 => k_is); (case l13 => k_is); (case l14 => k_is); (case l15 => k_is); (case l16 => k_is); (case l17 => k_is); (case l18 => k_is); (case l19 => k_is); (case l20 => k_is); (case l21 => k_is); (case l22 => k_is); (case l23 => k_is); (case l24 => k_is); (case l25 => k_is); (case l26 => k_is); (case l27 => k_is); (case l28 => k_is); (case l29 => k_is); (case l30 => k_is); (case l31 => k_is); (case l32 => k_is); (case l33 => k_is); (case l34 => k_is); (case c0 => k_is); (case c1 => k_is); (case c2 => k_is); (case c3 => k_is); (case c4 => k_is); (case c5 => k_is); (case c6 => k_is); (case c7 => k_is); (case c8 => k_is); (case c9 => k_is); (case c10 => k_is); (case c11 => k_is); (case c12 => k_is); (case c13 => k_is); (case c14 => k_is); (case c15 => k_is); (case c16 => k_is); (case c17 => k_is); (case c18 => k_is); (case c19 => k_is); (case c20 => k_is); (case c21 => k_is); (case c22 => k_is); (case c23 => k_is); (case c24 => k_is); (case c25 => k_is); (case c26 => k_is); (case c27 => k_is); (case c28 => k_is); (case c29 => k_is); (case c30 => k_is); (case c31 => k_is); (case c32 => k_is); (case c33 => k_is); (case c34 => k_is); (case k0 => k_is); (case k1 => k_is); (case k2 => k_is); (case k3 => k_is); (case k4 => k_is); (case k5 => k_is); (case k6 => k_is); (case k7 => k_is); (case k8 => k_is); (case k9 => k_is); (case k10 => k_is); (case k11 => k_is); (case k12 => k_is); (case k13 => k_is); (case k14 => k_is); (case k15 => k_is); (case k16 => k_is); (case k17 => k_is); (case k18 => k_is); (case k19 => k_is); (case k20 => k_is); (case k21 => k_is); (case k22 => k_is); (case k23 => k_is); (case k24 => k_is); (case k25 => k_is); (case k26 => k_is); (case k27 => k_is); (case k28 => k_is); (case k29 => k_is); (case k30 => k_is); (case k31 => k_is); (case k32 => k_is); (case k33 => k_is); (case k34 => k_is); (case z0 => k_is); (case z1 => k_is); (case z2 => k_is); (case z3 => k_is); (case z4 => k_is); (case z5 => k_is); (case z6 => k_is); (case z7 => k_is); (case z8 => k_is); (case z9 => k_is); (case z10 => k_is); (case z11 => k_is); (case z12 => k_is); (case z13 => k_is); (case u0 => k_is); (case u1 => k_is); (case v1 => k_is); (case y1 => rfl); (case r1 => rfl); (case u2 => k_is); (case u3 => k_is); (case u4 => k_is); (case u5 => k_is); (case u6 => k_is); (case u7 => k_is); (case v7 => k_is); (case y7 => rfl); (case r7 => rfl); (case u8 => k_is); (case v8 => k_is); (case u9 => k_is); (case u10 => k_is); (case u11 => k_is); (case u12 => k_is); (case u13 => k_is); (case u14 => k_is); (case u15 => k_is); (case u16 => k_is); (case u17 => k_is)
