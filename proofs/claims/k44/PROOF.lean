import PyProof.Rows.All
import Wide.All
import OpenK.AllK
import Wide.FinOn
import HandS.ForMost
import HandS.Wide
import HandS.Style
import HandS.TupAny
import HandS.Flow
import KE.DataEq
import KE.DataIsa
import HandS.RevRange
import HandS.Rev
import KE.DataAny
import KE.DataMinMax
import HandS.SortKw
import HandS.More
import PySem.Challenge.RW_swornlike_k44_tests_settled_by_what_is_k
set_option Elab.async false
set_option linter.all false
set_option maxRecDepth 100000
namespace Fn
open PySem PySem.Spec PyProof.Rows L2

/-- a value as data; refs are the numbers of owned objects -/
inductive W where
  | non | bl (b : Bool) | int (i : Int) | str (x : Str)
  | tup (ws : List W) | lst (ws : List W)
  | dic (ks : List Key) (ws : List W)
  | ins (c : Nat) (fs : List Str) (ws : List W)
  | ref (n : Nat)
  | op (v : V)

inductive AO where
  | lst (ws : List W)
  | dic (ks : List Key) (ws : List W)
  | ins (c : Nat) (fs : List Str) (ws : List W)

structure GH where
  n : Nat
  at_ : Nat → Option AO

def GH.set (G : GH) (i : Nat) (o : AO) : GH := ⟨G.n, fun j => if j = i then some o else G.at_ j⟩
def GH.del (G : GH) (i : Nat) : GH := ⟨G.n, fun j => if j = i then none else G.at_ j⟩
def GH.push (G : GH) (o : AO) : GH := ⟨G.n + 1, fun j => if j = G.n then some o else G.at_ j⟩

/-- an exception: its class, its fields -/
structure Xn where
  c : Nat
  fs : List Str
  ws : List W

inductive R (α : Type) where
  | ok (a : α) (G : GH)
  | ex (x : Xn) (G : GH)
  | no
def R.bind {α β : Type} (r : R α) (f : α → GH → R β) : R β := match r with
  | .ok a G => f a G
  | .ex x G => .ex x G
  | .no => .no

/-- what of the module the relation knows -/
structure Gm where
  K : PySem.W.Frag
  cls : Nat → Addr

mutual
inductive Rp (Γ : Gm) (O : Addr → Prop) (ι : List Addr) (H : Hp) : V → W → Prop
  | non : Rp Γ O ι H .non .non
  | bl (b : Bool) : Rp Γ O ι H (.bl b) (.bl b)
  | int (i : Int) : Rp Γ O ι H (.int i) (.int i)
  | str (x : Str) : Rp Γ O ι H (.str x) (.str x)
  | tup {a : Addr} {xs : List V} {ws : List W} : SqT Γ.K H a xs → RpAll Γ O ι H xs ws → Rp Γ O ι H (.ref a) (.tup ws)
  | lst {a : Addr} {xs : List V} {ws : List W} : Rd H a (.lst xs) → ¬ O a → RpAll Γ O ι H xs ws → Rp Γ O ι H (.ref a) (.lst ws)
  | lstK {a : Addr} {xs : List V} {ws : List W} {o : Obj} {its : Array Value} {n : Nat} : Γ.K.lookup a = some o → o.cls = .type "list" → o.dict = none → o.data = .seq its n → its.size ≤ sizeLine → Vals xs its.toList →
      RpAll Γ O ι H xs ws → Rp Γ O ι H (.ref a) (.lst ws)
  | dic {a : Addr} {ks : List Key} {xs : List V} {ws : List W} : Rd H a (.dK (ks.zip xs)) → ks.length = xs.length → ¬ O a → RpAll Γ O ι H xs ws → Rp Γ O ι H (.ref a) (.dic ks ws)
  | ins {a dx : Addr} {c : Nat} {fs : List Str} {xs : List V} {ws : List W} : H a = some (.ins (Γ.cls c) dx (fs.zip xs)) → fs.length = xs.length → ¬ O a → RpAll Γ O ι H xs ws → Rp Γ O ι H (.ref a) (.ins c fs ws)
  | ref {n : Nat} {a : Addr} : ι[n]? = some a → Rp Γ O ι H (.ref a) (.ref n)
  | op (v : V) : Rp Γ O ι H v (.op v)
inductive RpAll (Γ : Gm) (O : Addr → Prop) (ι : List Addr) (H : Hp) : List V → List W → Prop
  | nil : RpAll Γ O ι H [] []
  | cons {v : V} {w : W} {vs : List V} {ws : List W} : Rp Γ O ι H v w → RpAll Γ O ι H vs ws → RpAll Γ O ι H (v :: vs) (w :: ws)
end

def Own (ι : List Addr) (G : GH) (a : Addr) : Prop := ∃ n o, G.at_ n = some o ∧ ι[n]? = some a

inductive ROb (Γ : Gm) (O : Addr → Prop) (ι : List Addr) (H : Hp) : HO → AO → Prop
  | lst {xs : List V} {ws : List W} : RpAll Γ O ι H xs ws → ROb Γ O ι H (.lst xs) (.lst ws)
  | dic {ks : List Key} {xs : List V} {ws : List W} : ks.length = xs.length → RpAll Γ O ι H xs ws → ROb Γ O ι H (.dK (ks.zip xs)) (.dic ks ws)
  | ins {dx : Addr} {c : Nat} {fs : List Str} {xs : List V} {ws : List W} : fs.length = xs.length → RpAll Γ O ι H xs ws → ROb Γ O ι H (.ins (Γ.cls c) dx (fs.zip xs)) (.ins c fs ws)

/-- a configuration -/
structure Cf where
  ι : List Addr
  G : GH
  H : Hp
  B : Addr → Prop          -- lists that a comprehension fills: no value speaks of them
abbrev Cf.Ow (c : Cf) : Addr → Prop := Own c.ι c.G
def Cf.O (c : Cf) : Addr → Prop := fun a => c.Ow a ∨ c.B a
abbrev Cf.Rp (Γ : Gm) (c : Cf) : V → W → Prop := Fn.Rp Γ c.O c.ι c.H
abbrev Cf.RpAll (Γ : Gm) (c : Cf) : List V → List W → Prop := Fn.RpAll Γ c.O c.ι c.H

structure SR (Γ : Gm) (c : Cf) : Prop where
  len : c.ι.length = c.G.n
  nd : c.ι.Nodup
  all : ∀ a ∈ c.ι, c.H a ≠ none
  obj : ∀ n o, c.G.at_ n = some o → ∃ a ho, c.ι[n]? = some a ∧ c.H a = some ho ∧ ROb Γ c.O c.ι c.H ho o
  hid : ∀ a, c.B a → (∃ xs, c.H a = some (.lst xs)) ∧ a ∉ c.ι

structure Stp (c c' : Cf) : Prop where
  pre : ∀ (n : Nat) (a : Addr), c.ι[n]? = some a → c'.ι[n]? = some a
  keep : ∀ a o, c.H a = some o → ¬ c.Ow a → c'.H a = some o
  there : ∀ a, c.H a ≠ none → c'.H a ≠ none
  own : ∀ a, c'.Ow a → c.Ow a ∨ c.H a = none
  bl : c'.B = c.B

theorem Stp.refl (c : Cf) : Stp c c := ⟨fun _ _ h => h, fun _ _ h _ => h, fun _ h => h, fun _ h => .inl h, rfl⟩
theorem Stp.trans {a b c : Cf} (x : Stp a b) (y : Stp b c) : Stp a c where
  pre := fun n p h => y.pre n p (x.pre n p h)
  keep := fun p o h n => y.keep p o (x.keep p o h n) fun q => by
    rcases x.own p q with z | z
    · exact n z
    · rw [h] at z; cases z
  there := fun p h => y.there p (x.there p h)
  own := fun p h => by
    rcases y.own p h with z | z
    · exact x.own p z
    · cases q : a.H p with
      | none => exact .inr rfl
      | some o => exact absurd z (x.there p (by rw [q]; simp))
  bl := y.bl.trans x.bl

/-- what is owned is a list, a dict, an instance -/
theorem SR.notTup {Γ : Gm} {c : Cf} (s : SR Γ c) {a : Addr} {xs : List V} (h : c.H a = some (.tup xs)) : ¬ c.O a := fun q => by
  rcases q with ⟨n, o, e, f⟩ | q
  · obtain ⟨b, ho, e1, e2, r⟩ := s.obj n o e
    rw [f] at e1; cases e1
    rw [h] at e2; cases e2
    cases r
  · obtain ⟨⟨xs, e⟩, _⟩ := s.hid a q
    rw [h] at e; cases e
theorem SR.notFrz {Γ : Gm} {c : Cf} (s : SR Γ c) {a : Addr} {o : Obj} {u : HO} (h : c.H a = some (.frz o u)) : ¬ c.O a := fun q => by
  rcases q with ⟨n, o, e, f⟩ | q
  · obtain ⟨b, ho, e1, e2, r⟩ := s.obj n o e
    rw [f] at e1; cases e1
    rw [h] at e2; cases e2
    cases r
  · obtain ⟨⟨xs, e⟩, _⟩ := s.hid a q
    rw [h] at e; cases e
theorem Cf.ow {c : Cf} {a : Addr} (n : ¬ c.O a) : ¬ c.Ow a := fun q => n (.inl q)

/-- less than a step: what is hidden may change, and more may be hidden -/
structure StpW (c c' : Cf) : Prop where
  pre : ∀ (n : Nat) (a : Addr), c.ι[n]? = some a → c'.ι[n]? = some a
  keep : ∀ a o, c.H a = some o → ¬ c.O a → c'.H a = some o
  there : ∀ a, c.H a ≠ none → c'.H a ≠ none
  own : ∀ a, c'.O a → c.O a ∨ c.H a = none
theorem StpW.refl (c : Cf) : StpW c c := ⟨fun _ _ h => h, fun _ _ h _ => h, fun _ h => h, fun _ h => .inl h⟩
theorem StpW.trans {a b c : Cf} (x : StpW a b) (y : StpW b c) : StpW a c where
  pre := fun n p h => y.pre n p (x.pre n p h)
  keep := fun p o h n => y.keep p o (x.keep p o h n) fun q => by
    rcases x.own p q with z | z
    · exact n z
    · rw [h] at z; cases z
  there := fun p h => y.there p (x.there p h)
  own := fun p h => by
    rcases y.own p h with z | z
    · exact x.own p z
    · cases q : a.H p with
      | none => exact .inr rfl
      | some o => exact absurd z (x.there p (by rw [q]; simp))
theorem Stp.w {c c' : Cf} (x : Stp c c') : StpW c c' := ⟨x.pre, fun a o h n => x.keep a o h (Cf.ow n), x.there, fun a h => by
  rcases h with h | h
  · rcases x.own a h with z | z
    · exact .inl (.inl z)
    · exact .inr z
  · rw [x.bl] at h
    exact .inl (.inr h)⟩
theorem Rd.there {H : Hp} {a : Addr} {u : HO} (h : Rd H a u) : H a ≠ none := by
  rcases h with h | ⟨o, h⟩ <;> rw [h] <;> simp
theorem StpW.rd {c c' : Cf} (x : StpW c c') {a : Addr} {u : HO} (n : ¬ c.O a) (h : Rd c.H a u) : Rd c'.H a u := by
  rcases h with h | ⟨o, h⟩
  · exact .inl (x.keep _ _ h n)
  · exact .inr ⟨o, x.keep _ _ h n⟩
theorem StpW.sqT {Γ : Gm} {c c' : Cf} (s : SR Γ c) (x : StpW c c') {a : Addr} {xs : List V} (h : SqT Γ.K c.H a xs) : SqT Γ.K c'.H a xs := by
  rcases h with (h | ⟨o, h⟩) | h
  · exact .inl (.inl (x.keep _ _ h (s.notTup h)))
  · exact .inl (.inr ⟨o, x.keep _ _ h (s.notFrz h)⟩)
  · exact .inr h
theorem StpW.notO {c c' : Cf} (x : StpW c c') {a : Addr} (n : ¬ c.O a) (h : c.H a ≠ none) : ¬ c'.O a := fun q => by
  rcases x.own a q with z | z
  · exact n z
  · exact h z

mutual
theorem StpW.rp {Γ : Gm} {c c' : Cf} (s : SR Γ c) (x : StpW c c') : ∀ {v : V} {w : W}, c.Rp Γ v w → c'.Rp Γ v w
  | _, _, .non => .non
  | _, _, .bl b => .bl b
  | _, _, .int i => .int i
  | _, _, .str y => .str y
  | _, _, .tup h r => .tup (x.sqT s h) (StpW.rpAll s x r)
  | _, _, .lst h n r => .lst (x.rd n h) (x.notO n (Rd.there h)) (StpW.rpAll s x r)
  | _, _, .lstK a b e d z v r => .lstK a b e d z v (StpW.rpAll s x r)
  | _, _, .dic h l n r => .dic (x.rd n h) l (x.notO n (Rd.there h)) (StpW.rpAll s x r)
  | _, _, .ins h l n r => .ins (x.keep _ _ h n) l (x.notO n (by rw [h]; simp)) (StpW.rpAll s x r)
  | _, _, .ref h => .ref (x.pre _ _ h)
  | _, _, .op v => .op v
theorem StpW.rpAll {Γ : Gm} {c c' : Cf} (s : SR Γ c) (x : StpW c c') : ∀ {vs : List V} {ws : List W}, c.RpAll Γ vs ws → c'.RpAll Γ vs ws
  | _, _, .nil => .nil
  | _, _, .cons h t => .cons (StpW.rp s x h) (StpW.rpAll s x t)
end
theorem Stp.rp {Γ : Gm} {c c' : Cf} (s : SR Γ c) (x : Stp c c') {v : V} {w : W} (h : c.Rp Γ v w) : c'.Rp Γ v w := x.w.rp s h
theorem Stp.rpAll {Γ : Gm} {c c' : Cf} (s : SR Γ c) (x : Stp c c') {vs : List V} {ws : List W} (h : c.RpAll Γ vs ws) : c'.RpAll Γ vs ws := x.w.rpAll s h
theorem Stp.sqT {Γ : Gm} {c c' : Cf} (s : SR Γ c) (x : Stp c c') {a : Addr} {xs : List V} (h : SqT Γ.K c.H a xs) : SqT Γ.K c'.H a xs := x.w.sqT s h

theorem RpAll.length {Γ : Gm} {O : Addr → Prop} {ι : List Addr} {H : Hp} : ∀ {vs : List V} {ws : List W}, RpAll Γ O ι H vs ws → vs.length = ws.length
  | _, _, .nil => rfl
  | _, _, .cons _ t => by simp [RpAll.length t]
theorem RpAll.get {Γ : Gm} {O : Addr → Prop} {ι : List Addr} {H : Hp} : ∀ {vs : List V} {ws : List W} {i : Nat} {w : W}, RpAll Γ O ι H vs ws → ws[i]? = some w → ∃ v, vs[i]? = some v ∧ Rp Γ O ι H v w
  | _, _, _, _, .nil, e => by simp at e
  | _, _, 0, _, .cons h _, e => by simp at e; subst e; exact ⟨_, rfl, h⟩
  | _, _, i + 1, w, .cons _ t, e => by
    obtain ⟨v, h1, h2⟩ := RpAll.get (i := i) (w := w) t (by simpa using e)
    exact ⟨v, by simpa using h1, h2⟩
theorem RpAll.getV {Γ : Gm} {O : Addr → Prop} {ι : List Addr} {H : Hp} : ∀ {vs : List V} {ws : List W} {i : Nat} {v : V}, RpAll Γ O ι H vs ws → vs[i]? = some v → ∃ w, ws[i]? = some w ∧ Rp Γ O ι H v w
  | _, _, _, _, .nil, e => by simp at e
  | _, _, 0, _, .cons h _, e => by simp at e; subst e; exact ⟨_, rfl, h⟩
  | _, _, i + 1, w, .cons _ t, e => by
    obtain ⟨v, h1, h2⟩ := RpAll.getV (i := i) (v := w) t (by simpa using e)
    exact ⟨v, by simpa using h1, h2⟩
theorem RpAll.append {Γ : Gm} {O : Addr → Prop} {ι : List Addr} {H : Hp} : ∀ {vs vs' : List V} {ws ws' : List W}, RpAll Γ O ι H vs ws → RpAll Γ O ι H vs' ws' → RpAll Γ O ι H (vs ++ vs') (ws ++ ws')
  | _, _, _, _, .nil, s => s
  | _, _, _, _, .cons h t, s => .cons h (RpAll.append t s)
theorem RpAll.take {Γ : Gm} {O : Addr → Prop} {ι : List Addr} {H : Hp} : ∀ {vs : List V} {ws : List W} (n : Nat), RpAll Γ O ι H vs ws → RpAll Γ O ι H (vs.take n) (ws.take n)
  | _, _, 0, _ => by simpa using RpAll.nil
  | _, _, _ + 1, .nil => by simpa using RpAll.nil
  | _, _, n + 1, .cons h t => .cons h (RpAll.take n t)
theorem RpAll.drop {Γ : Gm} {O : Addr → Prop} {ι : List Addr} {H : Hp} : ∀ {vs : List V} {ws : List W} (n : Nat), RpAll Γ O ι H vs ws → RpAll Γ O ι H (vs.drop n) (ws.drop n)
  | _, _, 0, r => r
  | _, _, _ + 1, .nil => by simpa using RpAll.nil
  | _, _, n + 1, .cons _ t => RpAll.drop n t
theorem RpAll.set {Γ : Gm} {O : Addr → Prop} {ι : List Addr} {H : Hp} {v : V} {w : W} (h : Rp Γ O ι H v w) : ∀ {vs : List V} {ws : List W} (n : Nat), RpAll Γ O ι H vs ws → RpAll Γ O ι H (vs.set n v) (ws.set n w)
  | _, _, _, .nil => .nil
  | _, _, 0, .cons _ t => .cons h t
  | _, _, n + 1, .cons q t => .cons q (RpAll.set h n t)

/-! ### what is wanted behind -/
def RX (Γ : Gm) (c : Cf) (x : Xn) (cls : Value) (d : Option Addr) : Prop :=
  cls = .ref (Γ.cls x.c) ∧ ((d = none ∧ x.fs = [] ∧ x.ws = []) ∨ ∃ a xs, d = some a ∧ c.H a = some (.xd (x.fs.zip xs)) ∧ x.fs.length = xs.length ∧ c.RpAll Γ xs x.ws)

def Th {α β : Type} (Γ : Gm) (E : XK) (rel : Cf → β → α → Prop) (c : Cf) (Q : β → Hp → Prop) : R α → Prop
  | .ok a G => ∀ (c' : Cf) (v : β), Stp c c' → SR Γ c' → c'.G = G → rel c' v a → Q v c'.H
  | .ex x G => ∀ (c' : Cf) (cls : Value) (d : Option Addr), Stp c c' → SR Γ c' → c'.G = G → RX Γ c' x cls d → E cls d c'.H
  | .no => False

theorem Th.from {α β : Type} {Γ : Gm} {E : XK} {rel : Cf → β → α → Prop} {c c1 : Cf} {Q : β → Hp → Prop} {r : R α} (st : Stp c c1) (h : Th Γ E rel c Q r) : Th Γ E rel c1 Q r := by
  cases r with
  | ok a G => exact fun c' v s1 s2 e r => h c' v (st.trans s1) s2 e r
  | ex x G => exact fun c' cls d s1 s2 e r => h c' cls d (st.trans s1) s2 e r
  | no => exact h
theorem Th.bind {α β α' β' : Type} {Γ : Gm} {E : XK} {rel : Cf → β → α → Prop} {rel' : Cf → β' → α' → Prop} {c : Cf} {Q : β' → Hp → Prop} {r : R α} {f : α → GH → R α'} (h : Th Γ E rel' c Q (r.bind f)) :
    Th Γ E rel c (fun v H' => ∃ c' a, c'.H = H' ∧ Stp c c' ∧ SR Γ c' ∧ rel c' v a ∧ Th Γ E rel' c' Q (f a c'.G)) r := by
  cases r with
  | ok a G =>
    intro c' v s1 s2 e rl
    subst e
    exact ⟨c', a, rfl, s1, s2, rl, Th.from s1 h⟩
  | ex x G => exact h
  | no => exact h
theorem Th.mono {α β : Type} {Γ : Gm} {E : XK} {rel : Cf → β → α → Prop} {c : Cf} {Q Q' : β → Hp → Prop} {r : R α} (h : Th Γ E rel c Q r) (m : ∀ v c', Stp c c' → Q v c'.H → Q' v c'.H) : Th Γ E rel c Q' r := by
  cases r with
  | ok a G => exact fun c' v s1 s2 e rl => m v c' s1 (h c' v s1 s2 e rl)
  | ex x G => exact h
  | no => exact h
theorem Th.pure {α β : Type} {Γ : Gm} {E : XK} {rel : Cf → β → α → Prop} {c : Cf} {Q : β → Hp → Prop} {a : α} {v : β} (s : SR Γ c) (h : Th Γ E rel c Q (.ok a c.G)) (r : rel c v a) : Q v c.H := h c v (Stp.refl c) s rfl r

/-! ### environments -/
abbrev En := List (Option W)
def Cf.En (Γ : Gm) (c : Cf) (ρ : En) (σ : L2.St) : Prop := ρ.length = σ.length ∧ ∀ (i : Nat) (w : W), ρ[i]? = some (some w) → ∃ v, σ[i]? = some (some v) ∧ c.Rp Γ v w
theorem StpW.en {Γ : Gm} {c c' : Cf} (s : SR Γ c) (x : StpW c c') {ρ : Fn.En} {σ : L2.St} (h : c.En Γ ρ σ) : c'.En Γ ρ σ :=
  ⟨h.1, fun i w e => let ⟨v, e1, r⟩ := h.2 i w e; ⟨v, e1, x.rp s r⟩⟩
theorem Stp.en {Γ : Gm} {c c' : Cf} (s : SR Γ c) (x : Stp c c') {ρ : Fn.En} {σ : L2.St} (h : c.En Γ ρ σ) : c'.En Γ ρ σ := x.w.en s h
theorem Cf.En.set {Γ : Gm} {c : Cf} {ρ : Fn.En} {σ : L2.St} (h : c.En Γ ρ σ) {v : V} {w : W} (r : c.Rp Γ v w) (i : Nat) : c.En Γ (ρ.set i (some w)) (σ.set i (some v)) := by
  refine ⟨by rw [List.length_set, List.length_set]; exact h.1, fun j u e => ?_⟩
  by_cases hj : i = j
  · subst hj
    have hi : i < ρ.length := by
      have := (List.getElem?_eq_some_iff.mp e).1
      rwa [List.length_set] at this
    rw [List.getElem?_set_self hi] at e
    cases e
    exact ⟨v, List.getElem?_set_self (h.1 ▸ hi), r⟩
  · rw [List.getElem?_set_ne hj] at e
    rw [List.getElem?_set_ne hj]
    exact h.2 j u e

abbrev FE := En → GH → R W
abbrev FT := En → GH → R Bool
abbrev FA := En → GH → R (List W)

/-- the wish about exceptions, by the class, the dict, the slots and the heap -/
abbrev WXk := Value → Option Addr → L2.St → Hp → Prop

def absG {α β : Type} (Γ : Gm) (Z : WXk) (rel : Cf → β → α → Prop) (g : En → GH → R α) : L2.St → Hp → (β → Hp → Prop) → Prop := fun σ H Q =>
  ∃ (c : Cf) (ρ : En), c.H = H ∧ SR Γ c ∧ c.En Γ ρ σ ∧ Th Γ (fun cls d H' => Z cls d σ H') rel c Q (g ρ c.G)
abbrev absE (Γ : Gm) (Z : WXk) (g : FE) : TE := absG Γ Z (Cf.Rp Γ) g
abbrev absT (Γ : Gm) (Z : WXk) (g : FT) : TT := absG Γ Z (fun _ b b' => b = b') g
abbrev absA (Γ : Gm) (Z : WXk) (g : FA) : TA := absG Γ Z (Cf.RpAll Γ) g

theorem PE.imp {X : Cx} {e : Expr} {t t' : TE} (h : PE X e t) (m : ∀ σ H Q, t' σ H Q → t σ H Q) : PE X e t' := ⟨fun pins s σ H Q I q => h.run pins s σ H Q I (m σ H Q q)⟩
theorem PT.imp {X : Cx} {e : Expr} {t t' : TT} (h : PT X e t) (m : ∀ σ H Q, t' σ H Q → t σ H Q) : PT X e t' := ⟨fun pins s σ H Q I q => h.run pins s σ H Q I (m σ H Q q)⟩
theorem PA.imp {X : Cx} {e : List Expr} {t t' : TA} (h : PA X e t) (m : ∀ σ H Q, t' σ H Q → t σ H Q) : PA X e t' := ⟨fun pos pins s σ H Q I q => h.run pos pins s σ H Q I (m σ H Q q)⟩
theorem PS.imp {X : Cx} {e : Stmt} {t t' : TS} (h : PS X e t) (m : ∀ D σ H, t' D σ H → t D σ H) : PS X e t' := ⟨fun pins s σ H D I q => h.run pins s σ H D I (m D σ H q)⟩
theorem PSs.imp {X : Cx} {e : List Stmt} {t t' : TS} (h : PSs X e t) (m : ∀ D σ H, t' D σ H → t D σ H) : PSs X e t' := ⟨fun pins s σ H D I q => h.run pins s σ H D I (m D σ H q)⟩

/-- one after the other -/
theorem absG.bind {α β α' β' : Type} {Γ : Gm} {Z : WXk} {rel : Cf → β → α → Prop} {rel' : Cf → β' → α' → Prop} {g : En → GH → R α} {f : En → α → GH → R α'} {σ : L2.St} {H : Hp} {Q : β' → Hp → Prop}
    (h : absG Γ Z rel' (fun ρ G => (g ρ G).bind (f ρ)) σ H Q) :
    absG Γ Z rel g σ H (fun v H1 => ∃ (c : Cf) (ρ : En) (a : α), c.H = H1 ∧ SR Γ c ∧ c.En Γ ρ σ ∧ rel c v a ∧ Th Γ (fun cls d H' => Z cls d σ H') rel' c Q (f ρ a c.G)) := by
  obtain ⟨c, ρ, e, s, en, th⟩ := h
  exact ⟨c, ρ, e, s, en, Th.mono th.bind fun v c' st ⟨c1, a, e1, s1, s2, r, q⟩ => ⟨c1, ρ, a, e1, s2, s1.en s en, r, q⟩⟩
end Fn

set_option Elab.async false
set_option linter.all false
set_option maxRecDepth 100000
namespace Fn
open PySem PySem.Spec PyProof.Rows L2

theorem ROb.stpW {Γ : Gm} {c c' : Cf} (s : SR Γ c) (x : StpW c c') {ho : HO} {o : AO} (h : ROb Γ c.O c.ι c.H ho o) : ROb Γ c'.O c'.ι c'.H ho o := by
  cases h with
  | lst r => exact .lst (x.rpAll s r)
  | dic l r => exact .dic l (x.rpAll s r)
  | ins l r => exact .ins l (x.rpAll s r)
theorem ROb.stp {Γ : Gm} {c c' : Cf} (s : SR Γ c) (x : Stp c c') {ho : HO} {o : AO} (h : ROb Γ c.O c.ι c.H ho o) : ROb Γ c'.O c'.ι c'.H ho o := h.stpW s x.w
theorem SR.own_there {Γ : Gm} {c : Cf} (s : SR Γ c) {a : Addr} (h : c.O a) : c.H a ≠ none := by
  rcases h with ⟨n, o, e, f⟩ | h
  · exact s.all a (List.mem_of_getElem? f)
  · obtain ⟨⟨xs, e⟩, _⟩ := s.hid a h
    rw [e]; simp
theorem SR.uniq {Γ : Gm} {c : Cf} (s : SR Γ c) {m n : Nat} {a : Addr} (h1 : c.ι[m]? = some a) (h2 : c.ι[n]? = some a) : m = n := by
  obtain ⟨l1, e1⟩ := List.getElem?_eq_some_iff.mp h1
  obtain ⟨l2, e2⟩ := List.getElem?_eq_some_iff.mp h2
  exact (List.getElem_inj s.nd).mp (e1.trans e2.symm)
theorem SR.at_lt {Γ : Gm} {c : Cf} (s : SR Γ c) {n : Nat} {o : AO} (h : c.G.at_ n = some o) : n < c.G.n := by
  obtain ⟨a, _, e, _⟩ := s.obj n o h
  have := (List.getElem?_eq_some_iff.mp e).1
  rw [s.len] at this
  exact this

/-- an object that is not owned is laid -/
theorem new_frz {Γ : Gm} {c : Cf} (s : SR Γ c) {p : Addr} (hp : c.H p = none) (ho : HO) :
    Stp c ⟨c.ι, c.G, upd c.H p ho, c.B⟩ ∧ SR Γ ⟨c.ι, c.G, upd c.H p ho, c.B⟩ ∧ ¬ c.O p := by
  have st : Stp c ⟨c.ι, c.G, upd c.H p ho, c.B⟩ := ⟨fun _ _ h => h, fun a o h _ => by
      show upd c.H p ho a = some o
      rw [upd_ne (ne_of_none h hp)]; exact h, fun a h => by
      show upd c.H p ho a ≠ none
      by_cases e : a = p
      · subst e; rw [upd_same]; simp
      · rw [upd_ne e]; exact h, fun a h => .inl h, rfl⟩
  refine ⟨st, ⟨s.len, s.nd, fun a h => st.there a (s.all a h), fun n o h => ?_, fun a h => ?_⟩, fun h => s.own_there h hp⟩
  · obtain ⟨a, q, e1, e2, r⟩ := s.obj n o h
    exact ⟨a, q, e1, by show upd c.H p ho a = some q; rw [upd_ne (ne_of_none e2 hp)]; exact e2, r.stp s st⟩
  · obtain ⟨⟨xs, e⟩, na⟩ := s.hid a h
    exact ⟨⟨xs, by show upd c.H p ho a = _; rw [upd_ne (ne_of_none e hp)]; exact e⟩, na⟩

/-- an owned object is laid -/
theorem new_own {Γ : Gm} {c : Cf} (s : SR Γ c) {p : Addr} (hp : c.H p = none) {ho : HO} {o : AO} (r : ROb Γ c.O c.ι c.H ho o) :
    Stp c ⟨c.ι ++ [p], c.G.push o, upd c.H p ho, c.B⟩ ∧ SR Γ ⟨c.ι ++ [p], c.G.push o, upd c.H p ho, c.B⟩ := by
  have pre : ∀ (n : Nat) (a : Addr), c.ι[n]? = some a → (c.ι ++ [p])[n]? = some a := fun n a h => by
    rw [List.getElem?_append_left (List.getElem?_eq_some_iff.mp h).1]; exact h
  have st : Stp c ⟨c.ι ++ [p], c.G.push o, upd c.H p ho, c.B⟩ := ⟨pre, fun a o h _ => by
      show upd c.H p ho a = some o
      rw [upd_ne (ne_of_none h hp)]; exact h, fun a h => by
      show upd c.H p ho a ≠ none
      by_cases e : a = p
      · subst e; rw [upd_same]; simp
      · rw [upd_ne e]; exact h, fun a ⟨n, u, h1, h2⟩ => by
      have h1 : (if n = c.G.n then some o else c.G.at_ n) = some u := h1
      have h2 : (c.ι ++ [p])[n]? = some a := h2
      by_cases e : n = c.G.n
      · subst e
        rw [← s.len, List.getElem?_append_right (Nat.le_refl _), Nat.sub_self] at h2
        cases h2
        exact .inr hp
      · rw [if_neg e] at h1
        obtain ⟨b, _, e1, _, _⟩ := s.obj n u h1
        rw [pre n b e1] at h2
        cases h2
        exact .inl ⟨n, u, h1, e1⟩, rfl⟩
  refine ⟨st, ⟨?_, ?_, fun a h => ?_, fun n u h => ?_, fun a h => ?_⟩⟩
  · show (c.ι ++ [p]).length = c.G.n + 1
    rw [List.length_append, s.len]; rfl
  · show (c.ι ++ [p]).Nodup
    refine List.nodup_append.mpr ⟨s.nd, by simp, fun a ha b hb => ?_⟩
    have : b = p := by simpa using hb
    subst this
    intro e
    subst e
    exact s.all _ ha hp
  · show upd c.H p ho a ≠ none
    rcases List.mem_append.mp h with h | h
    · exact st.there a (s.all a h)
    · have : a = p := by simpa using h
      subst this; rw [upd_same]; simp
  · have h : (if n = c.G.n then some o else c.G.at_ n) = some u := h
    by_cases e : n = c.G.n
    · subst e
      rw [if_pos rfl] at h
      cases h
      refine ⟨p, ho, ?_, upd_same, r.stp s st⟩
      show (c.ι ++ [p])[c.G.n]? = some p
      rw [← s.len, List.getElem?_append_right (Nat.le_refl _), Nat.sub_self]
      rfl
    · rw [if_neg e] at h
      obtain ⟨a, q, e1, e2, r'⟩ := s.obj n u h
      exact ⟨a, q, pre n a e1, by show upd c.H p ho a = some q; rw [upd_ne (ne_of_none e2 hp)]; exact e2, r'.stp s st⟩
  · obtain ⟨⟨xs, e⟩, na⟩ := s.hid a h
    refine ⟨⟨xs, by show upd c.H p ho a = _; rw [upd_ne (ne_of_none e hp)]; exact e⟩, fun m => ?_⟩
    rcases List.mem_append.mp m with m | m
    · exact na m
    · have : a = p := by simpa using m
      subst this
      rw [hp] at e; cases e
theorem new_own_at {c : Cf} {Γ : Gm} (s : SR Γ c) (p : Addr) : (c.ι ++ [p])[c.G.n]? = some p := by
  rw [← s.len, List.getElem?_append_right (Nat.le_refl _), Nat.sub_self]
  rfl

/-- an owned object is written -/
theorem upd_own {Γ : Gm} {c : Cf} (s : SR Γ c) {n : Nat} {a : Addr} {o o' : AO} {ho : HO} (hn : c.G.at_ n = some o) (ha : c.ι[n]? = some a) (r : ROb Γ c.O c.ι c.H ho o') :
    Stp c ⟨c.ι, c.G.set n o', upd c.H a ho, c.B⟩ ∧ SR Γ ⟨c.ι, c.G.set n o', upd c.H a ho, c.B⟩ := by
  have oa : c.Ow a := ⟨n, o, hn, ha⟩
  have st : Stp c ⟨c.ι, c.G.set n o', upd c.H a ho, c.B⟩ := ⟨fun _ _ h => h, fun b u h nb => by
      show upd c.H a ho b = some u
      rw [upd_ne (show b ≠ a from fun e => nb (by rw [e]; exact oa))]; exact h, fun b h => by
      show upd c.H a ho b ≠ none
      by_cases e : b = a
      · subst e; rw [upd_same]; simp
      · rw [upd_ne e]; exact h, fun b ⟨m, u, h1, h2⟩ => by
      have h1 : (if m = n then some o' else c.G.at_ m) = some u := h1
      by_cases e : m = n
      · subst e; exact .inl ⟨m, o, hn, h2⟩
      · rw [if_neg e] at h1; exact .inl ⟨m, u, h1, h2⟩, rfl⟩
  refine ⟨st, ⟨s.len, s.nd, fun b h => st.there b (s.all b h), fun m u h => ?_, fun b h => ?_⟩⟩
  · have h : (if m = n then some o' else c.G.at_ m) = some u := h
    by_cases e : m = n
    · subst e
      rw [if_pos rfl] at h
      cases h
      exact ⟨a, ho, ha, upd_same, r.stp s st⟩
    · rw [if_neg e] at h
      obtain ⟨b, q, e1, e2, r'⟩ := s.obj m u h
      refine ⟨b, q, e1, ?_, r'.stp s st⟩
      show upd c.H a ho b = some q
      rw [upd_ne (show b ≠ a from fun z => e (s.uniq (by rw [← z]; exact e1) ha))]; exact e2
  · obtain ⟨⟨xs, e⟩, na⟩ := s.hid b h
    refine ⟨⟨xs, ?_⟩, na⟩
    show upd c.H a ho b = _
    rw [upd_ne (show b ≠ a from fun z => na (z ▸ List.mem_of_getElem? ha))]; exact e

/-- an owned object is owned no more -/
theorem del_own {Γ : Gm} {c : Cf} (s : SR Γ c) {n : Nat} {a : Addr} (ha : c.ι[n]? = some a) :
    Stp c ⟨c.ι, c.G.del n, c.H, c.B⟩ ∧ SR Γ ⟨c.ι, c.G.del n, c.H, c.B⟩ ∧ ¬ (⟨c.ι, c.G.del n, c.H, c.B⟩ : Cf).O a := by
  have sub : ∀ {m : Nat} {u : AO}, (c.G.del n).at_ m = some u → m ≠ n ∧ c.G.at_ m = some u := fun {m u} h => by
    have h : (if m = n then none else c.G.at_ m) = some u := h
    by_cases e : m = n
    · rw [if_pos e] at h; cases h
    · rw [if_neg e] at h; exact ⟨e, h⟩
  have st : Stp c ⟨c.ι, c.G.del n, c.H, c.B⟩ := ⟨fun _ _ h => h, fun _ _ h _ => h, fun _ h => h, fun b ⟨m, u, h1, h2⟩ => .inl ⟨m, u, (sub h1).2, h2⟩, rfl⟩
  refine ⟨st, ⟨s.len, s.nd, s.all, fun m u h => ?_, s.hid⟩, fun q => ?_⟩
  · obtain ⟨b, q, e1, e2, r⟩ := s.obj m u (sub h).2
    exact ⟨b, q, e1, e2, r.stp s st⟩
  · rcases q with ⟨m, u, h1, h2⟩ | q
    · exact (sub h1).1 (s.uniq h2 ha)
    · exact (s.hid a q).2 (List.mem_of_getElem? ha)

/-! ### lists, tuples by values -/
/-- the items of a list: as a value, or owned -/
def lsq (G : GH) : W → Option (List W)
  | .lst ws => some ws
  | .ref n => match G.at_ n with
    | some (.lst ws) => some ws
    | _ => none
  | _ => none
def tsq : W → Option (List W)
  | .tup ws => some ws
  | _ => none
def sqs (G : GH) (w : W) : Option (List W) := match tsq w with
  | some ws => some ws
  | none => lsq G w
theorem lsq_ok {Γ : Gm} {c : Cf} (s : SR Γ c) {v : V} {w : W} {ws : List W} (h : lsq c.G w = some ws) (r : c.Rp Γ v w) : ∃ a xs, v = .ref a ∧ SqL Γ.K c.H a xs ∧ c.RpAll Γ xs ws := by
  cases r with
  | lst h1 _ r =>
    cases h
    exact ⟨_, _, rfl, .inl h1, r⟩
  | lstK h1 h2 h3 h4 h5 h6 r =>
    cases h
    exact ⟨_, _, rfl, .inr ⟨_, _, _, h1, h2, h3, h4, h5, h6⟩, r⟩
  | @ref n a h1 =>
    unfold lsq at h
    cases e : c.G.at_ n with
    | none => simp [e] at h
    | some o =>
      obtain ⟨b, ho, e1, e2, r⟩ := s.obj n o e
      rw [h1] at e1; cases e1
      cases r with
      | lst r =>
        simp [e] at h
        subst h
        exact ⟨_, _, rfl, .inl (.inl e2), r⟩
      | dic _ _ => simp [e] at h
      | ins _ _ => simp [e] at h
  | _ => cases h
theorem tsq_ok {Γ : Gm} {c : Cf} {v : V} {w : W} {ws : List W} (h : tsq w = some ws) (r : c.Rp Γ v w) : ∃ a xs, v = .ref a ∧ SqT Γ.K c.H a xs ∧ c.RpAll Γ xs ws := by
  cases r with
  | tup h1 r =>
    cases h
    exact ⟨_, _, rfl, h1, r⟩
  | _ => cases h
theorem sqs_ok {Γ : Gm} {c : Cf} (s : SR Γ c) {v : V} {w : W} {ws : List W} (h : sqs c.G w = some ws) (r : c.Rp Γ v w) : ∃ a xs, v = .ref a ∧ (SqL Γ.K c.H a xs ∨ SqT Γ.K c.H a xs) ∧ c.RpAll Γ xs ws := by
  unfold sqs at h
  split at h
  · cases h
    obtain ⟨a, xs, e, q, r⟩ := tsq_ok (by assumption) r
    exact ⟨a, xs, e, .inr q, r⟩
  · obtain ⟨a, xs, e, q, r⟩ := lsq_ok s h r
    exact ⟨a, xs, e, .inl q, r⟩

/-- a new list, as a value or owned -/
def mkL (own : Bool) (ws : List W) (G : GH) : R W := if own then .ok (.ref G.n) (G.push (.lst ws)) else .ok (.lst ws) G
theorem mkL_ok {Γ : Gm} {E : XK} {c : Cf} {Q : V → Hp → Prop} {own : Bool} {xs : List V} {ws : List W} (s : SR Γ c) (r : c.RpAll Γ xs ws) (h : Th Γ E (Cf.Rp Γ) c Q (mkL own ws c.G)) {p : Addr} (hp : c.H p = none) : Q (.ref p) (upd c.H p (.lst xs)) := by
  cases own with
  | true =>
    obtain ⟨st, sr⟩ := new_own s hp (.lst r)
    exact h _ _ st sr rfl (.ref (new_own_at s p))
  | false =>
    obtain ⟨st, sr, no⟩ := new_frz s hp (.lst xs)
    exact h _ _ st sr rfl (.lst (.inl upd_same) (fun q => no (q.elim (fun z => .inl z) fun z => .inr z)) (st.rpAll s r))
theorem mkT_ok {Γ : Gm} {E : XK} {c : Cf} {Q : V → Hp → Prop} {xs : List V} {ws : List W} (s : SR Γ c) (r : c.RpAll Γ xs ws) (h : Th Γ E (Cf.Rp Γ) c Q (.ok (.tup ws) c.G)) {p : Addr} (hp : c.H p = none) : Q (.ref p) (upd c.H p (.tup xs)) := by
  obtain ⟨st, sr, no⟩ := new_frz s hp (.tup xs)
  exact h _ _ st sr rfl (.tup (.inl (.inl upd_same)) (st.rpAll s r))
end Fn

set_option Elab.async false
set_option linter.all false
set_option maxRecDepth 100000
namespace Fn
open PySem PySem.Spec PyProof.Rows L2
section
variable {X : Cx} {Γ : Gm} {Z : WXk}

/-! ### names, constants -/
def gVar (i : Nat) : FE := fun ρ G => match ρ[i]? with
  | some (some w) => .ok w G
  | _ => .no
theorem fe_var {i : Nat} {e : Expr} (h : PE X e (tVar i)) : PE X e (absE Γ Z (gVar i)) := PE.imp h fun σ H Q ⟨c, ρ, e, s, en, th⟩ => by
  subst e
  unfold gVar at th
  split at th
  · rename_i w e
    obtain ⟨v, e1, r⟩ := en.2 _ _ e
    exact ⟨v, e1, th.pure s r⟩
  · exact th.elim
def gC (w : W) : FE := fun _ G => .ok w G
theorem fe_c {v : V} {w : W} {e : Expr} (h : PE X e (tC v)) (r : ∀ c : Cf, c.Rp Γ v w) : PE X e (absE Γ Z (gC w)) := PE.imp h fun σ H Q ⟨c, ρ, e, s, en, th⟩ => by
  subst e
  exact Th.pure s th (r c)
theorem fe_int {i : Int} {j : Nat} {pos : Pos} : PE X (.Constant (.int i) j pos) (absE Γ Z (gC (.int i))) := fe_c pe_int fun _ => .int i
theorem fe_bl {b : Bool} {j : Nat} {pos : Pos} : PE X (.Constant (.bool b) j pos) (absE Γ Z (gC (.bl b))) := fe_c pe_bl fun _ => .bl b
theorem fe_non {j : Nat} {pos : Pos} : PE X (.Constant .none j pos) (absE Γ Z (gC .non)) := fe_c pe_non fun _ => .non
theorem fe_str {x : Str} {j : Nat} {pos : Pos} : PE X (.Constant (.str x) j pos) (absE Γ Z (gC (.str x))) := fe_c pe_str fun _ => .str x

/-! ### operators -/
abbrev F2 := W → W → GH → R W
def OpF (X : Cx) (Γ : Gm) (f : Value → Value → Sem Value) (g : F2) : Prop :=
  ∃ r, OpR X f r ∧ ∀ (c : Cf) (x y : V) (a b : W) (Q : VK) (E : XK), SR Γ c → c.Rp Γ x a → c.Rp Γ y b → Th Γ E (Cf.Rp Γ) c Q (g a b c.G) → r x y c.H Q
def gOp (f : F2) (ga gb : FE) : FE := fun ρ G => (ga ρ G).bind fun a G1 => (gb ρ G1).bind fun b G2 => f a b G2
theorem op_ok {r : R2} {f : F2} {ga gb : FE} {σ : L2.St} {H : Hp} {Q : VK} (hr : ∀ (c : Cf) (x y : V) (a b : W) (Q : VK) (E : XK), SR Γ c → c.Rp Γ x a → c.Rp Γ y b → Th Γ E (Cf.Rp Γ) c Q (f a b c.G) → r x y c.H Q)
    (h : absE Γ Z (gOp f ga gb) σ H Q) : tOp r (absE Γ Z ga) (absE Γ Z gb) σ H Q := by
  obtain ⟨c, ρ, e, s, en, th⟩ := absG.bind h
  refine ⟨c, ρ, e, s, en, Th.mono th fun v c1 st ⟨c2, ρ2, a, e2, s2, en2, ra, q⟩ => ?_⟩
  refine ⟨c2, ρ2, e2, s2, en2, Th.mono (Th.bind q) fun u c3 st3 ⟨c4, b, e4, st4, s4, rb, q4⟩ => ?_⟩
  rw [← e4]
  exact hr c4 v u a b Q _ s4 (st4.rp s2 ra) rb q4
theorem fe_op {op : Operator} {f : F2} {a b : Expr} {ga gb : FE} {pos : Pos} (ho : OpF X Γ (binaryOp op) f) (ha : PE X a (absE Γ Z ga)) (hb : PE X b (absE Γ Z gb)) : PE X (.BinOp a op b pos) (absE Γ Z (gOp f ga gb)) := by
  obtain ⟨r, hr, h⟩ := ho
  exact PE.imp (pe_op hr ha hb) fun σ H Q q => op_ok h q
theorem fe_cmp {op : CmpOp} {f : F2} {a b : Expr} {ga gb : FE} {pos : Pos} (ho : OpF X Γ (compareOp op) f) (ha : PE X a (absE Γ Z ga)) (hb : PE X b (absE Γ Z gb)) (hm : behindInMarks op b = false) : PE X (.Compare a [op] [b] pos) (absE Γ Z (gOp f ga gb)) := by
  obtain ⟨r, hr, h⟩ := ho
  exact PE.imp (pe_cmpR hr ha hb hm) fun σ H Q q => op_ok h q
/-- a value that is a bool, as a test -/
def asB (w : W) (G : GH) : R Bool := match w with
  | .bl b => .ok b G
  | _ => .no
def gTest (g : FE) : FT := fun ρ G => (g ρ G).bind asB
theorem test_ok {g : FE} {σ : L2.St} {H : Hp} {Q : Bool → Hp → Prop} (h : absT Γ Z (gTest g) σ H Q) : absE Γ Z g σ H (fun x H' => ∃ k, x = .bl k ∧ Q k H') := by
  obtain ⟨c, ρ, e, s, en, th⟩ := absG.bind h
  refine ⟨c, ρ, e, s, en, Th.mono th fun v c1 st ⟨c2, ρ2, a, e2, s2, en2, ra, q⟩ => ?_⟩
  cases ra with
  | bl b => exact ⟨b, rfl, e2 ▸ q.pure s2 rfl⟩
  | _ => exact q.elim
theorem absE.mono {g : FE} {σ : L2.St} {H : Hp} {Q Q' : VK} (h : absE Γ Z g σ H Q) (m : ∀ v H', Q v H' → Q' v H') : absE Γ Z g σ H Q' := by
  obtain ⟨c, ρ, e, s, en, th⟩ := h
  exact ⟨c, ρ, e, s, en, Th.mono th fun v c' _ q => m v _ q⟩
theorem absT.mono {g : FT} {σ : L2.St} {H : Hp} {Q Q' : Bool → Hp → Prop} (h : absT Γ Z g σ H Q) (m : ∀ v H', Q v H' → Q' v H') : absT Γ Z g σ H Q' := by
  obtain ⟨c, ρ, e, s, en, th⟩ := h
  exact ⟨c, ρ, e, s, en, Th.mono th fun v c' _ q => m v _ q⟩
theorem ft_cmp {op : CmpOp} {f : F2} {a b : Expr} {ga gb : FE} {pos : Pos} (ho : OpF X Γ (compareOp op) f) (ha : PE X a (absE Γ Z ga)) (hb : PE X b (absE Γ Z gb)) (hm : behindInMarks op b = false) : PT X (.Compare a [op] [b] pos) (absT Γ Z (gTest (gOp f ga gb))) := by
  obtain ⟨r, hr, h⟩ := ho
  exact PT.imp (pt_cmpR hr ha hb hm) fun σ H Q q => op_ok h (test_ok q)
/-- a call, .. whose value is a bool, as a test -/
theorem ft_val {e : Expr} {g : FE} (h : PE X e (absE Γ Z g)) (he : ∀ whole, isTrue e X.env whole = (do let v ← whole; standAt e.pos; holding [v] (truthy v)) := by intro _; rfl) : PT X e (absT Γ Z (gTest g)) :=
  PT.imp (pt_val h he) fun σ H Q q => test_ok q

/-! ### arithmetic -/
def fInt2 (g : Int → Int → Int) : F2 := fun a b G => match a, b with
  | .int i, .int j => .ok (.int (g i j)) G
  | _, _ => .no
def fCmpI (g : Int → Int → Bool) : F2 := fun a b G => match a, b with
  | .int i, .int j => .ok (.bl (g i j)) G
  | _, _ => .no
theorem rI0_int {g : Int → Int → Int} (c : Cf) (x y : V) (a b : W) (Q : VK) (E : XK) (s : SR Γ c) (ra : c.Rp Γ x a) (rb : c.Rp Γ y b) (h : Th Γ E (Cf.Rp Γ) c Q (fInt2 g a b c.G)) : rI0 (fun i j => .int (g i j)) x y c.H Q := by
  cases ra with
  | int i =>
    cases rb with
    | int j => exact ⟨i, j, rfl, rfl, h.pure s (.int _)⟩
    | _ => exact h.elim
  | _ => exact h.elim
theorem rI0_bl {g : Int → Int → Bool} (c : Cf) (x y : V) (a b : W) (Q : VK) (E : XK) (s : SR Γ c) (ra : c.Rp Γ x a) (rb : c.Rp Γ y b) (h : Th Γ E (Cf.Rp Γ) c Q (fCmpI g a b c.G)) : rI0 (fun i j => .bl (g i j)) x y c.H Q := by
  cases ra with
  | int i =>
    cases rb with
    | int j => exact ⟨i, j, rfl, rfl, h.pure s (.bl _)⟩
    | _ => exact h.elim
  | _ => exact h.elim
def fSub : F2 := fInt2 fun i j => i - j
theorem of_sub : OpF X Γ (binaryOp .Sub) fSub := ⟨_, op_sub, rI0_int⟩
def fLt : F2 := fCmpI fun i j => decide (i < j)
def fLe : F2 := fCmpI fun i j => decide (i ≤ j)
def fGt : F2 := fCmpI fun i j => decide (j < i)
def fGe : F2 := fCmpI fun i j => decide (j ≤ i)
theorem of_lt : OpF X Γ (compareOp .Lt) fLt := ⟨_, op_lt, rI0_bl⟩
theorem of_le : OpF X Γ (compareOp .LtE) fLe := ⟨_, op_le, rI0_bl⟩
theorem of_gt : OpF X Γ (compareOp .Gt) fGt := ⟨_, op_gt, rI0_bl⟩
theorem of_ge : OpF X Γ (compareOp .GtE) fGe := ⟨_, op_ge, rI0_bl⟩
def fMul : F2 := fun a b G => match a, b with
  | .int i, .int j => if (-(2 ^ 64) < i ∧ i < 2 ^ 64) ∨ (-(2 ^ 64) < j ∧ j < 2 ^ 64) ∨ i.natAbs.log2 + j.natAbs.log2 < 1000000 then .ok (.int (i * j)) G else .no
  | _, _ => .no
theorem of_mul : OpF X Γ (binaryOp .Mult) fMul := ⟨_, op_mul.or op_mulW, fun c x y a b Q E s ra rb h => by
  cases ra with
  | int i =>
    cases rb with
    | int j =>
      unfold fMul at h
      by_cases k : (-(2 ^ 64) < i ∧ i < 2 ^ 64) ∨ (-(2 ^ 64) < j ∧ j < 2 ^ 64) ∨ i.natAbs.log2 + j.natAbs.log2 < 1000000
      · simp only [if_pos k] at h
        rcases k with k | k | k
        · exact .inl ⟨i, j, rfl, rfl, .inl k, h.pure s (.int _)⟩
        · exact .inl ⟨i, j, rfl, rfl, .inr k, h.pure s (.int _)⟩
        · exact .inr ⟨i, j, rfl, rfl, k, h.pure s (.int _)⟩
      · simp only [if_neg k] at h
        exact h.elim
    | _ => exact h.elim
  | _ => exact h.elim⟩
def fDiv : F2 := fun a b G => match a, b with
  | .int i, .int j => if 0 < j ∧ j.natAbs.log2 < 9000 then .ok (.int (i / j)) G else .no
  | _, _ => .no
theorem of_div : OpF X Γ (binaryOp .FloorDiv) fDiv := ⟨_, op_fdivW, fun c x y a b Q E s ra rb h => by
  cases ra with
  | int i =>
    cases rb with
    | int j =>
      unfold fDiv at h
      by_cases k : 0 < j ∧ j.natAbs.log2 < 9000
      · simp only [if_pos k] at h
        exact ⟨i, j, rfl, rfl, k, h.pure s (.int _)⟩
      · simp only [if_neg k] at h
        exact h.elim
    | _ => exact h.elim
  | _ => exact h.elim⟩
def fMod : F2 := fun a b G => match a, b with
  | .int i, .int j => if 0 < j then .ok (.int (i % j)) G else .no
  | _, _ => .no
theorem of_mod : OpF X Γ (binaryOp .Mod) fMod := ⟨_, op_mod, fun c x y a b Q E s ra rb h => by
  cases ra with
  | int i =>
    cases rb with
    | int j =>
      unfold fMod at h
      by_cases k : 0 < j
      · simp only [if_pos k] at h
        exact ⟨i, j, rfl, rfl, k, h.pure s (.int _)⟩
      · simp only [if_neg k] at h
        exact h.elim
    | _ => exact h.elim
  | _ => exact h.elim⟩
def fPow : F2 := fun a b G => match a, b with
  | .int i, .int j => if 0 ≤ j ∧ j ≤ 1000000 ∧ i.natAbs < 2 ^ 64 then .ok (.int (i ^ j.toNat)) G else .no
  | _, _ => .no
theorem of_pow : OpF X Γ (binaryOp .Pow) fPow := ⟨_, op_pow, fun c x y a b Q E s ra rb h => by
  cases ra with
  | int i =>
    cases rb with
    | int j =>
      unfold fPow at h
      by_cases k : 0 ≤ j ∧ j ≤ 1000000 ∧ i.natAbs < 2 ^ 64
      · simp only [if_pos k] at h
        exact ⟨i, j, rfl, rfl, k, h.pure s (.int _)⟩
      · simp only [if_neg k] at h
        exact h.elim
    | _ => exact h.elim
  | _ => exact h.elim⟩
/-- a + b: ints, texts, tuples -/
def fAdd : F2 := fun a b G => match a, b with
  | .int i, .int j => .ok (.int (i + j)) G
  | .str i, .str j => if i.length + j.length ≤ sizeLine then .ok (.str (i ++ j)) G else .no
  | .tup i, .tup j => if i.length + j.length ≤ sizeLine then .ok (.tup (i ++ j)) G else .no
  | _, _ => .no
end
end Fn

set_option Elab.async false
set_option linter.all false
set_option maxRecDepth 100000
namespace Fn
open PySem PySem.Spec PyProof.Rows L2

/-! ### values as data: equality -/
mutual
def W.toD : W → PyData
  | .non => .none
  | .bl b => .bool b
  | .int i => .int i
  | .str x => .str x
  | .tup ws => .tuple (W.toDs ws)
  | .lst ws => .list (W.toDs ws)
  | .dic _ _ => .none
  | .ins _ _ _ => .none
  | .ref _ => .none
  | .op _ => .none
def W.toDs : List W → List PyData
  | [] => []
  | w :: ws => W.toD w :: W.toDs ws
end
mutual
/-- numbers, texts, truth values, None, tuples and lists -/
def W.pl : W → Bool
  | .non | .bl _ | .int _ | .str _ => true
  | .tup ws | .lst ws => W.pls ws
  | .dic _ _ | .ins _ _ _ | .ref _ | .op _ => false
def W.pls : List W → Bool
  | [] => true
  | w :: ws => W.pl w && W.pls ws
end
mutual
def W.dep : W → Nat
  | .tup ws | .lst ws => W.deps ws + 1
  | _ => 0
def W.deps : List W → Nat
  | [] => 0
  | w :: ws => max (W.dep w) (W.deps ws)
end
mutual
def eqW : W → W → Bool
  | .non, .non => true
  | .bl a, .bl b => a == b
  | .bl a, .int j => (if a then 1 else 0) == j
  | .int i, .bl b => i == (if b then 1 else 0)
  | .int i, .int j => i == j
  | .str x, .str y => x == y
  | .tup xs, .tup ys => eqWs xs ys
  | .lst xs, .lst ys => eqWs xs ys
  | _, _ => false
def eqWs : List W → List W → Bool
  | [], [] => true
  | x :: xs, y :: ys => eqW x y && eqWs xs ys
  | _, _ => false
end
mutual
theorem eqv_toD : ∀ (a b : W), a.pl = true → b.pl = true → PyData.eqv a.toD b.toD = eqW a b
  | .non, b, _, hb => by cases b <;> first | rfl | cases hb
  | .bl _, b, _, hb => by cases b <;> first | rfl | cases hb
  | .int _, b, _, hb => by cases b <;> first | rfl | cases hb
  | .str _, b, _, hb => by cases b <;> first | rfl | cases hb
  | .tup xs, b, ha, hb => by
    cases b with
    | tup ys => simp only [W.toD, PyData.eqv, eqW]; exact eqvs_toD xs ys (by simpa [W.pl] using ha) (by simpa [W.pl] using hb)
    | dic _ _ => cases hb
    | ins _ _ _ => cases hb
    | ref _ => cases hb
    | op _ => cases hb
    | _ => simp [W.toD, PyData.eqv, eqW]
  | .lst xs, b, ha, hb => by
    cases b with
    | lst ys => simp only [W.toD, PyData.eqv, eqW]; exact eqvs_toD xs ys (by simpa [W.pl] using ha) (by simpa [W.pl] using hb)
    | dic _ _ => cases hb
    | ins _ _ _ => cases hb
    | ref _ => cases hb
    | op _ => cases hb
    | _ => simp [W.toD, PyData.eqv, eqW]
  | .dic _ _, _, h, _ => by cases h
  | .ins _ _ _, _, h, _ => by cases h
  | .ref _, _, h, _ => by cases h
  | .op _, _, h, _ => by cases h
theorem eqvs_toD : ∀ (xs ys : List W), W.pls xs = true → W.pls ys = true → PyData.eqvAll (W.toDs xs) (W.toDs ys) = eqWs xs ys
  | [], [], _, _ => rfl
  | [], _ :: _, _, _ => rfl
  | _ :: _, [], _, _ => rfl
  | x :: xs, y :: ys, ha, hb => by
    simp only [W.pls, Bool.and_eq_true] at ha hb
    simp only [W.toDs, PyData.eqvAll, eqWs, eqv_toD x y ha.1 hb.1, eqvs_toD xs ys ha.2 hb.2]
end
mutual
theorem plain_toD : ∀ a : W, a.toD.plain = true
  | .non | .bl _ | .int _ | .str _ | .dic _ _ | .ins _ _ _ | .ref _ | .op _ => rfl
  | .tup xs => by simp only [W.toD, PyData.plain]; exact plains_toD xs
  | .lst xs => by simp only [W.toD, PyData.plain]; exact plains_toD xs
theorem plains_toD : ∀ xs : List W, PyData.plainAll (W.toDs xs) = true
  | [] => rfl
  | x :: xs => by simp only [W.toDs, PyData.plainAll, plain_toD x, plains_toD xs, Bool.and_self]
end
mutual
theorem depth_toD : ∀ a : W, a.toD.depth = a.dep
  | .non | .bl _ | .int _ | .str _ | .dic _ _ | .ins _ _ _ | .ref _ | .op _ => rfl
  | .tup xs => by simp only [W.toD, PyData.depth, W.dep, depths_toD xs]
  | .lst xs => by simp only [W.toD, PyData.depth, W.dep, depths_toD xs]
theorem depths_toD : ∀ xs : List W, PyData.depthAll (W.toDs xs) = W.deps xs
  | [] => rfl
  | x :: xs => by simp only [W.toDs, PyData.depthAll, W.deps, depth_toD x, depths_toD xs]
end
mutual
theorem Rp.dp {Γ : Gm} {c : Cf} : ∀ {v : V} {w : W}, c.Rp Γ v w → w.pl = true → Dp Γ.K c.H v w.toD
  | _, _, .non, _ => .non
  | _, _, .bl b, _ => .bl b
  | _, _, .int i, _ => .int i
  | _, _, .str x, _ => .str x
  | _, _, .tup h r, p => .tup h (RpAll.dp r (by simpa [W.pl] using p))
  | _, _, .lst h _ r, p => .lst (.inl h) (RpAll.dp r (by simpa [W.pl] using p))
  | _, _, .lstK a b e d z v r, p => .lst (.inr ⟨_, _, _, a, b, e, d, z, v⟩) (RpAll.dp r (by simpa [W.pl] using p))
  | _, _, .dic _ _ _ _, p => by cases p
  | _, _, .ins _ _ _ _, p => by cases p
  | _, _, .ref _, p => by cases p
  | _, _, .op _, p => by cases p
theorem RpAll.dp {Γ : Gm} {c : Cf} : ∀ {vs : List V} {ws : List W}, c.RpAll Γ vs ws → W.pls ws = true → DpAll Γ.K c.H vs (W.toDs ws)
  | _, _, .nil, _ => .nil
  | _, _, .cons h t, p => by
    simp only [W.pls, Bool.and_eq_true] at p
    exact .cons (Rp.dp h p.1) (RpAll.dp t p.2)
end
/-- an owned list by what it holds -/
def res (G : GH) : W → W
  | .ref n => match G.at_ n with
    | some (.lst ws) => .lst ws
    | _ => .ref n
  | w => w
theorem res_dp {Γ : Gm} {c : Cf} (s : SR Γ c) {v : V} {w : W} (r : c.Rp Γ v w) (p : (res c.G w).pl = true) : Dp Γ.K c.H v (res c.G w).toD := by
  cases r with
  | @ref n a h1 =>
    unfold res at p ⊢
    cases e : c.G.at_ n with
    | none => simp [e, W.pl] at p
    | some o =>
      obtain ⟨b, ho, e1, e2, r⟩ := s.obj n o e
      rw [h1] at e1; cases e1
      cases r with
      | lst r =>
        simp only [e, W.pl] at p ⊢
        exact .lst (.inl (.inl e2)) (RpAll.dp r p)
      | dic _ _ => simp [e, W.pl] at p
      | ins _ _ => simp [e, W.pl] at p
  | non => exact Rp.dp (c := c) .non p
  | bl b => exact Rp.dp (c := c) (.bl b) p
  | int i => exact Rp.dp (c := c) (.int i) p
  | str x => exact Rp.dp (c := c) (.str x) p
  | tup h r => exact Rp.dp (c := c) (.tup h r) p
  | lst h n r => exact Rp.dp (c := c) (.lst h n r) p
  | lstK a b e d z v r => exact Rp.dp (c := c) (.lstK a b e d z v r) p
  | dic h l n r => cases p
  | ins h l n r => cases p
  | op v => cases p

def eqOk (a b : W) : Bool := a.pl && b.pl && decide (min a.dep b.dep ≤ 60)
def fEq : F2 := fun a b G => if eqOk (res G a) (res G b) then .ok (.bl (eqW (res G a) (res G b))) G else .no
def fNe : F2 := fun a b G => if eqOk (res G a) (res G b) then .ok (.bl (!eqW (res G a) (res G b))) G else .no
section
variable {X : Cx} {Γ : Gm} {Z : WXk}
def rEqF (K : PySem.W.Frag) : R2 := fun x y H Q => ∃ d e, Dp K H x d ∧ Dp K H y e ∧ d.plain = true ∧ e.plain = true ∧ min d.depth e.depth ≤ 60 ∧ Q (.bl (PyData.eqv d e)) H
def rNeF (K : PySem.W.Frag) : R2 := fun x y H Q => ∃ d e, Dp K H x d ∧ Dp K H y e ∧ d.plain = true ∧ e.plain = true ∧ min d.depth e.depth ≤ 60 ∧ Q (.bl (!PyData.eqv d e)) H
theorem op_eqF (hu : X.A.units + 64 < cLine) : OpR X (compareOp .Eq) (rEqF X.K) := by
  intro pins s σ H x y v u Q I rx ry h
  obtain ⟨d, e, hd, he, pd, pe, dm, q⟩ := h
  obtain ⟨as, r1⟩ := Dp.reads I d x v hd rx
  obtain ⟨bs, r2⟩ := Dp.reads I e y u he ry
  exact SeqAt.eq_plain r1 r2 pd pe (by omega) ⟨.bl _, H, I, rfl, q⟩
theorem op_neF (hu : X.A.units + 64 < cLine) : OpR X (compareOp .NotEq) (rNeF X.K) := by
  intro pins s σ H x y v u Q I rx ry h
  obtain ⟨d, e, hd, he, pd, pe, dm, q⟩ := h
  obtain ⟨as, r1⟩ := Dp.reads I d x v hd rx
  obtain ⟨bs, r2⟩ := Dp.reads I e y u he ry
  exact SeqAt.ne_plain r1 r2 pd pe (by omega) ⟨.bl _, H, I, rfl, q⟩
theorem of_eq (hu : X.A.units + 64 < cLine) (hK : Γ.K = X.K := by rfl) : OpF X Γ (compareOp .Eq) fEq := ⟨_, op_eqF hu, fun c x y a b Q E s ra rb h => by
  unfold fEq at h
  by_cases k : eqOk (res c.G a) (res c.G b) = true
  · rw [if_pos k] at h
    unfold eqOk at k
    simp only [Bool.and_eq_true, decide_eq_true_eq] at k
    refine ⟨_, _, hK ▸ res_dp s ra k.1.1, hK ▸ res_dp s rb k.1.2, plain_toD _, plain_toD _, by rw [depth_toD, depth_toD]; exact k.2, ?_⟩
    rw [eqv_toD _ _ k.1.1 k.1.2]
    exact h.pure s (.bl _)
  · rw [if_neg k] at h
    exact h.elim⟩
theorem of_ne (hu : X.A.units + 64 < cLine) (hK : Γ.K = X.K := by rfl) : OpF X Γ (compareOp .NotEq) fNe := ⟨_, op_neF hu, fun c x y a b Q E s ra rb h => by
  unfold fNe at h
  by_cases k : eqOk (res c.G a) (res c.G b) = true
  · rw [if_pos k] at h
    unfold eqOk at k
    simp only [Bool.and_eq_true, decide_eq_true_eq] at k
    refine ⟨_, _, hK ▸ res_dp s ra k.1.1, hK ▸ res_dp s rb k.1.2, plain_toD _, plain_toD _, by rw [depth_toD, depth_toD]; exact k.2, ?_⟩
    rw [eqv_toD _ _ k.1.1 k.1.2]
    exact h.pure s (.bl _)
  · rw [if_neg k] at h
    exact h.elim⟩

/-! ### in, not in, of a list or a tuple -/
def rInF (K : PySem.W.Frag) (neg : Bool) : R2 := fun x y H Q => ∃ d xs e, Dp K H x d ∧ Dp K H y e ∧ (e = .list xs ∨ e = .tuple xs) ∧ d.plain = true ∧ PyData.plainAll xs = true ∧ min (PyData.depthAll xs) d.depth ≤ 60 ∧
  Q (.bl (if neg then !(xs.any fun z => PyData.eqv z d) else xs.any fun z => PyData.eqv z d)) H
theorem op_inF (hu : X.A.units + 64 < cLine) : OpR X (compareOp .In) (rInF X.K false) := by
  intro pins s σ H x y v u Q I rx ry h
  obtain ⟨d, xs, e, hd, he, hc, pd, pe, dm, q⟩ := h
  obtain ⟨as, r1⟩ := Dp.reads I d x v hd rx
  obtain ⟨bs, r2⟩ := Dp.reads I e y u he ry
  rcases hc with rfl | rfl
  · exact SeqAt.in_list_data r2 r1 pe pd (by omega) ⟨.bl _, H, I, rfl, q⟩
  · exact SeqAt.in_tuple_data r2 r1 pe pd (by omega) ⟨.bl _, H, I, rfl, q⟩
theorem op_notInF (hu : X.A.units + 64 < cLine) : OpR X (compareOp .NotIn) (rInF X.K true) := by
  intro pins s σ H x y v u Q I rx ry h
  obtain ⟨d, xs, e, hd, he, hc, pd, pe, dm, q⟩ := h
  obtain ⟨as, r1⟩ := Dp.reads I d x v hd rx
  obtain ⟨bs, r2⟩ := Dp.reads I e y u he ry
  rcases hc with rfl | rfl
  · exact SeqAt.notIn_list_data r2 r1 pe pd (by omega) ⟨.bl _, H, I, rfl, q⟩
  · exact SeqAt.notIn_tuple_data r2 r1 pe pd (by omega) ⟨.bl _, H, I, rfl, q⟩
def inWs (a : W) : List W → Bool
  | [] => false
  | x :: xs => eqW x a || inWs a xs
theorem any_toDs {a : W} (ha : a.pl = true) : ∀ xs : List W, W.pls xs = true → ((W.toDs xs).any fun z => PyData.eqv z a.toD) = inWs a xs
  | [], _ => rfl
  | x :: xs, h => by
    simp only [W.pls, Bool.and_eq_true] at h
    simp only [W.toDs, List.any_cons, inWs, eqv_toD x a h.1 ha, any_toDs ha xs h.2]
/-- the items of a list or tuple that is data -/
def itemsD : W → Option (List W)
  | .lst xs => some xs
  | .tup xs => some xs
  | _ => none
def fIn (neg : Bool) : F2 := fun a b G => match itemsD (res G b) with
  | some xs => if (res G a).pl && W.pls xs && decide (min (W.deps xs) (res G a).dep ≤ 60) then .ok (.bl (if neg then !inWs (res G a) xs else inWs (res G a) xs)) G else .no
  | none => .no
theorem in_ok {neg : Bool} (hK : Γ.K = X.K) (c : Cf) (x y : V) (a b : W) (Q : VK) (E : XK) (s : SR Γ c) (ra : c.Rp Γ x a) (rb : c.Rp Γ y b) (h : Th Γ E (Cf.Rp Γ) c Q (fIn neg a b c.G)) : rInF X.K neg x y c.H Q := by
  unfold fIn at h
  cases e : itemsD (res c.G b) with
  | none => rw [e] at h; exact h.elim
  | some xs =>
    rw [e] at h
    simp only at h
    by_cases k : ((res c.G a).pl && W.pls xs && decide (min (W.deps xs) (res c.G a).dep ≤ 60)) = true
    · rw [if_pos k] at h
      simp only [Bool.and_eq_true, decide_eq_true_eq] at k
      have eb : (res c.G b = .lst xs ∨ res c.G b = .tup xs) := by
        unfold itemsD at e
        split at e
        · rename_i q; cases e; exact .inl q
        · rename_i q; cases e; exact .inr q
        · cases e
      have pb : (res c.G b).pl = true := by rcases eb with q | q <;> rw [q] <;> simpa [W.pl] using k.1.2
      refine ⟨_, W.toDs xs, _, hK ▸ res_dp s ra k.1.1, hK ▸ res_dp s rb pb, ?_, plain_toD _, plains_toD _, by rw [depth_toD, depths_toD]; exact k.2, ?_⟩
      · rcases eb with q | q <;> rw [q]
        · exact .inl rfl
        · exact .inr rfl
      · rw [any_toDs k.1.1 xs k.1.2]
        exact h.pure s (.bl _)
    · rw [if_neg k] at h
      exact h.elim
theorem of_in (hu : X.A.units + 64 < cLine) (hK : Γ.K = X.K := by rfl) : OpF X Γ (compareOp .In) (fIn false) := ⟨_, op_inF hu, in_ok hK⟩
theorem of_notIn (hu : X.A.units + 64 < cLine) (hK : Γ.K = X.K := by rfl) : OpF X Γ (compareOp .NotIn) (fIn true) := ⟨_, op_notInF hu, in_ok hK⟩

/-! ### is None, is True -/
/-- a value that is None, or surely not -/
def isNon : W → Option Bool
  | .non => some true
  | .op _ => none
  | _ => some false
def fIsN (neg : Bool) : F2 := fun a b G => match b, isNon a with
  | .non, some k => .ok (.bl (if neg then !k else k)) G
  | _, _ => .no
theorem isNon_ok {c : Cf} {x : V} {a : W} {k : Bool} (ra : c.Rp Γ x a) (h : isNon a = some k) : decide (x = V.non) = k := by
  cases ra <;> first | (cases h; rfl) | (cases h)
theorem of_is : OpF X Γ (compareOp .Is) (fIsN false) := ⟨_, op_isN, fun c x y a b Q E s ra rb h => by
  unfold fIsN at h
  cases rb with
  | non =>
    cases e : isNon a with
    | none => simp only [e] at h; exact h.elim
    | some k =>
      simp only [e] at h
      rw [isNon_ok ra e]
      exact ⟨rfl, h.pure s (.bl _)⟩
  | _ => exact h.elim⟩
theorem of_isnot : OpF X Γ (compareOp .IsNot) (fIsN true) := ⟨_, op_notN, fun c x y a b Q E s ra rb h => by
  unfold fIsN at h
  cases rb with
  | non =>
    cases e : isNon a with
    | none => simp only [e] at h; exact h.elim
    | some k =>
      simp only [e] at h
      rw [isNon_ok ra e]
      exact ⟨rfl, h.pure s (.bl _)⟩
  | _ => exact h.elim⟩
end
end Fn

set_option Elab.async false
set_option linter.all false
set_option maxRecDepth 100000
namespace Fn
open PySem PySem.Spec PyProof.Rows L2
section
variable {X : Cx} {Γ : Gm} {Z : WXk}

/-! ### x is True, x is not False -/
def plB : W → Option (Option Bool)
  | .bl b => some (some b)
  | .op _ => none
  | _ => some none
def fIsB (neg : Bool) : F2 := fun a b G => match plB a, b with
  | some o, .bl k => .ok (.bl (if neg then !decide (o = some k) else decide (o = some k))) G
  | _, _ => .no
def rIsF (neg : Bool) : R2 := fun x y H Q => ∃ k o, y = .bl k ∧ ((∃ b, x = .bl b ∧ o = some b) ∨ ((∀ b, x ≠ .bl b) ∧ o = none)) ∧ Q (.bl (if neg then !decide (o = some k) else decide (o = some k))) H
theorem isB_plain {x : V} {k : Bool} {v : Value} (rx : RelV x v) (h : ∀ b, x ≠ .bl b) : plainIs v (.bool k) = true ∧ v ≠ .bool k := by
  cases x with
  | bl b => exact absurd rfl (h b)
  | non => cases rx; exact ⟨rfl, fun e => nomatch e⟩
  | int i => obtain ⟨t, rfl⟩ := rx; exact ⟨rfl, fun e => nomatch e⟩
  | str i => obtain ⟨t, rfl⟩ := rx; exact ⟨rfl, fun e => nomatch e⟩
  | byt i => obtain ⟨t, rfl⟩ := rx; exact ⟨rfl, fun e => nomatch e⟩
  | flt i => obtain ⟨t, rfl⟩ := rx; exact ⟨rfl, fun e => nomatch e⟩
  | ref a => cases rx; exact ⟨rfl, fun e => nomatch e⟩
  | ty n => cases rx; exact ⟨rfl, fun e => nomatch e⟩
theorem op_isF : OpR X (compareOp .Is) (rIsF false) := by
  intro pins s σ H x y v u Q I rx ry h
  obtain ⟨k, o, rfl, hx, q⟩ := h
  cases (show u = Value.bool k from ry)
  rcases hx with ⟨b, rfl, rfl⟩ | ⟨hx, rfl⟩
  · exact op_isBl pins s σ H _ (.bl k) v _ Q I rx rfl ⟨b, k, rfl, rfl, by simpa using q⟩
  · obtain ⟨p, n⟩ := isB_plain (k := k) rx hx
    exact wpAny_is_other p n ⟨.bl false, H, I, rfl, by simpa using q⟩
theorem op_isnotF : OpR X (compareOp .IsNot) (rIsF true) := by
  intro pins s σ H x y v u Q I rx ry h
  obtain ⟨k, o, rfl, hx, q⟩ := h
  cases (show u = Value.bool k from ry)
  rcases hx with ⟨b, rfl, rfl⟩ | ⟨hx, rfl⟩
  · exact op_notBl pins s σ H _ (.bl k) v _ Q I rx rfl ⟨b, k, rfl, rfl, by simpa using q⟩
  · obtain ⟨p, n⟩ := isB_plain (k := k) rx hx
    exact wpAny_isNot_other p n ⟨.bl true, H, I, rfl, by simpa using q⟩
theorem plB_ok {c : Cf} {x : V} {a : W} {o : Option Bool} (ra : c.Rp Γ x a) (h : plB a = some o) : (∃ b, x = .bl b ∧ o = some b) ∨ ((∀ b, x ≠ .bl b) ∧ o = none) := by
  cases ra with
  | bl b => cases h; exact .inl ⟨_, rfl, rfl⟩
  | op v => cases h
  | _ => cases h; exact .inr ⟨fun _ e => (by cases e), rfl⟩
theorem isB_ok {neg : Bool} (c : Cf) (x y : V) (a b : W) (Q : VK) (E : XK) (s : SR Γ c) (ra : c.Rp Γ x a) (rb : c.Rp Γ y b) (h : Th Γ E (Cf.Rp Γ) c Q (fIsB neg a b c.G)) : rIsF neg x y c.H Q := by
  unfold fIsB at h
  cases e : plB a with
  | none => simp only [e] at h; exact h.elim
  | some o =>
    simp only [e] at h
    cases rb with
    | bl k => exact ⟨k, o, rfl, plB_ok ra e, h.pure s (.bl _)⟩
    | _ => exact h.elim
theorem of_isB : OpF X Γ (compareOp .Is) (fIsB false) := ⟨_, op_isF, isB_ok⟩
theorem of_isnotB : OpF X Γ (compareOp .IsNot) (fIsB true) := ⟨_, op_isnotF, isB_ok⟩

/-! ### a + b -/
def rCatL (K : PySem.W.Frag) : R2 := fun x y H Q => ∃ l b xs zs, x = .ref l ∧ y = .ref b ∧ SqL K H l xs ∧ SqL K H b zs ∧ xs.length + zs.length ≤ sizeLine ∧ ∀ p, H p = none → Q (.ref p) (upd H p (.lst (xs ++ zs)))
theorem op_catL : OpR X (binaryOp .Add) (rCatL X.K) := by
  intro pins s σ H x y v u Q I rx ry h
  obtain ⟨l, b, xs, zs, rfl, rfl, hH, hB, hz, q⟩ := h
  cases rx
  cases ry
  obtain ⟨its, r, pl, _⟩ := I.list hH
  obtain ⟨its2, r2, pl2, _⟩ := I.list hB
  obtain ⟨⟨cls, dd, data, sl⟩, n, ho, hc, _, hd⟩ := pl
  obtain ⟨⟨cls2, dd2, data2, sl2⟩, n2, ho2, hc2, _, hd2⟩ := pl2
  simp only at hc hd hc2 hd2
  subst hc hd hc2 hd2
  have l1 := r.length
  have l2 := r2.length
  have ea : its.toArray ++ its2.toArray = (its ++ its2).toArray := by simp
  refine concat_meets ⟨_, ho, rfl⟩ ⟨_, ho2, rfl⟩ noFill_list_add seq_list_add PySem.F.slot_list_add PySem.F.entry_list_add (PySem.F.args_list_add_2 _ _) (list_addW l b its.toArray its2.toArray n n2 dd dd2 sl sl2 (by simp; omega)) ⟨ho, ho2, ?_⟩
  rw [ea]
  exact ⟨.ref _, _, I.lnew (t' := s.toks) (r.append r2) (by rw [List.length_append]; omega), rfl, q _ I.fresh⟩
def fAddL (own : Bool) : F2 := fun a b G => match a, b with
  | .int i, .int j => .ok (.int (i + j)) G
  | .str i, .str j => if i.length + j.length ≤ sizeLine then .ok (.str (i ++ j)) G else .no
  | .tup i, .tup j => if i.length + j.length ≤ sizeLine then .ok (.tup (i ++ j)) G else .no
  | a, b => match lsq G a, lsq G b with
    | some i, some j => if i.length + j.length ≤ sizeLine then mkL own (i ++ j) G else .no
    | _, _ => .no
def rAddF (K : PySem.W.Frag) : R2 := fun x y H Q => rI0 (fun i j => .int (i + j)) x y H Q ∨ (∃ i j, x = .str i ∧ y = .str j ∧ i.length + j.length ≤ sizeLine ∧ Q (.str (i ++ j)) H) ∨ rCatA K x y H Q ∨ rCatL K x y H Q
theorem op_addF : OpR X (binaryOp .Add) (rAddF X.K) := op_add.or (op_add_str.or (op_catA.or op_catL))
theorem addL_ok {own : Bool} {c : Cf} {x y : V} {a b : W} {i j : List W} {Q : VK} {E : XK} (s : SR Γ c) (ra : c.Rp Γ x a) (rb : c.Rp Γ y b) (e1 : lsq c.G a = some i) (e2 : lsq c.G b = some j)
    (h : Th Γ E (Cf.Rp Γ) c Q (if i.length + j.length ≤ sizeLine then mkL own (i ++ j) c.G else .no)) : rCatL Γ.K x y c.H Q := by
  by_cases k : i.length + j.length ≤ sizeLine
  · rw [if_pos k] at h
    obtain ⟨p, xs, rfl, h1, r1⟩ := lsq_ok s e1 ra
    obtain ⟨q, ys, rfl, h2, r2⟩ := lsq_ok s e2 rb
    exact ⟨p, q, xs, ys, rfl, rfl, h1, h2, by rw [r1.length, r2.length]; exact k, fun d hd => mkL_ok s (r1.append r2) h hd⟩
  · rw [if_neg k] at h
    exact h.elim
theorem addT_ok {c : Cf} {x y : V} {i j : List W} {Q : VK} {E : XK} (s : SR Γ c) (ra : c.Rp Γ x (.tup i)) (rb : c.Rp Γ y (.tup j)) (h : Th Γ E (Cf.Rp Γ) c Q (if i.length + j.length ≤ sizeLine then .ok (.tup (i ++ j)) c.G else .no)) : rCatA Γ.K x y c.H Q := by
  by_cases k : i.length + j.length ≤ sizeLine
  · rw [if_pos k] at h
    obtain ⟨p, xs, rfl, h1, r1⟩ := tsq_ok (Γ := Γ) (c := c) rfl ra
    obtain ⟨q, ys, rfl, h2, r2⟩ := tsq_ok (Γ := Γ) (c := c) rfl rb
    refine ⟨p, q, xs, ys, rfl, rfl, h1, h2, by rw [r1.length, r2.length]; exact k, fun e => ?_, fun _ e => ?_, fun _ _ d hd => mkT_ok s (r1.append r2) h hd⟩
    · subst e
      cases r1
      exact h.pure s rb
    · subst e
      cases r2
      rw [List.append_nil] at h
      exact h.pure s ra
  · rw [if_neg k] at h
    exact h.elim
theorem of_add {own : Bool} (hK : Γ.K = X.K := by rfl) : OpF X Γ (binaryOp .Add) (fAddL own) := ⟨_, op_addF, fun c x y a b Q E s ra rb h => by
  unfold fAddL at h
  split at h
  · exact .inl (rI0_int (g := fun i j => i + j) c x y _ _ Q E s ra rb h)
  · rename_i i j
    cases ra
    cases rb
    refine .inr (.inl ⟨i, j, rfl, rfl, ?_⟩)
    by_cases k : i.length + j.length ≤ sizeLine
    · rw [if_pos k] at h
      exact ⟨k, h.pure s (.str _)⟩
    · rw [if_neg k] at h
      exact h.elim
  · exact .inr (.inr (.inl (hK ▸ addT_ok s ra rb h)))
  · split at h
    · exact .inr (.inr (.inr (hK ▸ addL_ok s ra rb (by assumption) (by assumption) h)))
    · exact h.elim⟩

/-! ### truth -/
def truW (G : GH) (w : W) : Option Bool := match w with
  | .non => some false
  | .bl b => some b
  | .int i => some (i != 0)
  | .str y => if y.length ≤ sizeLine then some ((y.length : Int) != 0) else none
  | .tup ws => some (!ws.isEmpty)
  | .lst ws => some (!ws.isEmpty)
  | .ref n => match G.at_ n with
    | some (.lst ws) => some (!ws.isEmpty)
    | some (.dic ks _) => some (!ks.isEmpty)
    | _ => none
  | _ => none
theorem RpAll.empty {O : Addr → Prop} {ι : List Addr} {H : Hp} {vs : List V} {ws : List W} (r : RpAll Γ O ι H vs ws) : vs.isEmpty = ws.isEmpty := by
  cases r <;> rfl
theorem tru_okF {c : Cf} {x : V} {w : W} {k : Bool} (s : SR Γ c) (r : c.Rp Γ x w) (h : truW c.G w = some k) : TruV Γ.K x c.H k := by
  unfold truW at h
  cases r with
  | non => cases h; rfl
  | bl b => cases h; rfl
  | int i => cases h; rfl
  | str y =>
    simp only at h
    by_cases q : y.length ≤ sizeLine
    · rw [if_pos q] at h; cases h; exact ⟨q, rfl⟩
    · rw [if_neg q] at h; cases h
  | tup h1 r => cases h; exact .inr (.inl ⟨_, h1, by rw [r.empty]⟩)
  | lst h1 _ r => cases h; exact .inl ⟨_, .inl h1, by rw [r.empty]⟩
  | lstK h1 h2 h3 h4 h5 h6 r => cases h; exact .inl ⟨_, .inr ⟨_, _, _, h1, h2, h3, h4, h5, h6⟩, by rw [r.empty]⟩
  | @ref n a h1 =>
    simp only at h
    cases e : c.G.at_ n with
    | none => simp [e] at h
    | some o =>
      obtain ⟨b, ho, e1, e2, r⟩ := s.obj n o e
      rw [h1] at e1; cases e1
      cases r with
      | lst r => simp only [e, Option.some.injEq] at h; subst h; exact .inl ⟨_, .inl (.inl e2), by rw [r.empty]⟩
      | @dic ks xs ws l r =>
        simp only [e, Option.some.injEq] at h; subst h
        refine .inr (.inr ⟨_, e2, ?_⟩)
        cases ks with
        | nil => rfl
        | cons k ks =>
          cases xs with
          | nil => simp at l
          | cons x xs => rfl
      | ins _ _ => simp [e] at h
  | dic _ _ _ _ => simp at h
  | ins _ _ _ _ => simp at h
  | op _ => simp at h
def asTru (w : W) (G : GH) : R Bool := match truW G w with
  | some b => .ok b G
  | none => .no
def gTru (g : FE) : FT := fun ρ G => (g ρ G).bind asTru
theorem gTru_ok {g : FE} {σ : L2.St} {H : Hp} {Q : Bool → Hp → Prop} (h : absT Γ Z (gTru g) σ H Q) : absE Γ Z g σ H (fun x H' => ∃ k, TruV Γ.K x H' k ∧ Q k H') := by
  obtain ⟨c, ρ, e, s, en, th⟩ := absG.bind h
  refine ⟨c, ρ, e, s, en, Th.mono th fun v c1 st ⟨c2, ρ2, a, e2, s2, en2, ra, q⟩ => ?_⟩
  unfold asTru at q
  cases k : truW c2.G a with
  | none => rw [k] at q; exact q.elim
  | some b =>
    rw [k] at q
    rw [← e2]
    exact ⟨b, tru_okF s2 ra k, q.pure s2 rfl⟩
theorem ft_tru {e : Expr} {g : FE} (h : PE X e (absE Γ Z g)) (hK : Γ.K = X.K := by rfl) (he : ∀ whole, isTrue e X.env whole = (do let v ← whole; standAt e.pos; holding [v] (truthy v)) := by intro _; rfl) : PT X e (absT Γ Z (gTru g)) :=
  PT.imp (pt_truth h he) fun σ H Q q => hK ▸ gTru_ok q

/-! ### and, or, not, if -/
def gNotT (g : FT) : FT := fun ρ G => (g ρ G).bind fun b G => .ok (!b) G
theorem ft_not {a : Expr} {g : FT} {pos : Pos} (h : PT X a (absT Γ Z g)) : PT X (.UnaryOp .Not a pos) (absT Γ Z (gNotT g)) := PT.imp (pt_not h) fun σ H Q q => by
  obtain ⟨c, ρ, e, s, en, th⟩ := absG.bind q
  exact ⟨c, ρ, e, s, en, Th.mono th fun v c1 st ⟨c2, ρ2, a, e2, s2, en2, ra, q⟩ => by subst ra; rw [← e2]; exact q.pure s2 rfl⟩
def gAndT (g1 g2 : FT) : FT := fun ρ G => (g1 ρ G).bind fun b G => if b then g2 ρ G else .ok false G
def gOrT (g1 g2 : FT) : FT := fun ρ G => (g1 ρ G).bind fun b G => if b then .ok true G else g2 ρ G
theorem andT_ok {g1 g2 : FT} {σ : L2.St} {H : Hp} {Q : Bool → Hp → Prop} (q : absT Γ Z (gAndT g1 g2) σ H Q) : tAnd (absT Γ Z g1) (absT Γ Z g2) σ H Q := by
  obtain ⟨c, ρ, e, s, en, th⟩ := absG.bind q
  refine ⟨c, ρ, e, s, en, Th.mono th fun v c1 st ⟨c2, ρ2, a, e2, s2, en2, ra, q⟩ => ?_⟩
  subst ra
  cases v with
  | true => exact ⟨c2, ρ2, e2, s2, en2, q⟩
  | false => rw [← e2]; exact q.pure s2 rfl
theorem orT_ok {g1 g2 : FT} {σ : L2.St} {H : Hp} {Q : Bool → Hp → Prop} (q : absT Γ Z (gOrT g1 g2) σ H Q) : tOr (absT Γ Z g1) (absT Γ Z g2) σ H Q := by
  obtain ⟨c, ρ, e, s, en, th⟩ := absG.bind q
  refine ⟨c, ρ, e, s, en, Th.mono th fun v c1 st ⟨c2, ρ2, a, e2, s2, en2, ra, q⟩ => ?_⟩
  subst ra
  cases v with
  | false => exact ⟨c2, ρ2, e2, s2, en2, q⟩
  | true => rw [← e2]; exact q.pure s2 rfl
theorem PW.imp {e : Expr} {t t' : TT} (h : PW X e t) (m : ∀ σ H Q, t' σ H Q → t σ H Q) : PW X e t' := ⟨fun wh pins s σ H Q I q => h.run wh pins s σ H Q I (m σ H Q q)⟩
theorem fw_and1 {a : Expr} {g : FT} {pos : Pos} (h : PT X a (absT Γ Z g)) : PW X (.BoolOp .And [a] pos) (absT Γ Z g) := pw_and1 h
theorem fw_or1 {a : Expr} {g : FT} {pos : Pos} (h : PT X a (absT Γ Z g)) : PW X (.BoolOp .Or [a] pos) (absT Γ Z g) := pw_or1 h
theorem fw_and {a b : Expr} {rest : List Expr} {g1 g2 : FT} {pos : Pos} (h1 : PT X a (absT Γ Z g1)) (h2 : PW X (.BoolOp .And (b :: rest) pos) (absT Γ Z g2)) : PW X (.BoolOp .And (a :: b :: rest) pos) (absT Γ Z (gAndT g1 g2)) :=
  PW.imp (pw_and h1 h2) fun σ H Q q => andT_ok q
theorem fw_or {a b : Expr} {rest : List Expr} {g1 g2 : FT} {pos : Pos} (h1 : PT X a (absT Γ Z g1)) (h2 : PW X (.BoolOp .Or (b :: rest) pos) (absT Γ Z g2)) : PW X (.BoolOp .Or (a :: b :: rest) pos) (absT Γ Z (gOrT g1 g2)) :=
  PW.imp (pw_or h1 h2) fun σ H Q q => orT_ok q
/-- .. as values -/
def gAnd (g1 g2 : FE) : FE := fun ρ G => (g1 ρ G).bind fun a G1 => match truW G1 a with
  | some true => g2 ρ G1
  | some false => .ok a G1
  | none => .no
def gOr (g1 g2 : FE) : FE := fun ρ G => (g1 ρ G).bind fun a G1 => match truW G1 a with
  | some true => .ok a G1
  | some false => g2 ρ G1
  | none => .no
theorem fe_one {op : BoolOp} {a : Expr} {g : FE} {pos : Pos} (h : PE X a (absE Γ Z g)) : PE X (.BoolOp op [a] pos) (absE Γ Z g) := pe_one h
theorem fe_and {a b : Expr} {rest : List Expr} {g1 g2 : FE} {pos : Pos} (h1 : PE X a (absE Γ Z g1)) (h2 : PE X (.BoolOp .And (b :: rest) pos) (absE Γ Z g2)) (hK : Γ.K = X.K := by rfl) : PE X (.BoolOp .And (a :: b :: rest) pos) (absE Γ Z (gAnd g1 g2)) :=
  PE.imp (pe_andT h1 h2) fun σ H Q q => by
    obtain ⟨c, ρ, e, s, en, th⟩ := absG.bind q
    refine ⟨c, ρ, e, s, en, Th.mono th fun v c1 st ⟨c2, ρ2, a, e2, s2, en2, ra, q⟩ => ?_⟩
    rw [← e2]
    cases k : truW c2.G a with
    | none => simp only [k] at q; exact q.elim
    | some b =>
      refine ⟨b, hK ▸ tru_okF s2 ra k, ?_⟩
      cases b with
      | true => simp only [k] at q; exact ⟨c2, ρ2, rfl, s2, en2, q⟩
      | false => simp only [k] at q; exact q.pure s2 ra
theorem fe_or {a b : Expr} {rest : List Expr} {g1 g2 : FE} {pos : Pos} (h1 : PE X a (absE Γ Z g1)) (h2 : PE X (.BoolOp .Or (b :: rest) pos) (absE Γ Z g2)) (hK : Γ.K = X.K := by rfl) : PE X (.BoolOp .Or (a :: b :: rest) pos) (absE Γ Z (gOr g1 g2)) :=
  PE.imp (pe_orT h1 h2) fun σ H Q q => by
    obtain ⟨c, ρ, e, s, en, th⟩ := absG.bind q
    refine ⟨c, ρ, e, s, en, Th.mono th fun v c1 st ⟨c2, ρ2, a, e2, s2, en2, ra, q⟩ => ?_⟩
    rw [← e2]
    cases k : truW c2.G a with
    | none => simp only [k] at q; exact q.elim
    | some b =>
      refine ⟨b, hK ▸ tru_okF s2 ra k, ?_⟩
      cases b with
      | false => simp only [k] at q; exact ⟨c2, ρ2, rfl, s2, en2, q⟩
      | true => simp only [k] at q; exact q.pure s2 ra
def gNot (g : FE) : FE := fun ρ G => (g ρ G).bind fun a G1 => match truW G1 a with
  | some b => .ok (.bl (!b)) G1
  | none => .no
theorem fe_not {a : Expr} {g : FE} {pos : Pos} (h : PE X a (absE Γ Z g)) (hK : Γ.K = X.K := by rfl) : PE X (.UnaryOp .Not a pos) (absE Γ Z (gNot g)) :=
  PE.imp (pe_notT h) fun σ H Q q => by
    obtain ⟨c, ρ, e, s, en, th⟩ := absG.bind q
    refine ⟨c, ρ, e, s, en, Th.mono th fun v c1 st ⟨c2, ρ2, a, e2, s2, en2, ra, q⟩ => ?_⟩
    rw [← e2]
    cases k : truW c2.G a with
    | none => simp only [k] at q; exact q.elim
    | some b =>
      simp only [k] at q
      exact ⟨b, hK ▸ tru_okF s2 ra k, q.pure s2 (.bl _)⟩
def gIf (t : FT) (a b : FE) : FE := fun ρ G => (t ρ G).bind fun k G => if k then a ρ G else b ρ G
theorem fe_if {t a b : Expr} {gt : FT} {ga gb : FE} {pos : Pos} (ht : PT X t (absT Γ Z gt)) (ha : PE X a (absE Γ Z ga)) (hb : PE X b (absE Γ Z gb)) : PE X (.IfExp t a b pos) (absE Γ Z (gIf gt ga gb)) :=
  PE.imp (pe_ifExp ht ha hb) fun σ H Q q => by
    obtain ⟨c, ρ, e, s, en, th⟩ := absG.bind q
    refine ⟨c, ρ, e, s, en, Th.mono th fun v c1 st ⟨c2, ρ2, a, e2, s2, en2, ra, q⟩ => ?_⟩
    subst ra
    cases v with
    | true => exact ⟨c2, ρ2, e2, s2, en2, q⟩
    | false => exact ⟨c2, ρ2, e2, s2, en2, q⟩
def gNeg (g : FE) : FE := fun ρ G => (g ρ G).bind fun a G1 => match a with
  | .int i => .ok (.int (-i)) G1
  | _ => .no
theorem fe_neg {a : Expr} {g : FE} {pos : Pos} (h : PE X a (absE Γ Z g)) : PE X (.UnaryOp .USub a pos) (absE Γ Z (gNeg g)) :=
  PE.imp (pe_un un_neg h) fun σ H Q q => by
    obtain ⟨c, ρ, e, s, en, th⟩ := absG.bind q
    refine ⟨c, ρ, e, s, en, Th.mono th fun v c1 st ⟨c2, ρ2, a, e2, s2, en2, ra, q⟩ => ?_⟩
    rw [← e2]
    cases ra with
    | int i => exact ⟨i, rfl, q.pure s2 (.int _)⟩
    | _ => exact q.elim

/-! ### argument lists, displays -/
def gNil : FA := fun _ G => .ok [] G
def gCons (g : FE) (r : FA) : FA := fun ρ G => (g ρ G).bind fun w G1 => (r ρ G1).bind fun ws G2 => .ok (w :: ws) G2
theorem fa_nil : PA X [] (absA Γ Z gNil) := PA.imp pa_nil fun σ H Q ⟨c, ρ, e, s, en, th⟩ => by
  subst e
  exact Th.pure s th (.nil)
theorem fa_cons {e : Expr} {es : List Expr} {g : FE} {r : FA} (ha : PE X e (absE Γ Z g)) (hr : PA X es (absA Γ Z r)) (hs : starEach (e :: es) X.env = (false, eval e X.env) :: starEach es X.env := by rfl) : PA X (e :: es) (absA Γ Z (gCons g r)) :=
  PA.imp (pa_cons ha hr hs) fun σ H Q q => by
    obtain ⟨c, ρ, e, s, en, th⟩ := absG.bind q
    refine ⟨c, ρ, e, s, en, Th.mono th fun v c1 st ⟨c2, ρ2, a, e2, s2, en2, ra, q⟩ => ?_⟩
    refine ⟨c2, ρ2, e2, s2, en2, Th.mono (Th.bind q) fun vs c3 st3 ⟨c4, b, e4, st4, s4, rb, q4⟩ => ?_⟩
    rw [← e4]
    exact q4.pure s4 (.cons (st4.rp s2 ra) rb)
def gTup (g : FA) : FE := fun ρ G => (g ρ G).bind fun ws G1 => if ws.length ≤ sizeLine then .ok (.tup ws) G1 else .no
def gLst (own : Bool) (g : FA) : FE := fun ρ G => (g ρ G).bind fun ws G1 => if ws.length ≤ sizeLine then mkL own ws G1 else .no
theorem fe_tup {es : List Expr} {g : FA} {k : Nat} {pos : Pos} (h : PA X es (absA Γ Z g)) : PE X (.Tuple es k pos) (absE Γ Z (gTup g)) := PE.imp (pe_tup h) fun σ H Q q => by
  obtain ⟨c, ρ, e, s, en, th⟩ := absG.bind q
  refine ⟨c, ρ, e, s, en, Th.mono th fun v c1 st ⟨c2, ρ2, a, e2, s2, en2, ra, q⟩ => ?_⟩
  rw [← e2]
  by_cases k : a.length ≤ sizeLine
  · rw [if_pos k] at q
    exact ⟨by rw [ra.length]; exact k, fun p hp => mkT_ok s2 ra q hp⟩
  · rw [if_neg k] at q
    exact q.elim
theorem fe_lst {own : Bool} {es : List Expr} {g : FA} {pos : Pos} (h : PA X es (absA Γ Z g)) : PE X (.List es pos) (absE Γ Z (gLst own g)) := PE.imp (pe_lst h) fun σ H Q q => by
  obtain ⟨c, ρ, e, s, en, th⟩ := absG.bind q
  refine ⟨c, ρ, e, s, en, Th.mono th fun v c1 st ⟨c2, ρ2, a, e2, s2, en2, ra, q⟩ => ?_⟩
  rw [← e2]
  by_cases k : a.length ≤ sizeLine
  · rw [if_pos k] at q
    exact ⟨by rw [ra.length]; exact k, fun p hp => mkL_ok s2 ra q hp⟩
  · rw [if_neg k] at q
    exact q.elim

/-! ### a[i] -/
theorem RpAll.atI {c : Cf} {xs : List V} {ws : List W} {i : Int} {w : W} (r : c.RpAll Γ xs ws) (h : L2.atI ws i = some w) : ∃ v, L2.atI xs i = some v ∧ c.Rp Γ v w := by
  unfold L2.atI at h ⊢
  rw [r.length]
  cases e : ixN ws.length i with
  | none => rw [e] at h; cases h
  | some j => rw [e] at h; exact r.get h
def fIx : F2 := fun a b G => match b with
  | .int i => match a with
    | .str z => if z.length ≤ sizeLine then match L2.atI z.cps.toList i with
        | some c => .ok (.str ⟨#[c]⟩) G
        | none => .no
      else .no
    | a => match sqs G a with
      | some ws => match L2.atI ws i with
        | some w => .ok w G
        | none => .no
      | none => .no
  | _ => .no
theorem ixS_ok {c : Cf} {x y : V} {a : W} {i : Int} {ws : List W} {w : W} {Q : VK} {E : XK} (s : SR Γ c) (ra : c.Rp Γ x a) (e1 : sqs c.G a = some ws) (e2 : L2.atI ws i = some w) (h : Th Γ E (Cf.Rp Γ) c Q (.ok w c.G)) : rIx Γ.K x (.int i) c.H Q := by
  obtain ⟨p, xs, rfl, hq, r⟩ := sqs_ok s e1 ra
  obtain ⟨v, ev, rv⟩ := r.atI e2
  rcases hq with hq | hq
  · exact .inl ⟨p, xs, i, v, rfl, rfl, hq, ev, h.pure s rv⟩
  · exact .inr (.inl ⟨p, xs, i, v, rfl, rfl, hq, ev, h.pure s rv⟩)
theorem ix_ok (c : Cf) (x y : V) (a b : W) (Q : VK) (E : XK) (s : SR Γ c) (ra : c.Rp Γ x a) (rb : c.Rp Γ y b) (h : Th Γ E (Cf.Rp Γ) c Q (fIx a b c.G)) : rIx Γ.K x y c.H Q := by
  unfold fIx at h
  cases rb with
  | int i =>
    simp only at h
    split at h
    · rename_i z
      cases ra
      by_cases k : z.length ≤ sizeLine
      · rw [if_pos k] at h
        split at h
        · rename_i ch e
          exact .inr (.inr ⟨z, i, ch, rfl, rfl, k, e, h.pure s (.str _)⟩)
        · exact h.elim
      · rw [if_neg k] at h
        exact h.elim
    · split at h
      · split at h
        · exact ixS_ok (y := .int i) s ra (by assumption) (by assumption) h
        · exact h.elim
      · exact h.elim
  | _ => exact h.elim
theorem fe_ix {a b : Expr} {ga gb : FE} {pos : Pos} (ha : PE X a (absE Γ Z ga)) (hb : PE X b (absE Γ Z gb)) (hs : PlainIx b := by exact fun _ _ => rfl) (hK : Γ.K = X.K := by rfl) : PE X (.Subscript a b pos) (absE Γ Z (gOp fIx ga gb)) :=
  PE.imp (pe_ix ix_seq ha hb hs) fun σ H Q q => op_ok (fun c x y a b Q E s ra rb h => hK ▸ ix_ok c x y a b Q E s ra rb h) q

/-! ### a[i:j] -/
abbrev FO := En → GH → R (Option Int)
abbrev absO (Γ : Gm) (Z : WXk) (g : FO) : TO := absG Γ Z (fun _ b b' => b = b') g
def gNoPart : FO := fun _ G => .ok none G
def gPart (g : FE) : FO := fun ρ G => (g ρ G).bind fun w G1 => match w with
  | .int i => .ok (some i) G1
  | _ => .no
theorem PO.imp {e : Option Expr} {t t' : TO} (h : PO X e t) (m : ∀ σ H Q, t' σ H Q → t σ H Q) : PO X e t' := ⟨fun pins s σ H Q I q => h.run pins s σ H Q I (m σ H Q q)⟩
theorem fo_none : PO X none (absO Γ Z gNoPart) := PO.imp po_none fun σ H Q ⟨c, ρ, e, s, en, th⟩ => by
  subst e
  exact Th.pure (v := none) s th rfl
theorem fo_some {e : Expr} {g : FE} (h : PE X e (absE Γ Z g)) : PO X (some e) (absO Γ Z (gPart g)) := PO.imp (po_some h) fun σ H Q q => by
  obtain ⟨c, ρ, e, s, en, th⟩ := absG.bind q
  refine ⟨c, ρ, e, s, en, Th.mono th fun v c1 st ⟨c2, ρ2, a, e2, s2, en2, ra, q⟩ => ?_⟩
  rw [← e2]
  cases ra with
  | int i => exact ⟨i, rfl, q.pure s2 rfl⟩
  | _ => exact q.elim
def cutW (ws : List W) (lo hi : Option Int) : List W := (ws.drop (HT.sIx ws.length 0 lo)).take (HT.sIx ws.length ws.length hi - HT.sIx ws.length 0 lo)
theorem RpAll.cut {c : Cf} {xs : List V} {ws : List W} (r : c.RpAll Γ xs ws) (lo hi : Option Int) : c.RpAll Γ (cutV xs lo hi) (cutW ws lo hi) := by
  unfold cutV cutW
  rw [r.length]
  exact (r.drop _).take _
def fSl (own : Bool) (w : W) (lo hi : Option Int) (G : GH) : R W := match w with
  | .tup ws => .ok (.tup (cutW ws lo hi)) G
  | w => match lsq G w with
    | some ws => mkL own (cutW ws lo hi) G
    | none => .no
def gSl (own : Bool) (g : FE) (lo hi : FO) : FE := fun ρ G => (g ρ G).bind fun w G1 => (lo ρ G1).bind fun l G2 => (hi ρ G2).bind fun h G3 => fSl own w l h G3
def rSlF (K : PySem.W.Frag) : V → Option Int → Option Int → Hp → VK → Prop := fun x lo hi H Q => rSlL K x lo hi H Q ∨ rSlA K x lo hi H Q
theorem sl_F : SlR X (rSlF X.K) := sl_list.or sl_tupA
theorem sl_ok {own : Bool} {c : Cf} {x : V} {a : W} {lo hi : Option Int} {Q : VK} {E : XK} (s : SR Γ c) (ra : c.Rp Γ x a) (h : Th Γ E (Cf.Rp Γ) c Q (fSl own a lo hi c.G)) : rSlF Γ.K x lo hi c.H Q := by
  unfold fSl at h
  split at h
  · rename_i ws
    obtain ⟨p, xs, rfl, hq, r⟩ := tsq_ok (Γ := Γ) (c := c) rfl ra
    refine .inr ⟨p, xs, rfl, hq, fun e => ?_, fun _ d hd => mkT_ok s (r.cut lo hi) h hd⟩
    have ec : cutW ws lo hi = ws := by
      unfold cutW
      rw [← r.length, e.1, e.2, List.drop_zero, Nat.sub_zero, r.length]
      exact List.take_length
    rw [ec] at h
    exact h.pure s ra
  · split at h
    · obtain ⟨p, xs, rfl, hq, r⟩ := lsq_ok s (by assumption) ra
      exact .inl ⟨p, xs, rfl, hq, fun d hd => mkL_ok s (r.cut lo hi) h hd⟩
    · exact h.elim
theorem fe_sl {own : Bool} {e : Expr} {lo hi : Option Expr} {g : FE} {gl gh : FO} {p2 pos : Pos} (he : PE X e (absE Γ Z g)) (hl : PO X lo (absO Γ Z gl)) (hu : PO X hi (absO Γ Z gh)) (hK : Γ.K = X.K := by rfl) : PE X (.Subscript e (.Slice lo hi none p2) pos) (absE Γ Z (gSl own g gl gh)) :=
  PE.imp (pe_slice sl_F he hl hu) fun σ H Q q => by
    obtain ⟨c, ρ, e, s, en, th⟩ := absG.bind q
    refine ⟨c, ρ, e, s, en, Th.mono th fun v c1 st ⟨c2, ρ2, a, e2, s2, en2, ra, q⟩ => ?_⟩
    refine ⟨c2, ρ2, e2, s2, en2, Th.mono (Th.bind q) fun l c3 st3 ⟨c4, b, e4, st4, s4, rb, q4⟩ => ?_⟩
    subst rb
    refine ⟨c4, ρ2, e4, s4, st4.en s2 en2, Th.mono (Th.bind q4) fun u c5 st5 ⟨c6, b6, e6, st6, s6, rb6, q6⟩ => ?_⟩
    subst rb6
    rw [← e6]
    exact hK ▸ sl_ok s6 (st6.rp s4 (st4.rp s2 ra)) q6
/-- an owned thing is taken as a value from here on -/
def frz (w : W) (G : GH) : R W := match w with
  | .ref n => match G.at_ n with
    | some (.lst ws) => .ok (.lst ws) (G.del n)
    | some (.dic ks ws) => .ok (.dic ks ws) (G.del n)
    | some (.ins k fs ws) => .ok (.ins k fs ws) (G.del n)
    | none => .no
  | _ => .no
def gFrz (g : FE) : FE := fun ρ G => (g ρ G).bind frz
theorem fe_frz {e : Expr} {g : FE} (h : PE X e (absE Γ Z g)) : PE X e (absE Γ Z (gFrz g)) := PE.imp h fun σ H Q q => by
  obtain ⟨c, ρ, e, s, en, th⟩ := absG.bind q
  refine ⟨c, ρ, e, s, en, Th.mono th fun v c1 st ⟨c2, ρ2, a, e2, s2, en2, ra, q⟩ => ?_⟩
  rw [← e2]
  unfold frz at q
  cases ra with
  | @ref n p hn =>
    simp only at q
    cases e : c2.G.at_ n with
    | none => simp only [e] at q; exact q.elim
    | some o =>
      obtain ⟨b, ho, e1, eb, r⟩ := s2.obj n o e
      rw [hn] at e1; cases e1
      obtain ⟨st', s', no⟩ := del_own s2 hn
      cases r with
      | lst r => simp only [e] at q; exact q ⟨c2.ι, c2.G.del n, c2.H, c2.B⟩ _ st' s' rfl (.lst (.inl eb) no (st'.rpAll s2 r))
      | dic l r => simp only [e] at q; exact q ⟨c2.ι, c2.G.del n, c2.H, c2.B⟩ _ st' s' rfl (.dic (.inl eb) l no (st'.rpAll s2 r))
      | ins l r => simp only [e] at q; exact q ⟨c2.ι, c2.G.del n, c2.H, c2.B⟩ _ st' s' rfl (.ins eb l no (st'.rpAll s2 r))
  | _ => exact q.elim
end
end Fn

set_option Elab.async false
set_option linter.all false
set_option maxRecDepth 100000
namespace Fn
open PySem PySem.Spec PyProof.Rows L2

inductive RS where
  | nx (ρ : En) (G : GH)
  | rt (w : W) (G : GH)
  | bk (ρ : En) (G : GH)
  | ct (ρ : En) (G : GH)
  | ex (x : Xn) (ρ : En) (G : GH)
  | no
abbrev FS := En → GH → RS
def RS.seq (r : RS) (f : En → GH → RS) : RS := match r with
  | .nx ρ G => f ρ G
  | .rt w G => .rt w G
  | .bk ρ G => .bk ρ G
  | .ct ρ G => .ct ρ G
  | .ex x ρ G => .ex x ρ G
  | .no => .no
/-- behind an expression: its value, or its exception -/
def R.thn {α : Type} (r : R α) (ρ : En) (f : α → GH → RS) : RS := match r with
  | .ok a G => f a G
  | .ex x G => .ex x ρ G
  | .no => .no

def ThS (Γ : Gm) (Z : WXk) (D : Ends) (c : Cf) : RS → Prop
  | .nx ρ G => ∀ (c' : Cf) (σ : L2.St), Stp c c' → SR Γ c' → c'.G = G → c'.En Γ ρ σ → D.nx σ c'.H
  | .rt w G => ∀ (c' : Cf) (v : V), Stp c c' → SR Γ c' → c'.G = G → c'.Rp Γ v w → D.rt v c'.H
  | .bk ρ G => ∀ (c' : Cf) (σ : L2.St), Stp c c' → SR Γ c' → c'.G = G → c'.En Γ ρ σ → D.bk σ c'.H
  | .ct ρ G => ∀ (c' : Cf) (σ : L2.St), Stp c c' → SR Γ c' → c'.G = G → c'.En Γ ρ σ → D.ct σ c'.H
  | .ex x ρ G => ∀ (c' : Cf) (σ : L2.St) (cls : Value) (d : Option Addr), Stp c c' → SR Γ c' → c'.G = G → c'.En Γ ρ σ → RX Γ c' x cls d → Z cls d σ c'.H
  | .no => False
theorem ThS.from {Γ : Gm} {Z : WXk} {D : Ends} {c c1 : Cf} {r : RS} (st : Stp c c1) (h : ThS Γ Z D c r) : ThS Γ Z D c1 r := by
  cases r with
  | nx ρ G => exact fun c' σ a b e r => h c' σ (st.trans a) b e r
  | rt w G => exact fun c' v a b e r => h c' v (st.trans a) b e r
  | bk ρ G => exact fun c' σ a b e r => h c' σ (st.trans a) b e r
  | ct ρ G => exact fun c' σ a b e r => h c' σ (st.trans a) b e r
  | ex x ρ G => exact fun c' σ cls d a b e r => h c' σ cls d (st.trans a) b e r
  | no => exact h
def absS (Γ : Gm) (Z : WXk) (g : FS) : TS := fun D σ H => ∃ (c : Cf) (ρ : En), c.H = H ∧ SR Γ c ∧ c.En Γ ρ σ ∧ ThS Γ Z D c (g ρ c.G)
/-- an expression ahead of a rest -/
theorem ThS.bind {α β : Type} {Γ : Gm} {Z : WXk} {rel : Cf → β → α → Prop} {r : R α} {f : α → GH → RS} {D : Ends} {c : Cf} {ρ : En} {σ : L2.St} (s : SR Γ c) (en : c.En Γ ρ σ) (th : ThS Γ Z D c (r.thn ρ f)) :
    Th Γ (fun cls d H' => Z cls d σ H') rel c (fun v H1 => ∃ (c' : Cf) (a : α), c'.H = H1 ∧ Stp c c' ∧ SR Γ c' ∧ c'.En Γ ρ σ ∧ rel c' v a ∧ ThS Γ Z D c' (f a c'.G)) r := by
  cases r with
  | ok a G =>
    intro c1 v s1 s2 e1 r
    subst e1
    exact ⟨c1, a, rfl, s1, s2, s1.en s en, r, ThS.from s1 th⟩
  | ex x G => exact fun c1 cls d s1 s2 e1 r => th c1 σ cls d s1 s2 e1 (s1.en s en) r
  | no => exact th.elim
theorem absS.bind {α β : Type} {Γ : Gm} {Z : WXk} {rel : Cf → β → α → Prop} {g : En → GH → R α} {f : En → α → GH → RS} {D : Ends} {σ : L2.St} {H : Hp}
    (h : absS Γ Z (fun ρ G => (g ρ G).thn ρ (f ρ)) D σ H) :
    absG Γ Z rel g σ H (fun v H1 => ∃ (c : Cf) (ρ : En) (a : α), c.H = H1 ∧ SR Γ c ∧ c.En Γ ρ σ ∧ rel c v a ∧ ThS Γ Z D c (f ρ a c.G)) := by
  obtain ⟨c, ρ, e, s, en, th⟩ := h
  exact ⟨c, ρ, e, s, en, Th.mono (ThS.bind s en th) fun v c1 st ⟨c2, a, e2, st2, s2, en2, ra, q⟩ => ⟨c2, ρ, a, e2, s2, en2, ra, q⟩⟩

section
variable {X : Cx} {Γ : Gm} {Z : WXk}
def gNext : FS := fun ρ G => .nx ρ G
@[irreducible] def gSeq (a b : FS) : FS := fun ρ G => (a ρ G).seq b
theorem fss_nil : PSs X [] (absS Γ Z gNext) := PSs.imp pss_nil fun D σ H ⟨c, ρ, e, s, en, th⟩ => by
  subst e
  exact th c σ (Stp.refl c) s rfl en
theorem fss_one {st : Stmt} {g : FS} (h : PS X st (absS Γ Z g)) : PSs X [st] (absS Γ Z g) := pss_one h
theorem seq_ok {a b : FS} {D : Ends} {σ : L2.St} {H : Hp} (h : absS Γ Z (gSeq a b) D σ H) : absS Γ Z a { D with nx := absS Γ Z b D } σ H := by
  obtain ⟨c, ρ, e, s, en, th⟩ := h
  refine ⟨c, ρ, e, s, en, ?_⟩
  unfold gSeq at th
  cases k : a ρ c.G with
  | nx ρ1 G1 =>
    rw [k] at th
    intro c1 σ1 s1 s2 e1 en1
    subst e1
    exact ⟨c1, ρ1, rfl, s2, en1, ThS.from s1 th⟩
  | rt w G => rw [k] at th; exact th
  | bk ρ1 G => rw [k] at th; exact th
  | ct ρ1 G => rw [k] at th; exact th
  | ex x ρ1 G => rw [k] at th; exact th
  | no => rw [k] at th; exact th
theorem fss_cons {st : Stmt} {rest : List Stmt} {a b : FS} (h1 : PS X st (absS Γ Z a)) (h2 : PSs X rest (absS Γ Z b)) : PSs X (st :: rest) (absS Γ Z (gSeq a b)) := PSs.imp (pss_cons h1 h2) fun D σ H q => seq_ok q
def gBrk : FS := fun ρ G => .bk ρ G
def gCnt : FS := fun ρ G => .ct ρ G
theorem fs_pass {pos : Pos} : PS X (.Pass pos) (absS Γ Z gNext) := PS.imp ps_pass fun D σ H ⟨c, ρ, e, s, en, th⟩ => by
  subst e
  exact th c σ (Stp.refl c) s rfl en
theorem fs_brk {pos : Pos} : PS X (.Break pos) (absS Γ Z gBrk) := PS.imp ps_break fun D σ H ⟨c, ρ, e, s, en, th⟩ => by
  subst e
  exact th c σ (Stp.refl c) s rfl en
theorem fs_cnt {pos : Pos} : PS X (.Continue pos) (absS Γ Z gCnt) := PS.imp ps_continue fun D σ H ⟨c, ρ, e, s, en, th⟩ => by
  subst e
  exact th c σ (Stp.refl c) s rfl en
def gRet (g : FE) : FS := fun ρ G => (g ρ G).thn ρ fun w G1 => .rt w G1
theorem fs_ret {e : Expr} {g : FE} {pos : Pos} (h : PE X e (absE Γ Z g)) : PS X (.Return (some e) pos) (absS Γ Z (gRet g)) := PS.imp (ps_ret h) fun D σ H q => by
  obtain ⟨c, ρ, e, s, en, th⟩ := absS.bind (rel := Cf.Rp Γ) q
  exact ⟨c, ρ, e, s, en, Th.mono th fun v c1 st ⟨c2, ρ2, a, e2, s2, en2, ra, q⟩ => by rw [← e2]; exact q c2 v (Stp.refl c2) s2 rfl ra⟩
def gRetN : FS := fun ρ G => .rt .non G
theorem fs_retN {pos : Pos} : PS X (.Return none pos) (absS Γ Z gRetN) := PS.imp ps_retN fun D σ H ⟨c, ρ, e, s, en, th⟩ => by
  subst e
  exact th c .non (Stp.refl c) s rfl .non
def gDrop (g : FE) : FS := fun ρ G => (g ρ G).thn ρ fun _ G1 => .nx ρ G1
theorem fs_expr {e : Expr} {g : FE} {pos : Pos} (h : PE X e (absE Γ Z g)) (hs : swapsWith e none pos.line X.env = pure false := by rfl) : PS X (.Expr e pos) (absS Γ Z (gDrop g)) := PS.imp (ps_expr h hs) fun D σ H q => by
  obtain ⟨c, ρ, e, s, en, th⟩ := absS.bind (rel := Cf.Rp Γ) q
  exact ⟨c, ρ, e, s, en, Th.mono th fun v c1 st ⟨c2, ρ2, a, e2, s2, en2, ra, q⟩ => by rw [← e2]; exact q c2 σ (Stp.refl c2) s2 rfl en2⟩
def gIfS (t : FT) (a b : FS) : FS := fun ρ G => (t ρ G).thn ρ fun k G1 => if k then a ρ G1 else b ρ G1
theorem fs_if {t : Expr} {a b : List Stmt} {gt : FT} {ga gb : FS} {pos : Pos} (ht : PT X t (absT Γ Z gt)) (ha : PSs X a (absS Γ Z ga)) (hb : PSs X b (absS Γ Z gb)) : PS X (.If t a b pos) (absS Γ Z (gIfS gt ga gb)) := PS.imp (ps_if ht ha hb) fun D σ H q => by
  obtain ⟨c, ρ, e, s, en, th⟩ := absS.bind (rel := fun _ b b' => b = b') q
  refine ⟨c, ρ, e, s, en, Th.mono th fun v c1 st ⟨c2, ρ2, a, e2, s2, en2, ra, q⟩ => ?_⟩
  subst ra
  cases v with
  | true => exact ⟨c2, ρ2, e2, s2, en2, q⟩
  | false => exact ⟨c2, ρ2, e2, s2, en2, q⟩

/-! ### targets -/
abbrev FG := W → En → GH → RS
/-- a target's reading: only nx comes of it -/
def Agr (sl : List Nat) (σ σ' : L2.St) : Prop := σ'.length = σ.length ∧ ∀ i, i ∉ sl → σ'[i]? = σ[i]?
theorem Agr.refl (sl : List Nat) (σ : L2.St) : Agr sl σ σ := ⟨rfl, fun _ _ => rfl⟩
theorem Agr.trans {a b : List Nat} {σ σ1 σ2 : L2.St} (x : Agr a σ σ1) (y : Agr b σ1 σ2) : Agr (a ++ b) σ σ2 := ⟨y.1.trans x.1, fun i h => by
  rw [List.mem_append, not_or] at h
  rw [y.2 i h.2, x.2 i h.1]⟩
def absG1 (Γ : Gm) (sl : List Nat) (g : W → En → GH → Option (En × GH)) : TG := fun v σ H Q => ∃ (c : Cf) (ρ : En) (w : W), c.H = H ∧ SR Γ c ∧ c.En Γ ρ σ ∧ c.Rp Γ v w ∧
  match g w ρ c.G with
  | some (ρ', G') => ∀ (c' : Cf) (σ' : L2.St), Stp c c' → SR Γ c' → c'.G = G' → c'.En Γ ρ' σ' → Agr sl σ σ' → Q σ' c'.H
  | none => False
abbrev FG1 := W → En → GH → Option (En × GH)
abbrev FGs := List W → En → GH → Option (En × GH)
def absGs (Γ : Gm) (sl : List Nat) (g : FGs) : TGs := fun vs σ H Q => ∃ (c : Cf) (ρ : En) (ws : List W), c.H = H ∧ SR Γ c ∧ c.En Γ ρ σ ∧ c.RpAll Γ vs ws ∧
  match g ws ρ c.G with
  | some (ρ', G') => ∀ (c' : Cf) (σ' : L2.St), Stp c c' → SR Γ c' → c'.G = G' → c'.En Γ ρ' σ' → Agr sl σ σ' → Q σ' c'.H
  | none => False
theorem PG.imp {e : Expr} {t t' : TG} (h : PG X e t) (m : ∀ v σ H Q, t' v σ H Q → t v σ H Q) : PG X e t' := ⟨fun pins s σ H v u Q I r q => h.run pins s σ H v u Q I r (m v σ H Q q)⟩
theorem PGs.imp {e : List Expr} {t t' : TGs} (h : PGs X e t) (m : ∀ v σ H Q, t' v σ H Q → t v σ H Q) : PGs X e t' := ⟨fun pins s σ H v u Q I r q => h.run pins s σ H v u Q I r (m v σ H Q q)⟩
def tgName (i : Nat) : FG1 := fun w ρ G => some (ρ.set i (some w), G)
theorem fg_name {i : Nat} {e : Expr} (h : PG X e (gName i)) : PG X e (absG1 Γ [i] (tgName i)) := PG.imp h fun v σ H Q ⟨c, ρ, w, e, s, en, r, q⟩ => by
  subst e
  exact q c _ (Stp.refl c) s rfl (en.set r i) ⟨List.length_set, fun j h => List.getElem?_set_ne (fun z => h (by simp [z]))⟩
def tgNil : FGs := fun ws ρ G => match ws with
  | [] => some (ρ, G)
  | _ => none
def tgCons (g : FG1) (r : FGs) : FGs := fun ws ρ G => match ws with
  | [] => none
  | w :: ws => match g w ρ G with
    | some (ρ', G') => r ws ρ' G'
    | none => none
theorem fgs_nil : PGs X [] (absGs Γ [] tgNil) := PGs.imp pgs_nil fun vs σ H Q ⟨c, ρ, ws, e, s, en, r, q⟩ => by
  subst e
  cases r with
  | nil => exact ⟨rfl, q c _ (Stp.refl c) s rfl en (Agr.refl _ _)⟩
  | cons _ _ => exact q.elim
theorem fgs_cons {e : Expr} {es : List Expr} {g : FG1} {r : FGs} {sl sl' : List Nat} (h1 : PG X e (absG1 Γ sl g)) (h2 : PGs X es (absGs Γ sl' r)) (hs : (assignEach (e :: es) X.env).map (·.2) = assign e X.env :: (assignEach es X.env).map (·.2) := by rfl) :
    PGs X (e :: es) (absGs Γ (sl ++ sl') (tgCons g r)) := PGs.imp (pgs_cons h1 h2 hs) fun vs σ H Q ⟨c, ρ, ws, e, s, en, rr, q⟩ => by
  cases rr with
  | nil => exact q.elim
  | @cons v w vs ws h t =>
    refine ⟨v, vs, rfl, c, ρ, w, e, s, en, h, ?_⟩
    simp only [tgCons] at q
    cases k : g w ρ c.G with
    | none => rw [k] at q; exact q.elim
    | some p =>
      obtain ⟨ρ', G'⟩ := p
      rw [k] at q
      simp only at q ⊢
      intro c1 σ1 s1 s2 e1 en1 ag1
      subst e1
      refine ⟨c1, ρ', ws, rfl, s2, en1, s1.rpAll s t, ?_⟩
      cases k2 : r ws ρ' c1.G with
      | none => rw [k2] at q; exact q.elim
      | some p2 =>
        obtain ⟨ρ2, G2⟩ := p2
        rw [k2] at q
        exact fun c' σ' a b e d ag => q c' σ' (s1.trans a) b e d (ag1.trans ag)
def tgTup (n : Nat) (r : FGs) : FG1 := fun w ρ G => match w with
  | .tup ws => if ws.length = n then r ws ρ G else none
  | _ => none
theorem fg_tup {es : List Expr} {k : Nat} {r : FGs} {n : Nat} {pos : Pos} {sl : List Nat} (hc : X.calm = true) (h : PGs X es (absGs Γ sl r)) (hn : (assignEach es X.env).length = n := by rfl) (hst : (assignEach es X.env).findIdx? (·.1) = none := by rfl) (hK : Γ.K = X.K := by rfl) :
    PG X (.Tuple es k pos) (absG1 Γ sl (tgTup n r)) := PG.imp (pg_tup hc h hn hst) fun v σ H Q ⟨c, ρ, w, e, s, en, rr, q⟩ => by
  cases rr with
  | @tup a xs ws h1 r1 =>
    simp only [tgTup] at q
    by_cases k : ws.length = n
    · rw [if_pos k] at q
      subst e
      exact ⟨a, xs, rfl, hK ▸ h1, by rw [r1.length]; exact k, c, ρ, ws, rfl, s, en, r1, q⟩
    · rw [if_neg k] at q
      exact q.elim
  | _ => exact q.elim
def gAsg (g : FE) (t : FG1) : FS := fun ρ G => (g ρ G).thn ρ fun w G1 => match t w ρ G1 with
  | some (ρ', G') => .nx ρ' G'
  | none => .no
theorem asg_ok {g : FE} {t : FG1} {sl : List Nat} {D : Ends} {σ : L2.St} {H : Hp} (q : absS Γ Z (gAsg g t) D σ H) : absE Γ Z g σ H (fun v H1 => absG1 Γ sl t v σ H1 D.nx) := by
  obtain ⟨c, ρ, e, s, en, th⟩ := absS.bind (rel := Cf.Rp Γ) q
  refine ⟨c, ρ, e, s, en, Th.mono th fun v c1 st ⟨c2, ρ2, a, e2, s2, en2, ra, q⟩ => ?_⟩
  refine ⟨c2, ρ2, a, e2, s2, en2, ra, ?_⟩
  cases k : t a ρ2 c2.G with
  | none => rw [k] at q; exact q.elim
  | some p => rw [k] at q; exact fun c' σ' a b e d _ => q c' σ' a b e d
theorem fs_asg {tg e : Expr} {g : FE} {t : FG1} {sl : List Nat} {pos : Pos} (he : PE X e (absE Γ Z g)) (hg : PG X tg (absG1 Γ sl t)) (hs : swapsWithSole [tg] e pos.line X.env = pure false := by rfl) (hw : swappedStores [tg] e X.env = pure none := by rfl)
    (h1 : (assignEach [tg] X.env).map (·.2) = [assign tg X.env] := by rfl) : PS X (.Assign [tg] e pos) (absS Γ Z (gAsg g t)) := PS.imp (ps_asg he hg hs hw h1) fun D σ H q => asg_ok q
/-- o[i] = .. of a list -/
def fSet (o i v : W) (G : GH) : Option GH := match o, i with
  | .ref n, .int k => match G.at_ n with
    | some (.lst ws) => match ixN ws.length k with
      | some j => some (G.set n (.lst (ws.set j v)))
      | none => none
    | _ => none
  | _, _ => none
def gSet (gv go gi : FE) : FS := fun ρ G => (gv ρ G).thn ρ fun v G1 => (go ρ G1).thn ρ fun o G2 => (gi ρ G2).thn ρ fun i G3 => match fSet o i v G3 with
  | some G4 => .nx ρ G4
  | none => .no
theorem set_ok {c : Cf} {o i v : V} {wo wi wv : W} {G4 : GH} (s : SR Γ c) (ro : c.Rp Γ o wo) (ri : c.Rp Γ i wi) (rv : c.Rp Γ v wv) (e : fSet wo wi wv c.G = some G4) {Q : Hp → Prop}
    (h : ∀ c', Stp c c' → SR Γ c' → c'.G = G4 → Q c'.H) : rSetL o i v c.H Q := by
  unfold fSet at e
  cases ro with
  | @ref n a hn =>
    cases ri with
    | int k =>
      simp only at e
      cases q : c.G.at_ n with
      | none => simp [q] at e
      | some ob =>
        obtain ⟨b, ho, e1, e2, r⟩ := s.obj n ob q
        rw [hn] at e1; cases e1
        cases r with
        | @lst xs ws r =>
          simp only [q] at e
          cases j : ixN ws.length k with
          | none => simp [j] at e
          | some m =>
            simp only [j, Option.some.injEq] at e
            subst e
            obtain ⟨st, s'⟩ := upd_own (ho := .lst (xs.set m v)) s q hn (.lst (r.set rv m))
            exact ⟨a, xs, k, m, rfl, rfl, e2, by rw [r.length]; exact j, h _ st s' rfl⟩
        | dic _ _ => simp [q] at e
        | ins _ _ => simp [q] at e
    | _ => cases e
  | _ => cases e
theorem fs_set {o i e : Expr} {gv go gi : FE} {p2 pos : Pos} (he : PE X e (absE Γ Z gv)) (ho : PE X o (absE Γ Z go)) (hi : PE X i (absE Γ Z gi))
    (ha : ∀ v, assign (.Subscript o i p2) X.env v = (do
      let ov ← holding [v] (eval o X.env)
      let iv ← holding [v, ov] (eval i X.env)
      standAt p2
      holding [v, ov, iv] (setItem ov iv v)
      release [v, ov, iv] []) := by intro _; rfl) (hs : swapsWithSole [.Subscript o i p2] e pos.line X.env = pure false := by rfl) (hw : swappedStores [.Subscript o i p2] e X.env = pure none := by rfl)
    (h1 : (assignEach [.Subscript o i p2] X.env).map (·.2) = [assign (.Subscript o i p2) X.env] := by rfl) : PS X (.Assign [.Subscript o i p2] e pos) (absS Γ Z (gSet gv go gi)) :=
  PS.imp (ps_asg he (pg_sub ho hi set_list ha) hs hw h1) fun D σ H q => by
    obtain ⟨c, ρ, e, s, en, th⟩ := absS.bind (rel := Cf.Rp Γ) q
    refine ⟨c, ρ, e, s, en, Th.mono th fun v c1 st ⟨c2, ρ2, a, e2, s2, en2, ra, q⟩ => ?_⟩
    refine ⟨c2, ρ2, e2, s2, en2, Th.mono (ThS.bind s2 en2 q) fun ov c3 st3 ⟨c4, b, e4, st4, s4, en4, rb, q4⟩ => ?_⟩
    refine ⟨c4, ρ2, e4, s4, en4, Th.mono (ThS.bind s4 en4 q4) fun iv c5 st5 ⟨c6, b6, e6, st6, s6, en6, rb6, q6⟩ => ?_⟩
    rw [← e6]
    cases k : fSet b b6 a c6.G with
    | none => simp only [k] at q6; exact q6.elim
    | some G4 =>
      simp only [k] at q6
      exact set_ok s6 (st6.rp s4 rb) rb6 (st6.rp s4 (st4.rp s2 ra)) k fun c' st' s' e' => q6 c' σ st' s' e' (st'.en s6 en6)
end
end Fn

set_option Elab.async false
set_option linter.all false
set_option maxRecDepth 100000
namespace Fn
open PySem PySem.Spec PyProof.Rows L2

/-! ### while -/
def whileF (t : FT) (b : FS) : Nat → FS
  | 0 => fun _ _ => .no
  | n + 1 => fun ρ G => (t ρ G).thn ρ fun k G1 => if k then (match b ρ G1 with
      | .nx ρ' G' => whileF t b n ρ' G'
      | .ct ρ' G' => whileF t b n ρ' G'
      | .bk ρ' G' => .nx ρ' G'
      | .rt w G' => .rt w G'
      | .ex x ρ' G' => .ex x ρ' G'
      | .no => .no) else .nx ρ G1
theorem whileF_more (t : FT) (b : FS) : ∀ (n : Nat) (ρ : En) (G : GH), whileF t b n ρ G ≠ .no → ∀ m, n ≤ m → whileF t b m ρ G = whileF t b n ρ G
  | 0, _, _, h, _, _ => absurd rfl h
  | n + 1, ρ, G, h, 0, hm => absurd hm (by omega)
  | n + 1, ρ, G, h, m + 1, hm => by
    unfold whileF at h ⊢
    cases k : t ρ G with
    | ex x G1 => rfl
    | no => rfl
    | ok c G1 =>
      rw [k] at h
      cases c with
      | false => rfl
      | true =>
        simp only [R.thn, if_true] at h ⊢
        cases q : b ρ G1 with
        | nx ρ' G' => rw [q] at h; exact whileF_more t b n ρ' G' h m (by omega)
        | ct ρ' G' => rw [q] at h; exact whileF_more t b n ρ' G' h m (by omega)
        | bk ρ' G' => rfl
        | rt w G' => rfl
        | ex x ρ' G' => rfl
        | no => rfl
open Classical in
noncomputable def gWhile (t : FT) (b : FS) : FS := fun ρ G => if h : ∃ n, whileF t b n ρ G ≠ .no then whileF t b h.choose ρ G else .no
theorem gWhile_of {t : FT} {b : FS} {n : Nat} {ρ : En} {G : GH} (h : whileF t b n ρ G ≠ .no) : gWhile t b ρ G = whileF t b n ρ G := by
  have e : ∃ n, whileF t b n ρ G ≠ .no := ⟨n, h⟩
  unfold gWhile
  rw [dif_pos e]
  rcases Nat.le_total n e.choose with l | l
  · exact whileF_more t b n ρ G h _ l
  · exact (whileF_more t b _ ρ G e.choose_spec _ l).symm
theorem gWhile_eq (t : FT) (b : FS) (ρ : En) (G : GH) : gWhile t b ρ G = (t ρ G).thn ρ fun k G1 => if k then (match b ρ G1 with
      | .nx ρ' G' => gWhile t b ρ' G'
      | .ct ρ' G' => gWhile t b ρ' G'
      | .bk ρ' G' => .nx ρ' G'
      | .rt w G' => .rt w G'
      | .ex x ρ' G' => .ex x ρ' G'
      | .no => .no) else .nx ρ G1 := by
  by_cases e : ∃ n, whileF t b n ρ G ≠ .no
  · obtain ⟨n, h⟩ := e
    rw [gWhile_of h]
    cases n with
    | zero => exact absurd rfl h
    | succ n =>
      unfold whileF at h ⊢
      cases k : t ρ G with
      | ex x G1 => rfl
      | no => rfl
      | ok c G1 =>
        rw [k] at h
        cases c with
        | false => rfl
        | true =>
          simp only [R.thn, if_true] at h ⊢
          cases q : b ρ G1 with
          | nx ρ' G' => rw [q] at h; exact (gWhile_of h).symm
          | ct ρ' G' => rw [q] at h; exact (gWhile_of h).symm
          | bk ρ' G' => rfl
          | rt w G' => rfl
          | ex x ρ' G' => rfl
          | no => rfl
  · have e1 : gWhile t b ρ G = .no := by unfold gWhile; rw [dif_neg e]
    rw [e1]
    have none : ∀ n, whileF t b n ρ G = .no := fun n => Classical.byContradiction fun h => e ⟨n, h⟩
    have n1 := none 1
    unfold whileF at n1
    cases k : t ρ G with
    | ex x G1 => rw [k] at n1; cases n1
    | no => rfl
    | ok c G1 =>
      cases c with
      | false => rw [k] at n1; cases n1
      | true =>
        simp only [R.thn, if_true]
        have step : ∀ n, (match b ρ G1 with
            | .nx ρ' G' => whileF t b n ρ' G'
            | .ct ρ' G' => whileF t b n ρ' G'
            | .bk ρ' G' => .nx ρ' G'
            | .rt w G' => .rt w G'
            | .ex x ρ' G' => .ex x ρ' G'
            | .no => .no) = RS.no := fun n => by
          have := none (n + 1)
          unfold whileF at this
          rw [k] at this
          simpa only [R.thn, if_true] using this
        cases q : b ρ G1 with
        | nx ρ' G' =>
          have z : ¬ ∃ n, whileF t b n ρ' G' ≠ .no := fun ⟨n, h⟩ => h (by have := step n; rwa [q] at this)
          unfold gWhile; simp only; rw [dif_neg z]
        | ct ρ' G' =>
          have z : ¬ ∃ n, whileF t b n ρ' G' ≠ .no := fun ⟨n, h⟩ => h (by have := step n; rwa [q] at this)
          unfold gWhile; simp only; rw [dif_neg z]
        | bk ρ' G' => have := step 0; rw [q] at this; cases this
        | rt w G' => have := step 0; rw [q] at this; cases this
        | ex x ρ' G' => have := step 0; rw [q] at this; cases this
        | no => rfl
section
variable {X : Cx} {Γ : Gm} {Z : WXk}
theorem fs_while {t : Expr} {b : List Stmt} {gt : FT} {gb : FS} {pos : Pos} (hp : PassesOwn (model X.prog X.w) X.A X.env X.xe) (ht : PT X t (absT Γ Z gt)) (hb : PSs X b (absS Γ Z gb)) : PS X (.While t b [] pos) (absS Γ Z (gWhile gt gb)) :=
  PS.imp (ps_while hp ht hb) fun D σ H ⟨c, ρ, e, s, en, th⟩ => by
    have hn : ∃ n, whileF gt gb n ρ c.G ≠ .no := Classical.byContradiction fun q => by
      unfold gWhile at th
      rw [dif_neg q] at th
      exact th
    obtain ⟨n, hn⟩ := hn
    rw [gWhile_of hn] at th
    refine ⟨fun m σ H => ∃ (c : Cf) (ρ : En), c.H = H ∧ SR Γ c ∧ c.En Γ ρ σ ∧ ThS Γ Z D c (whileF gt gb m ρ c.G), ⟨n, c, ρ, e, s, en, th⟩, ?_⟩
    rintro m σ H ⟨c, ρ, e, s, en, th⟩
    cases m with
    | zero => exact th.elim
    | succ m =>
      unfold whileF at th
      refine ⟨c, ρ, e, s, en, Th.mono (ThS.bind (rel := fun _ b b' => b = b') s en th) fun v c1 st ⟨c2, a, e2, st2, s2, en2, ra, q⟩ => ?_⟩
      subst ra
      cases v with
      | false => rw [← e2]; exact q c2 σ (Stp.refl c2) s2 rfl en2
      | true =>
        simp only [if_true] at q ⊢
        refine ⟨fun σ H => ∃ (c : Cf) (ρ : En), c.H = H ∧ SR Γ c ∧ c.En Γ ρ σ ∧ ThS Γ Z D c (whileF gt gb m ρ c.G), fun σ' H' h => ⟨m, Nat.lt_succ_self m, h⟩, c2, ρ, e2, s2, en2, ?_⟩
        cases k : gb ρ c2.G with
        | nx ρ' G' => rw [k] at q; exact fun c' σ' a b e' en' => ⟨c', ρ', rfl, b, en', by subst e'; exact ThS.from a q⟩
        | ct ρ' G' => rw [k] at q; exact fun c' σ' a b e' en' => ⟨c', ρ', rfl, b, en', by subst e'; exact ThS.from a q⟩
        | bk ρ' G' => rw [k] at q; exact q
        | rt w G' => rw [k] at q; exact q
        | ex x ρ' G' => rw [k] at q; exact q
        | no => rw [k] at q; exact q.elim
end

/-! ### for over items that are known -/
structure Walks (Γ : Gm) (c0 : Cf) (J : It) (ws : List W) : Prop where
  go : ∀ c, StpW c0 c → SR Γ c → ∀ i, i < ws.length → J.go i c.H
  stop : ∀ c, StpW c0 c → SR Γ c → ∀ i, ws.length ≤ i → J.stop i c.H
  yld : ∀ c, StpW c0 c → SR Γ c → ∀ i x H', i < ws.length → J.yld i c.H x H' → ∃ (w : W) (c' : Cf), ws[i]? = some w ∧ c'.H = H' ∧ Stp c c' ∧ SR Γ c' ∧ c'.G = c.G ∧ c'.Rp Γ x w
/-- what is walked: items that are known, or an owned list -/
inductive Wk where
  | vals (ws : List W)
  | own (n : Nat)
def RWk (Γ : Gm) (c : Cf) (J : It) : Wk → Prop
  | .vals ws => Walks Γ c J ws
  | .own n => ∃ a, c.ι[n]? = some a ∧ J = Itl Γ.K a
abbrev FI := En → GH → R Wk
abbrev absI (Γ : Gm) (Z : WXk) (g : FI) : TI := absG Γ Z (fun c J k => RWk Γ c J k) g
def lenO (G : GH) (n : Nat) : Nat := match G.at_ n with
  | some (.lst us) => us.length
  | _ => 0
def turnF (t : FG1) (b : FS) (w : W) (ρ : En) (G : GH) (k : En → GH → RS) : RS := match t w ρ G with
  | none => .no
  | some (ρ1, G1) => match b ρ1 G1 with
    | .nx ρ' G' => k ρ' G'
    | .ct ρ' G' => k ρ' G'
    | .bk ρ' G' => .nx ρ' G'
    | .rt w G' => .rt w G'
    | .ex x ρ' G' => .ex x ρ' G'
    | .no => .no
def forF (t : FG1) (b : FS) : List W → FS
  | [] => fun ρ G => .nx ρ G
  | w :: ws => fun ρ G => turnF t b w ρ G (forF t b ws)
/-- over an owned list: what it holds at each turn -/
def forO (n : Nat) (t : FG1) (b : FS) : Nat → Nat → FS
  | 0, i => fun ρ G => match G.at_ n with
    | some (.lst us) => if us.length ≤ i then .nx ρ G else .no
    | _ => .no
  | k + 1, i => fun ρ G => match G.at_ n with
    | some (.lst us) => match us[i]? with
      | some w => turnF t b w ρ G (forO n t b k (i + 1))
      | none => .nx ρ G
    | _ => .no
def forW (t : FG1) (b : FS) (k : Wk) : FS := match k with
  | .vals ws => forF t b ws
  | .own n => fun ρ G => forO n t b (lenO G n) 0 ρ G
def gFor (gi : FI) (t : FG1) (b : FS) : FS := fun ρ G => (gi ρ G).thn ρ fun k G1 => forW t b k ρ G1
section
variable {X : Cx} {Γ : Gm} {Z : WXk}
theorem for_ok {t : FG1} {sl : List Nat} {gb : FS} {D : Ends} {J : It} {ws : List W} {c0 : Cf} {ρ0 : En} {σ0 : L2.St} (s0 : SR Γ c0) (wk : Walks Γ c0 J ws) (en0 : c0.En Γ ρ0 σ0) (th0 : ThS Γ Z D c0 (forF t gb ws ρ0 c0.G)) :
    ∃ Wd : Nat → Nat → L2.St → Hp → Prop, (∃ m, Wd 0 m σ0 c0.H) ∧ ∀ i m σ H, Wd i m σ H →
      (J.stop i H ∧ D.nx σ H) ∨ (J.go i H ∧ ∃ N : L2.St → Hp → Prop, (∀ σ' H', N σ' H' → ∃ m', m' < m ∧ Wd (i + 1) m' σ' H') ∧ ∀ x H', J.yld i H x H' → absG1 Γ sl t x σ H' fun σ2 H2 => absS Γ Z gb { D with nx := N, ct := N, bk := D.nx } σ2 H2) := by
  refine ⟨fun i m σ H => m = ws.length - i ∧ i ≤ ws.length ∧ ∃ (c : Cf) (ρ : En), c.H = H ∧ Stp c0 c ∧ SR Γ c ∧ c.En Γ ρ σ ∧ ThS Γ Z D c (forF t gb (ws.drop i) ρ c.G), ⟨_, rfl, Nat.zero_le _, c0, ρ0, rfl, Stp.refl c0, s0, en0, th0⟩, ?_⟩
  rintro i m σ H ⟨rfl, hi, c, ρ, rfl, st, s, en, th⟩
  by_cases hlt : i < ws.length
  · have ed : ws.drop i = ws[i] :: ws.drop (i + 1) := (List.drop_eq_getElem_cons hlt)
    rw [ed] at th
    refine .inr ⟨wk.go c st.w s i hlt, fun σ H => ∃ (c : Cf) (ρ : En), c.H = H ∧ Stp c0 c ∧ SR Γ c ∧ c.En Γ ρ σ ∧ ThS Γ Z D c (forF t gb (ws.drop (i + 1)) ρ c.G), fun σ' H' h => ⟨_, by omega, rfl, hlt, h⟩, fun x H' y => ?_⟩
    obtain ⟨w, c1, ew, e1, st1, s1, eG, rw1⟩ := wk.yld c st.w s i x H' hlt y
    have ew : ws[i] = w := by rw [List.getElem?_eq_getElem hlt] at ew; exact Option.some.inj ew
    rw [ew] at th
    refine ⟨c1, ρ, w, e1, s1, st1.en s en, rw1, ?_⟩
    unfold forF turnF at th
    rw [eG]
    cases k : t w ρ c.G with
    | none => rw [k] at th; exact th.elim
    | some p =>
      obtain ⟨ρ1, G1⟩ := p
      rw [k] at th
      simp only at th ⊢
      intro c2 σ2 st2 s2 e2 en2 _
      refine ⟨c2, ρ1, rfl, s2, en2, ?_⟩
      rw [e2]
      cases q : gb ρ1 G1 with
      | nx ρ' G' => rw [q] at th; exact fun c' σ' a b e' en' => ⟨c', ρ', rfl, st.trans (st1.trans (st2.trans a)), b, en', by subst e'; exact ThS.from (st1.trans (st2.trans a)) th⟩
      | ct ρ' G' => rw [q] at th; exact fun c' σ' a b e' en' => ⟨c', ρ', rfl, st.trans (st1.trans (st2.trans a)), b, en', by subst e'; exact ThS.from (st1.trans (st2.trans a)) th⟩
      | bk ρ' G' => rw [q] at th; exact ThS.from (r := .nx ρ' G') (D := D) (Z := Z) (st1.trans st2) th
      | rt w G' => rw [q] at th; exact ThS.from (r := .rt w G') (D := D) (Z := Z) (st1.trans st2) th
      | ex x ρ' G' => rw [q] at th; exact ThS.from (r := .ex x ρ' G') (D := D) (Z := Z) (st1.trans st2) th
      | no => rw [q] at th; exact th.elim
  · have e : i = ws.length := by omega
    subst e
    rw [List.drop_length] at th
    exact .inl ⟨wk.stop c st.w s _ (Nat.le_refl _), th c σ (Stp.refl c) s rfl en⟩
theorem forO_ok {t : FG1} {sl : List Nat} {gb : FS} {D : Ends} {n k0 : Nat} {a : Addr} {c0 : Cf} {ρ0 : En} {σ0 : L2.St} (s0 : SR Γ c0) (ha : c0.ι[n]? = some a) (en0 : c0.En Γ ρ0 σ0) (th0 : ThS Γ Z D c0 (forO n t gb k0 0 ρ0 c0.G)) :
    ∃ Wd : Nat → Nat → L2.St → Hp → Prop, (∃ m, Wd 0 m σ0 c0.H) ∧ ∀ i m σ H, Wd i m σ H →
      ((Itl Γ.K a).stop i H ∧ D.nx σ H) ∨ ((Itl Γ.K a).go i H ∧ ∃ N : L2.St → Hp → Prop, (∀ σ' H', N σ' H' → ∃ m', m' < m ∧ Wd (i + 1) m' σ' H') ∧ ∀ x H', (Itl Γ.K a).yld i H x H' → absG1 Γ sl t x σ H' fun σ2 H2 => absS Γ Z gb { D with nx := N, ct := N, bk := D.nx } σ2 H2) := by
  refine ⟨fun i m σ H => ∃ (c : Cf) (ρ : En), c.H = H ∧ Stp c0 c ∧ SR Γ c ∧ c.En Γ ρ σ ∧ ThS Γ Z D c (forO n t gb m i ρ c.G), ⟨_, c0, ρ0, rfl, Stp.refl c0, s0, en0, th0⟩, ?_⟩
  rintro i m σ H ⟨c, ρ, rfl, st, s, en, th⟩
  have hn : c.ι[n]? = some a := st.pre n a ha
  have at_ : ∀ us, c.G.at_ n = some (.lst us) → ∃ xs, SqL Γ.K c.H a xs ∧ c.RpAll Γ xs us := fun us e => by
    obtain ⟨b, ho, e1, e2, r⟩ := s.obj n _ e
    rw [hn] at e1; cases e1
    cases r with
    | lst r => exact ⟨_, .inl (.inl e2), r⟩
  cases m with
  | zero =>
    unfold forO at th
    split at th
    · rename_i us e
      obtain ⟨xs, hq, r⟩ := at_ us e
      by_cases k : us.length ≤ i
      · rw [if_pos k] at th
        exact .inl ⟨⟨xs, hq, by rw [r.length]; exact k⟩, th c σ (Stp.refl c) s rfl en⟩
      · rw [if_neg k] at th; exact th.elim
    · exact th.elim
  | succ m =>
    unfold forO at th
    split at th
    · rename_i us e
      obtain ⟨xs, hq, r⟩ := at_ us e
      split at th
      · rename_i w ew
        obtain ⟨v, ev, rw1⟩ := r.get ew
        refine .inr ⟨⟨xs, v, hq, ev⟩, fun σ H => ∃ (c : Cf) (ρ : En), c.H = H ∧ Stp c0 c ∧ SR Γ c ∧ c.En Γ ρ σ ∧ ThS Γ Z D c (forO n t gb m (i + 1) ρ c.G), fun σ' H' h => ⟨m, Nat.lt_succ_self m, h⟩, fun x H' y => ?_⟩
        obtain ⟨rfl, y⟩ := y
        have := y xs hq
        rw [ev] at this
        cases this
        refine ⟨c, ρ, w, rfl, s, en, rw1, ?_⟩
        unfold turnF at th
        cases k : t w ρ c.G with
        | none => rw [k] at th; exact th.elim
        | some p =>
          obtain ⟨ρ1, G1⟩ := p
          rw [k] at th
          simp only at th ⊢
          intro c2 σ2 st2 s2 e2 en2 _
          refine ⟨c2, ρ1, rfl, s2, en2, ?_⟩
          rw [e2]
          cases q : gb ρ1 G1 with
          | nx ρ' G' => rw [q] at th; exact fun c' σ' a b e' en' => ⟨c', ρ', rfl, st.trans (st2.trans a), b, en', by subst e'; exact ThS.from (st2.trans a) th⟩
          | ct ρ' G' => rw [q] at th; exact fun c' σ' a b e' en' => ⟨c', ρ', rfl, st.trans (st2.trans a), b, en', by subst e'; exact ThS.from (st2.trans a) th⟩
          | bk ρ' G' => rw [q] at th; exact ThS.from (r := .nx ρ' G') (D := D) (Z := Z) st2 th
          | rt w G' => rw [q] at th; exact ThS.from (r := .rt w G') (D := D) (Z := Z) st2 th
          | ex x ρ' G' => rw [q] at th; exact ThS.from (r := .ex x ρ' G') (D := D) (Z := Z) st2 th
          | no => rw [q] at th; exact th.elim
      · rename_i ew
        have hl : us.length ≤ i := List.getElem?_eq_none_iff.mp ew
        exact .inl ⟨⟨xs, hq, by rw [r.length]; exact hl⟩, th c σ (Stp.refl c) s rfl en⟩
    · exact th.elim
theorem fs_for {tg iter : Expr} {b : List Stmt} {gi : FI} {t : FG1} {sl : List Nat} {gb : FS} {pos : Pos} (hp : PassesOwn (model X.prog X.w) X.A X.env X.xe) (hc : X.calm = true) (hi : PI X tg iter (absI Γ Z gi)) (ht : PG X tg (absG1 Γ sl t)) (hb : PSs X b (absS Γ Z gb))
    (hs : ∀ x, foldedSetIterable iter X.env x = pure x := by intro _; rfl) : PS X (.For tg iter b [] pos) (absS Γ Z (gFor gi t gb)) :=
  PS.imp (ps_for hp hc hi ht hb hs) fun D σ H q => by
    obtain ⟨c, ρ, e, s, en, th⟩ := absS.bind (rel := fun c J k => RWk Γ c J k) q
    refine ⟨c, ρ, e, s, en, Th.mono th fun J c1 st ⟨c2, ρ2, k, e2, s2, en2, wk, q⟩ => ?_⟩
    rw [← e2]
    cases k with
    | vals ws => exact for_ok s2 wk en2 q
    | own n =>
      obtain ⟨a, ha, rfl⟩ := wk
      exact forO_ok s2 ha en2 q

/-! ### what is walked -/
theorem PI.imp {tg e : Expr} {t t' : TI} (h : PI X tg e t) (m : ∀ σ H R, t' σ H R → t σ H R) : PI X tg e t' := ⟨fun pins s σ H R I q => h.run pins s σ H R I (m σ H R q)⟩
theorem lstWalks {c : Cf} {a : Addr} {xs : List V} {ws : List W} (k : ∀ c', StpW c c' → SR Γ c' → SqL Γ.K c'.H a xs) (r : c.RpAll Γ xs ws) (s : SR Γ c) : Walks Γ c (Itl Γ.K a) ws where
  go := fun c' st s' i hi => ⟨xs, xs[i]'(by rw [r.length]; exact hi), k c' st s', List.getElem?_eq_getElem _⟩
  stop := fun c' st s' i hi => ⟨xs, k c' st s', by rw [r.length]; exact hi⟩
  yld := fun c' st s' i x H' hi ⟨e, y⟩ => by
    subst e
    obtain ⟨w, ew, rw1⟩ := r.getV (y xs (k c' st s'))
    exact ⟨w, c', ew, rfl, Stp.refl c', s', rfl, st.rp s rw1⟩
theorem tupWalks {c : Cf} {a : Addr} {xs : List V} {ws : List W} (h : SqT Γ.K c.H a xs) (r : c.RpAll Γ xs ws) (s : SR Γ c) : Walks Γ c (Itt Γ.K a) ws where
  go := fun c' st s' i hi => ⟨xs, xs[i]'(by rw [r.length]; exact hi), st.sqT s h, List.getElem?_eq_getElem _⟩
  stop := fun c' st s' i hi => ⟨xs, st.sqT s h, by rw [r.length]; exact hi⟩
  yld := fun c' st s' i x H' hi ⟨e, y⟩ => by
    subst e
    obtain ⟨w, ew, rw1⟩ := r.getV (y xs (st.sqT s h))
    exact ⟨w, c', ew, rfl, Stp.refl c', s', rfl, st.rp s rw1⟩
def iSeqA (K : PySem.W.Frag) (tl : TE) : TI := fun σ H R => tl σ H fun x H1 => ∃ a, x = .ref a ∧ ((∃ xs, SqL K H1 a xs) ∧ R (Itl K a) H1 ∨ (∃ xs, SqT K H1 a xs) ∧ R (Itt K a) H1)
theorem pi_seqA {tg l : Expr} {tl : TE} (hl : PE X l tl) : PI X tg l (iSeqA X.K tl) := by
  refine ⟨fun pins s σ H R I h => ?_⟩
  refine thn (hl.run pins s σ H _ I h) fun v s1 ⟨x, H1, I1, r1, q1⟩ => ?_
  obtain ⟨a, e, q⟩ := q1
  subst e
  cases r1
  rcases q with ⟨⟨xs, hq⟩, q⟩ | ⟨⟨xs, hq⟩, q⟩
  · obtain ⟨its, rv, p, hz⟩ := I1.list hq
    refine wpAny_pyIter_list p.isList ?_
    refine ⟨s1.heap.objs.size, [s1.heap.objs.size], _, _, H1, rfl, I1.kept (t' := s1.toks) fun b o e => Heap.get?_push_of_some _ e, turn_list a _, ⟨_, Heap.get?_push_size _ rfl, rfl, rfl⟩, fun b hb => ?_, q⟩
    have e : b = s1.heap.objs.size := by simpa using hb
    subst e
    exact I1.fpOk (Nat.le_refl _) (I1.hok.fresh (Nat.le_refl _))
  · obtain ⟨its, rv, p, hz⟩ := I1.tuple hq
    refine wpAny_pyIter_tuple (show s1.heap.IsTuple a its.toArray from p) ?_
    refine ⟨s1.heap.objs.size, [s1.heap.objs.size], _, _, H1, rfl, I1.kept (t' := s1.toks) fun b o e => Heap.get?_push_of_some _ e, turn_tuple a _, ⟨_, Heap.get?_push_size _ rfl, rfl, rfl⟩, fun b hb => ?_, q⟩
    have e : b = s1.heap.objs.size := by simpa using hb
    subst e
    exact I1.fpOk (Nat.le_refl _) (I1.hok.fresh (Nat.le_refl _))
/-- a list or a tuple, or an owned list -/
def asSeq (w : W) (G : GH) : R Wk := match w with
  | .lst ws => .ok (.vals ws) G
  | .tup ws => .ok (.vals ws) G
  | .ref n => match G.at_ n with
    | some (.lst _) => .ok (.own n) G
    | _ => .no
  | _ => .no
def iSeq (g : FE) : FI := fun ρ G => (g ρ G).bind asSeq
theorem fi_seq {tg e : Expr} {g : FE} (h : PE X e (absE Γ Z g)) (hK : Γ.K = X.K := by rfl) : PI X tg e (absI Γ Z (iSeq g)) := PI.imp (pi_seqA h) fun σ H R q => by
  obtain ⟨c, ρ, e, s, en, th⟩ := absG.bind q
  refine ⟨c, ρ, e, s, en, Th.mono th fun v c1 st ⟨c2, ρ2, a, e2, s2, en2, ra, q⟩ => ?_⟩
  rw [← e2]
  cases ra with
  | tup h r => exact ⟨_, rfl, .inr ⟨⟨_, hK ▸ h⟩, hK ▸ q c2 _ (Stp.refl c2) s2 rfl (tupWalks h r s2)⟩⟩
  | lst h n r => exact ⟨_, rfl, .inl ⟨⟨_, by rw [← hK]; exact .inl h⟩, hK ▸ q c2 _ (Stp.refl c2) s2 rfl (lstWalks (fun c' st' s' => .inl (st'.rd n h)) r s2)⟩⟩
  | lstK h1 h2 h3 h4 h5 h6 r => exact ⟨_, rfl, .inl ⟨⟨_, by rw [← hK]; exact .inr ⟨_, _, _, h1, h2, h3, h4, h5, h6⟩⟩, hK ▸ q c2 _ (Stp.refl c2) s2 rfl (lstWalks (fun c' st' s' => .inr ⟨_, _, _, h1, h2, h3, h4, h5, h6⟩) r s2)⟩⟩
  | @ref n a h1 =>
    unfold asSeq at q
    simp only at q
    split at q
    · rename_i us e
      obtain ⟨b, ho, e1, e2, r⟩ := s2.obj n _ e
      rw [h1] at e1; cases e1
      cases r with
      | lst r => exact ⟨_, rfl, .inl ⟨⟨_, by rw [← hK]; exact .inl (.inl e2)⟩, hK ▸ q c2 _ (Stp.refl c2) s2 rfl ⟨_, h1, rfl⟩⟩⟩
    · exact q.elim
  | _ => exact q.elim
/-- lo, lo + 1, .. -/
def rngW (lo : Int) : Nat → List W
  | 0 => []
  | n + 1 => .int lo :: rngW (lo + 1) n
theorem rngW_length : ∀ (n : Nat) (lo : Int), (rngW lo n).length = n
  | 0, _ => rfl
  | n + 1, lo => by rw [rngW, List.length_cons, rngW_length n]
theorem rngW_get : ∀ (n : Nat) (lo : Int) (i : Nat), i < n → (rngW lo n)[i]? = some (.int (lo + i))
  | 0, _, _, h => absurd h (by omega)
  | n + 1, lo, 0, _ => by simp [rngW]
  | n + 1, lo, i + 1, h => by
    rw [rngW, List.getElem?_cons_succ, rngW_get n (lo + 1) i (by omega)]
    congr 2
    omega
theorem rngWalks {c : Cf} {lo : Int} {n : Nat} : Walks Γ c (Itr lo n) (rngW lo n) where
  go := fun c' st s' i hi => by rw [rngW_length] at hi; exact hi
  stop := fun c' st s' i hi => by rw [rngW_length] at hi; exact hi
  yld := fun c' st s' i x H' hi ⟨e, y⟩ => by
    subst e y
    rw [rngW_length] at hi
    exact ⟨_, c', rngW_get n lo i hi, rfl, Stp.refl c', s', rfl, .int _⟩
def small62 (i : Int) : Bool := decide (-(2 ^ 62) ≤ i) && decide (i < 2 ^ 62)
def asRng1 (ws : List W) (G : GH) : R Wk := match ws with
  | [.int j] => if small62 j then .ok (.vals (rngW 0 j.toNat)) G else .no
  | _ => .no
def asRng2 (ws : List W) (G : GH) : R Wk := match ws with
  | [.int i, .int j] => if small62 i && small62 j then .ok (.vals (rngW i (j - i).toNat)) G else .no
  | _ => .no
def iRng (f : List W → GH → R Wk) (g : FA) : FI := fun ρ G => (g ρ G).bind f
theorem small62_ok {i : Int} (h : small62 i = true) : -(2 ^ 62) ≤ i ∧ i < 2 ^ 62 := by
  unfold small62 at h
  simpa only [Bool.and_eq_true, decide_eq_true_eq] using h
theorem RpAll.one {c : Cf} {vs : List V} {w : W} (r : c.RpAll Γ vs [w]) : ∃ v, vs = [v] ∧ c.Rp Γ v w := by
  cases r with
  | cons h t => cases t; exact ⟨_, rfl, h⟩
theorem RpAll.two {c : Cf} {vs : List V} {w u : W} (r : c.RpAll Γ vs [w, u]) : ∃ v x, vs = [v, x] ∧ c.Rp Γ v w ∧ c.Rp Γ x u := by
  cases r with
  | cons h t => obtain ⟨x, e, h2⟩ := RpAll.one (c := c) t; subst e; exact ⟨_, _, rfl, h, h2⟩
theorem Rp.int_of {c : Cf} {v : V} {i : Int} (r : c.Rp Γ v (.int i)) : v = .int i := by cases r; rfl
theorem Rp.str_of {c : Cf} {v : V} {i : Str} (r : c.Rp Γ v (.str i)) : v = .str i := by cases r; rfl
theorem Rp.bl_of {c : Cf} {v : V} {i : Bool} (r : c.Rp Γ v (.bl i)) : v = .bl i := by cases r; rfl
theorem Rp.non_of {c : Cf} {v : V} (r : c.Rp Γ v .non) : v = .non := by cases r; rfl
theorem fi_rng1 {tg a : Expr} {g : FA} {p pos : Pos} (hg : Gl X "range") (hm : X.mg "range" = none) (ha : PA X [a] (absA Γ Z g)) (hs : starEach [a] X.env = [(false, eval a X.env)] := by rfl) : PI X tg (.Call (.Name "range" p) [a] [] pos) (absI Γ Z (iRng asRng1 g)) :=
  PI.imp (pi_range1 hg hm ha hs) fun σ H R q => by
    obtain ⟨c, ρ, e, s, en, th⟩ := absG.bind q
    refine ⟨c, ρ, e, s, en, Th.mono th fun v c1 st ⟨c2, ρ2, ws, e2, s2, en2, ra, q⟩ => ?_⟩
    rw [← e2]
    unfold asRng1 at q
    split at q
    · rename_i j
      obtain ⟨v, rfl, r1⟩ := RpAll.one (c := c2) ra
      cases Rp.int_of (c := c2) r1
      by_cases k : small62 j = true
      · rw [if_pos k] at q
        exact ⟨j, rfl, (small62_ok k).1, (small62_ok k).2, q c2 _ (Stp.refl c2) s2 rfl rngWalks⟩
      · rw [if_neg k] at q
        exact q.elim
    · exact q.elim
theorem fi_rng2 {tg a b : Expr} {g : FA} {p pos : Pos} (hg : Gl X "range") (hm : X.mg "range" = none) (ha : PA X [a, b] (absA Γ Z g)) (hs : starEach [a, b] X.env = [(false, eval a X.env), (false, eval b X.env)] := by rfl) (hs2 : starEach [b] X.env = [(false, eval b X.env)] := by rfl) :
    PI X tg (.Call (.Name "range" p) [a, b] [] pos) (absI Γ Z (iRng asRng2 g)) :=
  PI.imp (pi_range2 hg hm ha hs hs2) fun σ H R q => by
    obtain ⟨c, ρ, e, s, en, th⟩ := absG.bind q
    refine ⟨c, ρ, e, s, en, Th.mono th fun v c1 st ⟨c2, ρ2, ws, e2, s2, en2, ra, q⟩ => ?_⟩
    rw [← e2]
    unfold asRng2 at q
    split at q
    · rename_i i j
      obtain ⟨v, x, rfl, r1, r2⟩ := RpAll.two (c := c2) ra
      cases Rp.int_of (c := c2) r1
      cases Rp.int_of (c := c2) r2
      by_cases k : (small62 i && small62 j) = true
      · rw [if_pos k] at q
        simp only [Bool.and_eq_true] at k
        exact ⟨i, j, rfl, ⟨(small62_ok k.1).1, (small62_ok k.1).2, (small62_ok k.2).1, (small62_ok k.2).2⟩, q c2 _ (Stp.refl c2) s2 rfl rngWalks⟩
      · rw [if_neg k] at q
        exact q.elim
    · exact q.elim
end
end Fn

set_option Elab.async false
set_option linter.all false
set_option maxRecDepth 100000
namespace Fn
open PySem PySem.Spec PyProof.Rows L2

abbrev Z0 : WXk := fun _ _ _ _ => False
def R.calm {α : Type} (r : R α) : R α := match r with
  | .ok a G => .ok a G
  | _ => .no
theorem R.calm_th {α β : Type} {Γ : Gm} {E E' : XK} {rel : Cf → β → α → Prop} {c : Cf} {Q : β → Hp → Prop} {r : R α} (h : Th Γ E rel c Q r.calm) : Th Γ E' rel c Q r := by
  cases r with
  | ok a G => exact h
  | ex x G => exact h.elim
  | no => exact h.elim
def wipeW (ρ : En) : List Nat → En
  | [] => ρ
  | v :: vs => (wipeW ρ vs).set v none
theorem wipeW_en {Γ : Gm} {c : Cf} {ρ : En} {σ : L2.St} (h : c.En Γ ρ σ) : ∀ vs, c.En Γ (wipeW ρ vs) (wipe σ vs)
  | [] => h
  | v :: vs => by
    have ih := wipeW_en h vs
    refine ⟨by rw [wipeW, wipe, List.length_set, List.length_set]; exact ih.1, fun i w e => ?_⟩
    rw [wipeW] at e
    rw [wipe]
    by_cases hi : v = i
    · subst hi
      by_cases hv : v < (wipeW ρ vs).length
      · rw [List.getElem?_set_self hv] at e; cases e
      · rw [List.getElem?_eq_none (by rw [List.length_set]; omega)] at e; cases e
    · rw [List.getElem?_set_ne hi] at e
      rw [List.getElem?_set_ne hi]
      exact ih.2 i w e
theorem wipe_none {σ : L2.St} {i : Nat} : ∀ {vs : List Nat}, i ∈ vs → i < σ.length → (wipe σ vs)[i]? = some none
  | v :: vs, h, hl => by
    rw [wipe]
    by_cases e : v = i
    · subst e
      exact List.getElem?_set_self (by rw [wipe_length]; exact hl)
    · rw [List.getElem?_set_ne e]
      exact wipe_none (by rcases List.mem_cons.mp h with z | z; exact absurd z.symm e; exact z) hl
theorem wipe_agr {σ σ' : L2.St} {vs sl : List Nat} (h : Agr sl (wipe σ vs) σ') (hs : ∀ i ∈ sl, i ∈ vs) : wipe σ' vs = wipe σ vs := by
  have hl : σ'.length = σ.length := by rw [h.1, wipe_length]
  apply List.ext_getElem?
  intro i
  by_cases hi : i ∈ vs
  · by_cases hb : i < σ.length
    · rw [wipe_none hi (by rw [hl]; exact hb), wipe_none hi hb]
    · rw [List.getElem?_eq_none (by rw [wipe_length]; omega), List.getElem?_eq_none (by rw [wipe_length]; omega)]
  · rw [wipe_out hi, h.2 i fun z => hi (hs i z)]

/-- one turn: the item, its test, its element -/
def lcTurn (t : FG1) (tt : FT) (te : FE) (ρw : En) (w : W) (G : GH) : R (Option W) := match t w ρw G with
  | none => .no
  | some (ρ1, G1) => (tt ρ1 G1).calm.bind fun b G2 => if b then (te ρ1 G2).calm.bind fun y G3 => .ok (some y) G3 else .ok none G2
def addO : Option W → List W → List W
  | some y, r => y :: r
  | none, r => r
def lcF (t : FG1) (tt : FT) (te : FE) (ρw : En) : List W → GH → R (List W)
  | [], G => .ok [] G
  | w :: ws, G => (lcTurn t tt te ρw w G).bind fun o G1 => (lcF t tt te ρw ws G1).bind fun rest G2 => .ok (addO o rest) G2
/-- over an owned list -/
def lcO (n : Nat) (t : FG1) (tt : FT) (te : FE) (ρw : En) : Nat → Nat → GH → R (List W)
  | 0, i, G => match G.at_ n with
    | some (.lst us) => if us.length ≤ i then .ok [] G else .no
    | _ => .no
  | k + 1, i, G => match G.at_ n with
    | some (.lst us) => match us[i]? with
      | some w => (lcTurn t tt te ρw w G).bind fun o G1 => (lcO n t tt te ρw k (i + 1) G1).bind fun rest G2 => .ok (addO o rest) G2
      | none => .ok [] G
    | _ => .no
def lcW (t : FG1) (tt : FT) (te : FE) (ρw : En) (k : Wk) (G : GH) : R (List W) := match k with
  | .vals ws => lcF t tt te ρw ws G
  | .own n => lcO n t tt te ρw (lenO G n) 0 G
def gLc (own : Bool) (gi : FI) (t : FG1) (tt : FT) (te : FE) (vs : List Nat) : FE := fun ρ G => (gi ρ G).bind fun k G1 => (lcW t tt te (wipeW ρ vs) k G1).calm.bind fun r G2 => if r.length ≤ sizeLine then mkL own r G2 else .no

section
variable {X : Cx} {Γ : Gm} {Z : WXk}
/-- a list is hidden -/
theorem hide {c : Cf} (s : SR Γ c) {p : Addr} (hp : c.H p = none) (xs : List V) : StpW c ⟨c.ι, c.G, upd c.H p (.lst xs), fun a => c.B a ∨ a = p⟩ ∧ SR Γ ⟨c.ι, c.G, upd c.H p (.lst xs), fun a => c.B a ∨ a = p⟩ := by
  have np : p ∉ c.ι := fun h => s.all p h hp
  have st : StpW c ⟨c.ι, c.G, upd c.H p (.lst xs), fun a => c.B a ∨ a = p⟩ := ⟨fun _ _ h => h, fun a o h _ => by
      show upd c.H p _ a = some o
      rw [upd_ne (ne_of_none h hp)]; exact h, fun a h => by
      show upd c.H p _ a ≠ none
      by_cases e : a = p
      · subst e; rw [upd_same]; simp
      · rw [upd_ne e]; exact h, fun a h => by
      rcases h with h | h | h
      · exact .inl (.inl h)
      · exact .inl (.inr h)
      · exact .inr (h ▸ hp)⟩
  refine ⟨st, ⟨s.len, s.nd, fun a h => st.there a (s.all a h), fun n o h => ?_, fun a h => ?_⟩⟩
  · obtain ⟨a, q, e1, e2, r⟩ := s.obj n o h
    exact ⟨a, q, e1, by show upd c.H p _ a = some q; rw [upd_ne (ne_of_none e2 hp)]; exact e2, r.stpW s st⟩
  · rcases h with h | h
    · obtain ⟨⟨ys, e⟩, na⟩ := s.hid a h
      exact ⟨⟨ys, by show upd c.H p _ a = _; rw [upd_ne (ne_of_none e hp)]; exact e⟩, na⟩
    · subst h
      exact ⟨⟨xs, upd_same⟩, np⟩
/-- a hidden list is written -/
theorem hidSet {c : Cf} (s : SR Γ c) {p : Addr} (hp : c.B p) (ys : List V) : StpW c ⟨c.ι, c.G, upd c.H p (.lst ys), c.B⟩ ∧ SR Γ ⟨c.ι, c.G, upd c.H p (.lst ys), c.B⟩ := by
  obtain ⟨⟨xs, ep⟩, np⟩ := s.hid p hp
  have st : StpW c ⟨c.ι, c.G, upd c.H p (.lst ys), c.B⟩ := ⟨fun _ _ h => h, fun a o h n => by
      show upd c.H p _ a = some o
      rw [upd_ne (show a ≠ p from fun e => n (.inr (e ▸ hp)))]; exact h, fun a h => by
      show upd c.H p _ a ≠ none
      by_cases e : a = p
      · subst e; rw [upd_same]; simp
      · rw [upd_ne e]; exact h, fun a h => .inl h⟩
  refine ⟨st, ⟨s.len, s.nd, fun a h => st.there a (s.all a h), fun n o h => ?_, fun a h => ?_⟩⟩
  · obtain ⟨a, q, e1, e2, r⟩ := s.obj n o h
    refine ⟨a, q, e1, ?_, r.stpW s st⟩
    show upd c.H p _ a = some q
    rw [upd_ne (show a ≠ p from fun e => np (e ▸ List.mem_of_getElem? e1))]; exact e2
  · by_cases e : a = p
    · subst e; exact ⟨⟨ys, upd_same⟩, np⟩
    · obtain ⟨⟨zs, e1⟩, na⟩ := s.hid a h
      exact ⟨⟨zs, by show upd c.H p _ a = _; rw [upd_ne e]; exact e1⟩, na⟩
/-- a hidden list is a value, or owned -/
theorem unhide {c0 c : Cf} {p : Addr} {xs : List V} {ws : List W} {own : Bool} {E : XK} {Q : V → Hp → Prop} (s0 : SR Γ c0) (hp : c0.H p = none) (s : SR Γ c) (st : StpW c0 c) (kp : ∀ a o, c0.H a = some o → ¬ c0.Ow a → c.H a = some o) (hB : c.B = fun a => c0.B a ∨ a = p) (hx : c.H p = some (.lst xs)) (r : c.RpAll Γ xs ws)
    (h : Th Γ E (Cf.Rp Γ) c0 Q (mkL own ws c.G)) : Q (.ref p) c.H := by
  have np : p ∉ c.ι := (s.hid p (by rw [hB]; exact .inr rfl)).2
  have nB0 : ¬ c0.B p := fun z => by
    obtain ⟨⟨xs, e⟩, _⟩ := s0.hid p z
    rw [hp] at e; cases e
  have owS : ∀ a, c.Ow a → c0.Ow a ∨ c0.H a = none := fun a z => by
    rcases st.own a (.inl z) with (q | q) | q
    · exact .inl q
    · exact absurd (show a ∈ c.ι from by obtain ⟨n, o, _, e⟩ := z; exact List.mem_of_getElem? e) (s.hid a (by rw [hB]; exact .inl q)).2
    · exact .inr q
  cases own with
  | false =>
    -- the list is a value
    have st1 : Stp c0 ⟨c.ι, c.G, c.H, c0.B⟩ := ⟨st.pre, kp, st.there, owS, rfl⟩
    have wk : StpW c ⟨c.ι, c.G, c.H, c0.B⟩ := ⟨fun _ _ h => h, fun _ _ h _ => h, fun _ h => h, fun a z => by
      rcases z with z | z
      · exact .inl (.inl z)
      · exact .inl (.inr (by rw [hB]; exact .inl z))⟩
    have s1 : SR Γ ⟨c.ι, c.G, c.H, c0.B⟩ := ⟨s.len, s.nd, s.all, fun n o e => by
      obtain ⟨a, q, e1, e2, r⟩ := s.obj n o e
      exact ⟨a, q, e1, e2, r.stpW s wk⟩, fun a z => s.hid a (by rw [hB]; exact .inl z)⟩
    refine h ⟨c.ι, c.G, c.H, c0.B⟩ _ st1 s1 rfl (.lst (.inl hx) (fun z => ?_) (wk.rpAll s r))
    rcases z with ⟨n, o, _, e⟩ | z
    · exact np (List.mem_of_getElem? e)
    · exact nB0 z
  | true =>
    have pre : ∀ (n : Nat) (a : Addr), c.ι[n]? = some a → (c.ι ++ [p])[n]? = some a := fun n a h => by
      rw [List.getElem?_append_left (List.getElem?_eq_some_iff.mp h).1]; exact h
    have owN : ∀ a, Own (c.ι ++ [p]) (c.G.push (.lst ws)) a → c.Ow a ∨ a = p := fun a ⟨n, u, h1, h2⟩ => by
      have h1 : (if n = c.G.n then some (AO.lst ws) else c.G.at_ n) = some u := h1
      by_cases e : n = c.G.n
      · subst e
        rw [← s.len, List.getElem?_append_right (Nat.le_refl _), Nat.sub_self] at h2
        cases h2
        exact .inr rfl
      · rw [if_neg e] at h1
        obtain ⟨b, _, e1, _, _⟩ := s.obj n u h1
        rw [pre n b e1] at h2
        cases h2
        exact .inl ⟨n, u, h1, e1⟩
    have st1 : Stp c0 ⟨c.ι ++ [p], c.G.push (.lst ws), c.H, c0.B⟩ := ⟨fun n a e => pre n a (st.pre n a e), kp, st.there, fun a z => by
      rcases owN a z with z | z
      · exact owS a z
      · exact .inr (z ▸ hp), rfl⟩
    have wk : StpW c ⟨c.ι ++ [p], c.G.push (.lst ws), c.H, c0.B⟩ := ⟨pre, fun _ _ h _ => h, fun _ h => h, fun a z => by
      rcases z with z | z
      · rcases owN a z with z | z
        · exact .inl (.inl z)
        · exact .inl (.inr (by rw [hB]; exact .inr z))
      · exact .inl (.inr (by rw [hB]; exact .inl z))⟩
    have s1 : SR Γ ⟨c.ι ++ [p], c.G.push (.lst ws), c.H, c0.B⟩ := by
      refine ⟨by show (c.ι ++ [p]).length = c.G.n + 1; rw [List.length_append, s.len]; rfl, ?_, fun a z => ?_, fun n u e => ?_, fun a z => ?_⟩
      · refine List.nodup_append.mpr ⟨s.nd, by simp, fun a ha b hb => ?_⟩
        have : b = p := by simpa using hb
        subst this
        exact fun e => np (e ▸ ha)
      · rcases List.mem_append.mp z with z | z
        · exact s.all a z
        · have : a = p := by simpa using z
          subst this
          show c.H a ≠ none
          rw [hx]; simp
      · have e : (if n = c.G.n then some (AO.lst ws) else c.G.at_ n) = some u := e
        by_cases k : n = c.G.n
        · subst k
          rw [if_pos rfl] at e
          cases e
          exact ⟨p, _, new_own_at s p, hx, .lst (wk.rpAll s r)⟩
        · rw [if_neg k] at e
          obtain ⟨a, q, e1, e2, r'⟩ := s.obj n u e
          exact ⟨a, q, pre n a e1, e2, r'.stpW s wk⟩
      · obtain ⟨e, na⟩ := s.hid a (by rw [hB]; exact .inl z)
        refine ⟨e, fun m => ?_⟩
        rcases List.mem_append.mp m with m | m
        · exact na m
        · have : a = p := by simpa using m
          exact nB0 (this ▸ z)
    exact h ⟨c.ι ++ [p], c.G.push (.lst ws), c.H, c0.B⟩ _ st1 s1 rfl (.ref (new_own_at s p))

theorem lc_ok {own : Bool} {t : FG1} {sl vs : List Nat} {tt : FT} {te : FE} {J : It} {ws : List W} {c0 : Cf} {ρ0 : En} {σ0 : L2.St} {E : XK} {Q : V → Hp → Prop} (hsl : ∀ i ∈ sl, i ∈ vs) (s0 : SR Γ c0) (wk : Walks Γ c0 J ws) (en0 : c0.En Γ ρ0 σ0)
    (th0 : Th Γ E (Cf.Rp Γ) c0 Q ((lcF t tt te (wipeW ρ0 vs) ws c0.G).calm.bind fun r G2 => if r.length ≤ sizeLine then mkL own r G2 else .no)) {D : Addr} (hD : c0.H D = none) :
    ∃ Wd : Nat → Nat → Hp → Prop, (∃ m, Wd 0 m (upd c0.H D (.lst []))) ∧ ∀ i m H, Wd i m H →
      (J.stop i H ∧ Q (.ref D) H) ∨ (J.go i H ∧ ∃ Nx : Hp → Prop, (∀ H', Nx H' → ∃ m', m' < m ∧ Wd (i + 1) m' H') ∧ ∀ x H', J.yld i H x H' → absG1 Γ sl t x (wipe σ0 vs) H' fun σ2 H2 => wipe σ2 vs = wipe σ0 vs ∧ absT Γ Z0 tt σ2 H2 fun b H3 =>
        if b = true then absE Γ Z0 te σ2 H3 fun y H4 => ∃ acc, H4 D = some (.lst acc) ∧ acc.length < sizeLine ∧ Nx (upd H4 D (.lst (acc ++ [y]))) else Nx H3) := by
  -- what holds ahead of turn i
  refine ⟨fun i m H => m = ws.length - i ∧ i ≤ ws.length ∧ ∃ (c : Cf) (xs : List V) (acc : List W), c.H = H ∧ SR Γ c ∧ StpW c0 c ∧ (∀ a o, c0.H a = some o → ¬ c0.Ow a → c.H a = some o) ∧ (c.B = fun a => c0.B a ∨ a = D) ∧ c.H D = some (.lst xs) ∧ c.RpAll Γ xs acc ∧
    Th Γ E (Cf.Rp Γ) c0 Q ((lcF t tt te (wipeW ρ0 vs) (ws.drop i) c.G).calm.bind fun r G2 => if (acc ++ r).length ≤ sizeLine then mkL own (acc ++ r) G2 else .no), ?_, ?_⟩
  · obtain ⟨st1, s1⟩ := hide s0 hD []
    refine ⟨_, rfl, Nat.zero_le _, ⟨c0.ι, c0.G, upd c0.H D (.lst []), fun a => c0.B a ∨ a = D⟩, [], [], rfl, s1, st1, fun a o e _ => ?_, rfl, upd_same, .nil, by simpa using th0⟩
    show upd c0.H D _ a = some o
    rw [upd_ne (ne_of_none e hD)]; exact e
  · rintro i m H ⟨rfl, hi, c, xs, acc, rfl, s, st, kp, hB, hx, rx, th⟩
    by_cases hlt : i < ws.length
    · have ed : ws.drop i = ws[i] :: ws.drop (i + 1) := (List.drop_eq_getElem_cons hlt)
      rw [ed] at th
      refine .inr ⟨wk.go c st s i hlt, fun H => ∃ (c : Cf) (xs : List V) (acc : List W), c.H = H ∧ SR Γ c ∧ StpW c0 c ∧ (∀ a o, c0.H a = some o → ¬ c0.Ow a → c.H a = some o) ∧ (c.B = fun a => c0.B a ∨ a = D) ∧ c.H D = some (.lst xs) ∧ c.RpAll Γ xs acc ∧
        Th Γ E (Cf.Rp Γ) c0 Q ((lcF t tt te (wipeW ρ0 vs) (ws.drop (i + 1)) c.G).calm.bind fun r G2 => if (acc ++ r).length ≤ sizeLine then mkL own (acc ++ r) G2 else .no), fun H' h => ⟨_, by omega, rfl, hlt, h⟩, fun x H' y => ?_⟩
      obtain ⟨w, c1, ew, e1, st1, s1, eG, rw1⟩ := wk.yld c st s i x H' hlt y
      have ew : ws[i] = w := by rw [List.getElem?_eq_getElem hlt] at ew; exact Option.some.inj ew
      rw [ew] at th
      have oB : ¬ c.Ow D := fun ⟨n, o, _, e⟩ => (s.hid D (by rw [hB]; exact .inr rfl)).2 (List.mem_of_getElem? e)
      -- a state that is a step on keeps all this
      have on : ∀ c', Stp c c' → SR Γ c' → StpW c0 c' ∧ (∀ a o, c0.H a = some o → ¬ c0.Ow a → c'.H a = some o) ∧ (c'.B = fun a => c0.B a ∨ a = D) ∧ c'.H D = some (.lst xs) ∧ c'.RpAll Γ xs acc := fun c' st' s' =>
        ⟨st.trans st'.w, (fun a o e n => by
          refine st'.keep a o (kp a o e n) fun z => ?_
          rcases st.own a (.inl z) with (q | q) | q
          · exact n q
          · exact (s.hid a (by rw [hB]; exact .inl q)).2 (by obtain ⟨n, o, _, e⟩ := z; exact List.mem_of_getElem? e)
          · rw [q] at e; cases e), st'.bl.trans hB, st'.keep D _ hx oB, st'.rpAll s rx⟩
      refine ⟨c1, wipeW ρ0 vs, w, e1, s1, wipeW_en (st1.en s (st.en s0 en0)) vs, rw1, ?_⟩
      unfold lcF lcTurn at th
      rw [eG]
      cases k : t w (wipeW ρ0 vs) c.G with
      | none => rw [k] at th; exact th.elim
      | some p =>
        obtain ⟨ρ1, G1⟩ := p
        rw [k] at th
        simp only at th ⊢
        intro c2 σ2 st2 s2 e2 en2 ag
        refine ⟨wipe_agr ag hsl, c2, ρ1, rfl, s2, en2, ?_⟩
        rw [e2]
        cases kt : tt ρ1 G1 with
        | ex x G2 => rw [kt] at th; exact th.elim
        | no => rw [kt] at th; exact th.elim
        | ok b G2 =>
          rw [kt] at th
          intro c3 b' st3 s3 e3 eb
          subst eb
          have st13 : Stp c c3 := st1.trans (st2.trans st3)
          cases b' with
          | false =>
            rw [if_neg Bool.false_ne_true]
            obtain ⟨a1, a2, a3, a4, a5⟩ := on c3 st13 s3
            refine ⟨c3, xs, acc, rfl, s3, a1, a2, a3, a4, a5, ?_⟩
            rw [e3]
            simp only [R.calm, R.bind, Bool.false_eq_true, if_false] at th
            cases q : lcF t tt te (wipeW ρ0 vs) (ws.drop (i + 1)) G2 with
            | ok r G3 => rw [q] at th; exact th
            | ex x G3 => rw [q] at th; exact th.elim
            | no => rw [q] at th; exact th.elim
          | true =>
            rw [if_pos rfl]
            refine ⟨c3, ρ1, rfl, s3, st3.en s2 en2, ?_⟩
            rw [e3]
            simp only [R.calm, R.bind, if_true] at th
            cases kv : te ρ1 G2 with
            | ex x G3 => rw [kv] at th; exact th.elim
            | no => rw [kv] at th; exact th.elim
            | ok y G3 =>
              rw [kv] at th
              simp only at th
              intro c4 v st4 s4 e4 rv
              have st14 : Stp c c4 := st13.trans st4
              obtain ⟨a1, a2, a3, a4, a5⟩ := on c4 st14 s4
              have hBD : c4.B D := by rw [a3]; exact .inr rfl
              obtain ⟨st5, s5⟩ := hidSet s4 hBD (xs ++ [v])
              cases q : lcF t tt te (wipeW ρ0 vs) (ws.drop (i + 1)) G3 with
              | ex x G3 => rw [q] at th; exact th.elim
              | no => rw [q] at th; exact th.elim
              | ok r G4 =>
                rw [q] at th
                have th : Th Γ E (Cf.Rp Γ) c0 Q (if (acc ++ (y :: r)).length ≤ sizeLine then mkL own (acc ++ (y :: r)) G4 else .no) := th
                have hz : acc.length < sizeLine := by
                  by_cases z : (acc ++ (y :: r)).length ≤ sizeLine
                  · rw [List.length_append, List.length_cons] at z
                    omega
                  · rw [if_neg z] at th; exact th.elim
                refine ⟨xs, a4, by rw [a5.length]; exact hz, ⟨c4.ι, c4.G, upd c4.H D (.lst (xs ++ [v])), c4.B⟩, xs ++ [v], acc ++ [y], rfl, s5, a1.trans st5, fun a o e n => ?_, a3, upd_same, st5.rpAll s4 (a5.append (.cons rv .nil)), ?_⟩
                · show upd c4.H D _ a = some o
                  rw [upd_ne (ne_of_none e hD)]
                  exact a2 a o e n
                · show Th Γ E (Cf.Rp Γ) c0 Q ((lcF t tt te (wipeW ρ0 vs) (ws.drop (i + 1)) c4.G).calm.bind _)
                  rw [e4, q]
                  have ea : acc ++ [y] ++ r = acc ++ (y :: r) := by simp
                  show Th Γ E (Cf.Rp Γ) c0 Q (if (acc ++ [y] ++ r).length ≤ sizeLine then mkL own (acc ++ [y] ++ r) G4 else .no)
                  rw [ea]
                  exact th
    · have e : i = ws.length := by omega
      subst e
      rw [List.drop_length] at th
      simp only [lcF, R.calm, R.bind, List.append_nil] at th
      by_cases z : acc.length ≤ sizeLine
      · rw [if_pos z] at th
        exact .inl ⟨wk.stop c st s _ (Nat.le_refl _), unhide s0 hD s st kp hB hx rx th⟩
      · rw [if_neg z] at th
        exact th.elim

theorem lcO_ok {own : Bool} {t : FG1} {sl vs : List Nat} {tt : FT} {te : FE} {n k0 : Nat} {a0 : Addr} {c0 : Cf} {ρ0 : En} {σ0 : L2.St} {E : XK} {Q : V → Hp → Prop} (hsl : ∀ i ∈ sl, i ∈ vs) (s0 : SR Γ c0) (ha : c0.ι[n]? = some a0) (en0 : c0.En Γ ρ0 σ0)
    (th0 : Th Γ E (Cf.Rp Γ) c0 Q ((lcO n t tt te (wipeW ρ0 vs) k0 0 c0.G).calm.bind fun r G2 => if r.length ≤ sizeLine then mkL own r G2 else .no)) {D : Addr} (hD : c0.H D = none) :
    ∃ Wd : Nat → Nat → Hp → Prop, (∃ m, Wd 0 m (upd c0.H D (.lst []))) ∧ ∀ i m H, Wd i m H →
      ((Itl Γ.K a0).stop i H ∧ Q (.ref D) H) ∨ ((Itl Γ.K a0).go i H ∧ ∃ Nx : Hp → Prop, (∀ H', Nx H' → ∃ m', m' < m ∧ Wd (i + 1) m' H') ∧ ∀ x H', (Itl Γ.K a0).yld i H x H' → absG1 Γ sl t x (wipe σ0 vs) H' fun σ2 H2 => wipe σ2 vs = wipe σ0 vs ∧ absT Γ Z0 tt σ2 H2 fun b H3 =>
        if b = true then absE Γ Z0 te σ2 H3 fun y H4 => ∃ acc, H4 D = some (.lst acc) ∧ acc.length < sizeLine ∧ Nx (upd H4 D (.lst (acc ++ [y]))) else Nx H3) := by
  -- what holds ahead of turn i
  refine ⟨fun i m H => ∃ (c : Cf) (xs : List V) (acc : List W), c.H = H ∧ SR Γ c ∧ StpW c0 c ∧ (∀ a o, c0.H a = some o → ¬ c0.Ow a → c.H a = some o) ∧ (c.B = fun a => c0.B a ∨ a = D) ∧ c.H D = some (.lst xs) ∧ c.RpAll Γ xs acc ∧
    Th Γ E (Cf.Rp Γ) c0 Q ((lcO n t tt te (wipeW ρ0 vs) m i c.G).calm.bind fun r G2 => if (acc ++ r).length ≤ sizeLine then mkL own (acc ++ r) G2 else .no), ?_, ?_⟩
  · obtain ⟨st1, s1⟩ := hide s0 hD []
    refine ⟨_, ⟨c0.ι, c0.G, upd c0.H D (.lst []), fun a => c0.B a ∨ a = D⟩, [], [], rfl, s1, st1, fun a o e _ => ?_, rfl, upd_same, .nil, by simpa using th0⟩
    show upd c0.H D _ a = some o
    rw [upd_ne (ne_of_none e hD)]; exact e
  · rintro i m H ⟨c, xs, acc, rfl, s, st, kp, hB, hx, rx, th⟩
    have hn : c.ι[n]? = some a0 := st.pre n a0 ha
    have at_ : ∀ us, c.G.at_ n = some (.lst us) → ∃ xs, SqL Γ.K c.H a0 xs ∧ c.RpAll Γ xs us := fun us e => by
      obtain ⟨b, ho, e1, e2, r⟩ := s.obj n _ e
      rw [hn] at e1; cases e1
      cases r with
      | lst r => exact ⟨_, .inl (.inl e2), r⟩
    have ends : Th Γ E (Cf.Rp Γ) c0 Q (if acc.length ≤ sizeLine then mkL own acc c.G else .no) → Q (.ref D) c.H := fun th => by
      by_cases z : acc.length ≤ sizeLine
      · rw [if_pos z] at th
        exact unhide s0 hD s st kp hB hx rx th
      · rw [if_neg z] at th
        exact th.elim
    cases m with
    | zero =>
      unfold lcO at th
      split at th
      · rename_i us e
        obtain ⟨ys, hq, r⟩ := at_ us e
        by_cases k : us.length ≤ i
        · rw [if_pos k] at th
          simp only [R.calm, R.bind, List.append_nil] at th
          exact .inl ⟨⟨ys, hq, by rw [r.length]; exact k⟩, ends th⟩
        · rw [if_neg k] at th; exact th.elim
      · exact th.elim
    | succ m =>
      unfold lcO at th
      split at th
      rotate_left
      · exact th.elim
      rename_i us e
      obtain ⟨ys, hq, r⟩ := at_ us e
      split at th
      rotate_left
      · rename_i ew
        have hl : us.length ≤ i := List.getElem?_eq_none_iff.mp ew
        simp only [R.calm, R.bind, List.append_nil] at th
        exact .inl ⟨⟨ys, hq, by rw [r.length]; exact hl⟩, ends th⟩
      rename_i w ew
      obtain ⟨v, ev, rw1⟩ := r.get ew
      refine .inr ⟨⟨ys, v, hq, ev⟩, fun H => ∃ (c : Cf) (xs : List V) (acc : List W), c.H = H ∧ SR Γ c ∧ StpW c0 c ∧ (∀ a o, c0.H a = some o → ¬ c0.Ow a → c.H a = some o) ∧ (c.B = fun a => c0.B a ∨ a = D) ∧ c.H D = some (.lst xs) ∧ c.RpAll Γ xs acc ∧
        Th Γ E (Cf.Rp Γ) c0 Q ((lcO n t tt te (wipeW ρ0 vs) m (i + 1) c.G).calm.bind fun r G2 => if (acc ++ r).length ≤ sizeLine then mkL own (acc ++ r) G2 else .no), fun H' h => ⟨m, Nat.lt_succ_self m, h⟩, fun x H' y => ?_⟩
      obtain ⟨rfl, y⟩ := y
      have := y ys hq
      rw [ev] at this
      cases this
      have oB : ¬ c.Ow D := fun ⟨n, o, _, e⟩ => (s.hid D (by rw [hB]; exact .inr rfl)).2 (List.mem_of_getElem? e)
      -- a state that is a step on keeps all this
      have on : ∀ c', Stp c c' → SR Γ c' → StpW c0 c' ∧ (∀ a o, c0.H a = some o → ¬ c0.Ow a → c'.H a = some o) ∧ (c'.B = fun a => c0.B a ∨ a = D) ∧ c'.H D = some (.lst xs) ∧ c'.RpAll Γ xs acc := fun c' st' s' =>
        ⟨st.trans st'.w, (fun a o e n => by
          refine st'.keep a o (kp a o e n) fun z => ?_
          rcases st.own a (.inl z) with (q | q) | q
          · exact n q
          · exact (s.hid a (by rw [hB]; exact .inl q)).2 (by obtain ⟨n, o, _, e⟩ := z; exact List.mem_of_getElem? e)
          · rw [q] at e; cases e), st'.bl.trans hB, st'.keep D _ hx oB, st'.rpAll s rx⟩
      refine ⟨c, wipeW ρ0 vs, w, rfl, s, wipeW_en (st.en s0 en0) vs, rw1, ?_⟩
      unfold lcTurn at th
      cases k : t w (wipeW ρ0 vs) c.G with
      | none => rw [k] at th; exact th.elim
      | some p =>
        obtain ⟨ρ1, G1⟩ := p
        rw [k] at th
        simp only at th ⊢
        intro c2 σ2 st2 s2 e2 en2 ag
        refine ⟨wipe_agr ag hsl, c2, ρ1, rfl, s2, en2, ?_⟩
        rw [e2]
        cases kt : tt ρ1 G1 with
        | ex x G2 => rw [kt] at th; exact th.elim
        | no => rw [kt] at th; exact th.elim
        | ok b G2 =>
          rw [kt] at th
          intro c3 b' st3 s3 e3 eb
          subst eb
          have st13 : Stp c c3 := st2.trans st3
          cases b' with
          | false =>
            rw [if_neg Bool.false_ne_true]
            obtain ⟨a1, a2, a3, a4, a5⟩ := on c3 st13 s3
            refine ⟨c3, xs, acc, rfl, s3, a1, a2, a3, a4, a5, ?_⟩
            rw [e3]
            simp only [R.calm, R.bind, Bool.false_eq_true, if_false] at th
            cases q : lcO n t tt te (wipeW ρ0 vs) m (i + 1) G2 with
            | ok r G3 => rw [q] at th; exact th
            | ex x G3 => rw [q] at th; exact th.elim
            | no => rw [q] at th; exact th.elim
          | true =>
            rw [if_pos rfl]
            refine ⟨c3, ρ1, rfl, s3, st3.en s2 en2, ?_⟩
            rw [e3]
            simp only [R.calm, R.bind, if_true] at th
            cases kv : te ρ1 G2 with
            | ex x G3 => rw [kv] at th; exact th.elim
            | no => rw [kv] at th; exact th.elim
            | ok y G3 =>
              rw [kv] at th
              simp only at th
              intro c4 v st4 s4 e4 rv
              have st14 : Stp c c4 := st13.trans st4
              obtain ⟨a1, a2, a3, a4, a5⟩ := on c4 st14 s4
              have hBD : c4.B D := by rw [a3]; exact .inr rfl
              obtain ⟨st5, s5⟩ := hidSet s4 hBD (xs ++ [v])
              cases q : lcO n t tt te (wipeW ρ0 vs) m (i + 1) G3 with
              | ex x G3 => rw [q] at th; exact th.elim
              | no => rw [q] at th; exact th.elim
              | ok r G4 =>
                rw [q] at th
                have th : Th Γ E (Cf.Rp Γ) c0 Q (if (acc ++ (y :: r)).length ≤ sizeLine then mkL own (acc ++ (y :: r)) G4 else .no) := th
                have hz : acc.length < sizeLine := by
                  by_cases z : (acc ++ (y :: r)).length ≤ sizeLine
                  · rw [List.length_append, List.length_cons] at z
                    omega
                  · rw [if_neg z] at th; exact th.elim
                refine ⟨xs, a4, by rw [a5.length]; exact hz, ⟨c4.ι, c4.G, upd c4.H D (.lst (xs ++ [v])), c4.B⟩, xs ++ [v], acc ++ [y], rfl, s5, a1.trans st5, fun a o e n => ?_, a3, upd_same, st5.rpAll s4 (a5.append (.cons rv .nil)), ?_⟩
                · show upd c4.H D _ a = some o
                  rw [upd_ne (ne_of_none e hD)]
                  exact a2 a o e n
                · show Th Γ E (Cf.Rp Γ) c0 Q ((lcO n t tt te (wipeW ρ0 vs) m (i + 1) c4.G).calm.bind _)
                  rw [e4, q]
                  have ea : acc ++ [y] ++ r = acc ++ (y :: r) := by simp
                  show Th Γ E (Cf.Rp Γ) c0 Q (if (acc ++ [y] ++ r).length ≤ sizeLine then mkL own (acc ++ [y] ++ r) G4 else .no)
                  rw [ea]
                  exact th
theorem PTs.imp {e : List Expr} {t t' : TT} (h : PTs X e t) (m : ∀ σ H Q, t' σ H Q → t σ H Q) : PTs X e t' := ⟨fun pins s σ H Q I q => h.run pins s σ H Q I (m σ H Q q)⟩
def gYes : FT := fun _ G => .ok true G
theorem fts_nil : PTs X [] (absT Γ Z gYes) := PTs.imp pts_nil fun σ H Q ⟨c, ρ, e, s, en, th⟩ => by
  subst e
  exact Th.pure (v := true) s th rfl
theorem fts_one {a : Expr} {g : FT} (h : PT X a (absT Γ Z g)) : PTs X [a] (absT Γ Z g) := pts_one h
theorem lc_imp {own : Bool} {gi : FI} {t : FG1} {sl vs : List Nat} {tt : FT} {te : FE} {σ : L2.St} {H : Hp} {Q : V → Hp → Prop} (hsl : ∀ i ∈ sl, i ∈ vs) (q : absE Γ Z (gLc own gi t tt te vs) σ H Q) : tLc (absI Γ Z gi) (absG1 Γ sl t) (absT Γ Z0 tt) (absE Γ Z0 te) vs σ H Q := by
  obtain ⟨c, ρ, e, s, en, th⟩ := absG.bind q
  refine ⟨c, ρ, e, s, en, Th.mono th fun J c1 st ⟨c2, ρ2, k, e2, s2, en2, wk, q⟩ => ?_⟩
  rw [← e2]
  cases k with
  | vals ws => exact fun D hD => lc_ok hsl s2 wk en2 q hD
  | own n =>
    obtain ⟨a, ha, rfl⟩ := wk
    exact fun D hD => lcO_ok hsl s2 ha en2 q hD
theorem fe_lc {own : Bool} {elt tg iter : Expr} {ifs : List Expr} {scope : Scope} {onames : List (Str × Nat)} {pos : Pos} {gi : FI} {t : FG1} {sl : List Nat} {tt : FT} {te : FE} (hc : X.calm = true) (hN : X.N.Nodup) (hi : PI X tg iter (absI Γ Z gi)) (ok : BlkOk X.N X.env.scope scope onames)
    (hg : ∀ (s : Shared) (H : Hp) (C : Addr) (cl : List (Str × Addr)) (fp : List Addr), PG (X.blk s H scope (compEnvC scope cl C X.env) fp) tg (absG1 Γ sl t))
    (ht : ∀ (s : Shared) (H : Hp) (C : Addr) (cl : List (Str × Addr)) (fp : List Addr), PTs (X.blk s H scope (compEnvC scope cl C X.env) fp) ifs (absT Γ Z0 tt))
    (he : ∀ (s : Shared) (H : Hp) (C : Addr) (cl : List (Str × Addr)) (fp : List Addr), PE (X.blk s H scope (compEnvC scope cl C X.env) fp) elt (absE Γ Z0 te)) (hsl : ∀ i ∈ sl, i ∈ onames.map (·.2) := by decide) (hs : ∀ x, foldedSetIterable iter X.env x = pure x := by intro _; rfl) :
    PE X (.ListComp elt [⟨tg, iter, ifs, 0⟩] scope pos) (absE Γ Z (gLc own gi t tt te (onames.map (·.2)))) :=
  PE.imp (pe_lc hc hN hi ok hg ht he hs) fun σ H Q q => lc_imp hsl q
/-- y = [..] -/
theorem fs_lc {own : Bool} {i : Nat} {y : Str} {py : Pos} {elt tg iter : Expr} {ifs : List Expr} {scope : Scope} {onames : List (Str × Nat)} {pos spos : Pos} {gi : FI} {t : FG1} {sl : List Nat} {tt : FT} {te : FE} (hc : X.calm = true) (hN : X.N.Nodup) (hy : X.N[i]? = some y) (hyl : X.env.scope.names.lookup y = some .local)
    (hsw : swapsWith (.ListComp elt [⟨tg, iter, ifs, 0⟩] scope pos) (some (.Name y py)) spos.line X.env = pure true) (hi : PI X tg iter (absI Γ Z gi)) (ok : BlkOk X.N X.env.scope scope onames)
    (hg : ∀ (s : Shared) (H : Hp) (C : Addr) (cl : List (Str × Addr)) (fp : List Addr), PG (X.blk s H scope (compEnvC scope cl C X.env) fp) tg (absG1 Γ sl t))
    (ht : ∀ (s : Shared) (H : Hp) (C : Addr) (cl : List (Str × Addr)) (fp : List Addr), PTs (X.blk s H scope (compEnvC scope cl C X.env) fp) ifs (absT Γ Z0 tt))
    (he : ∀ (s : Shared) (H : Hp) (C : Addr) (cl : List (Str × Addr)) (fp : List Addr), PE (X.blk s H scope (compEnvC scope cl C X.env) fp) elt (absE Γ Z0 te)) (hsl : ∀ i ∈ sl, i ∈ onames.map (·.2) := by decide) (hs : ∀ x, foldedSetIterable iter X.env x = pure x := by intro _; rfl) :
    PS X (.Assign [.Name y py] (.ListComp elt [⟨tg, iter, ifs, 0⟩] scope pos) spos) (absS Γ Z (gAsg (gLc own gi t tt te (onames.map (·.2))) (tgName i))) :=
  PS.imp (ps_setLc hc hN hy hyl hsw hi ok hg ht he hs) fun D σ H q => by
    have z := asg_ok (sl := [i]) q
    have z2 : absE Γ Z (gLc own gi t tt te (onames.map (·.2))) σ H (fun v H1 => gName i v σ H1 D.nx) := absE.mono z fun v H' ⟨c, ρ, w, e, s, en, r, q⟩ => by
      subst e
      exact q c _ (Stp.refl c) s rfl (en.set r i) ⟨List.length_set, fun j h => List.getElem?_set_ne (fun z => h (by simp [z]))⟩
    exact lc_imp hsl z2
end
end Fn

set_option Elab.async false
set_option linter.all false
set_option maxRecDepth 100000
namespace Fn
open PySem PySem.Spec PyProof.Rows L2
section
variable {X : Cx} {Γ : Gm} {Z : WXk}

/-! ### a call of a built-in -/
abbrev FC := List W → GH → R W
def CallF (X : Cx) (Γ : Gm) (f : Value) (g : FC) : Prop :=
  ∃ r, CallR X f r ∧ ∀ (c : Cf) (vs : List V) (ws : List W) (Q : VK) (E : XK), SR Γ c → c.RpAll Γ vs ws → Th Γ E (Cf.Rp Γ) c Q (g ws c.G) → r vs c.H Q
def gCall (g : FC) (ga : FA) : FE := fun ρ G => (ga ρ G).bind g
theorem call_imp {r : List V → Hp → VK → Prop} {g : FC} {ga : FA} {σ : L2.St} {H : Hp} {Q : VK} (h : ∀ (c : Cf) (vs : List V) (ws : List W) (Q : VK) (E : XK), SR Γ c → c.RpAll Γ vs ws → Th Γ E (Cf.Rp Γ) c Q (g ws c.G) → r vs c.H Q)
    (q : absE Γ Z (gCall g ga) σ H Q) : tCB r (absA Γ Z ga) σ H Q := by
  obtain ⟨c, ρ, e, s, en, th⟩ := absG.bind q
  refine ⟨c, ρ, e, s, en, Th.mono th fun vs c1 st ⟨c2, ρ2, ws, e2, s2, en2, ra, q⟩ => ?_⟩
  rw [← e2]
  exact h c2 vs ws Q _ s2 ra q
theorem fe_callB {id : String} {g : FC} {ga : FA} {x : Str} {p pos : Pos} {e : Expr} {es : List Expr} (hc : CallF X Γ (.builtin id) g) (hg : Gl X x) (hm : X.mg x = none) (hv : bootBuiltins x = some (.builtin id)) (ha : PA X (e :: es) (absA Γ Z ga)) (hn : x ≠ "__name__" := by decide) (hdb : (x == ("__debug__" : Str)) = false := by decide)
    (he : starEach (e :: es) X.env = (false, eval e X.env) :: starEach es X.env := by rfl) (hpl : (backTo pos (starEach es X.env)).any (·.1) = false := by rfl) : PE X (.Call (.Name x p) (e :: es) [] pos) (absE Γ Z (gCall g ga)) := by
  obtain ⟨r, hr, h⟩ := hc
  exact PE.imp (pe_callB hr hg hm hv ha hn hdb he hpl) fun σ H Q q => call_imp h q
theorem fe_callTy {T : String} {g : FC} {ga : FA} {x : Str} {p pos : Pos} {e : Expr} {es : List Expr} (hc : CallF X Γ (.type T) g) (hg : Gl X x) (hm : X.mg x = none) (hv : bootBuiltins x = some (.type T)) (ha : PA X (e :: es) (absA Γ Z ga)) (hn : x ≠ "__name__" := by decide) (hdb : (x == ("__debug__" : Str)) = false := by decide)
    (he : starEach (e :: es) X.env = (false, eval e X.env) :: starEach es X.env := by rfl) (hpl : (backTo pos (starEach es X.env)).any (·.1) = false := by rfl) : PE X (.Call (.Name x p) (e :: es) [] pos) (absE Γ Z (gCall g ga)) := by
  obtain ⟨r, hr, h⟩ := hc
  exact PE.imp (pe_callTy hr hg hm hv ha hn hdb he hpl) fun σ H Q q => call_imp h q
/-- a type as a value -/
theorem fe_ty {x : Str} {T : String} {pos : Pos} (hg : Gl X x) (hm : X.mg x = none) (hv : bootBuiltins x = some (.type T)) (hn : x ≠ "__name__" := by decide) (hd : (x == ("__debug__" : Str)) = false := by decide) : PE X (.Name x pos) (absE Γ Z (gC (.op (.ty T)))) :=
  fe_c (pe_bltn (v := .ty T) hg hm hv rfl hn hd) fun _ => .op _

/-! ### len, int, str, list, tuple, isinstance -/
def cLen : FC := fun ws G => match ws with
  | [.str y] => if y.length ≤ sizeLine then .ok (.int y.length) G else .no
  | [w] => match sqs G w with
    | some ws => .ok (.int ws.length) G
    | none => .no
  | _ => .no
theorem cf_len (hK : Γ.K = X.K := by rfl) : CallF X Γ (.builtin "len") cLen := ⟨_, call_len, fun c vs ws Q E s ra h => by
  unfold cLen at h
  split at h
  · rename_i y
    obtain ⟨v, rfl, r⟩ := RpAll.one (c := c) ra
    cases Rp.str_of (c := c) r
    by_cases k : y.length ≤ sizeLine
    · rw [if_pos k] at h
      exact ⟨_, _, rfl, ⟨k, rfl⟩, h.pure s (.int _)⟩
    · rw [if_neg k] at h; exact h.elim
  · obtain ⟨v, rfl, r⟩ := RpAll.one (c := c) ra
    split at h
    · obtain ⟨p, xs, rfl, hq, rr⟩ := sqs_ok s (by assumption) r
      refine ⟨_, xs.length, rfl, ?_, ?_⟩
      · rcases hq with hq | hq
        · exact .inl ⟨xs, hK ▸ hq, rfl⟩
        · exact .inr ⟨xs, hK ▸ hq, rfl⟩
      · rw [rr.length]
        exact h.pure s (.int _)
    · exact h.elim
  · exact h.elim⟩
def cInt : FC := fun ws G => match ws with
  | [.int i] => .ok (.int i) G
  | [.bl k] => .ok (.int (if k then 1 else 0)) G
  | _ => .no
theorem cf_int : CallF X Γ (.type "int") cInt := ⟨_, call_int1, fun c vs ws Q E s ra h => by
  unfold cInt at h
  split at h
  · obtain ⟨v, rfl, r⟩ := RpAll.one (c := c) ra
    cases Rp.int_of (c := c) r
    exact .inl ⟨_, rfl, h.pure s (.int _)⟩
  · obtain ⟨v, rfl, r⟩ := RpAll.one (c := c) ra
    cases Rp.bl_of (c := c) r
    exact .inr ⟨_, rfl, h.pure s (.int _)⟩
  · exact h.elim⟩
def cStr : FC := fun ws G => match ws with
  | [.int i] => if i.natAbs.log2 < 1920 then .ok (.str (toString i)) G else .no
  | _ => .no
theorem cf_str : CallF X Γ (.type "str") cStr := ⟨_, call_str_int, fun c vs ws Q E s ra h => by
  unfold cStr at h
  split at h
  · rename_i i
    obtain ⟨v, rfl, r⟩ := RpAll.one (c := c) ra
    cases Rp.int_of (c := c) r
    by_cases k : i.natAbs.log2 < 1920
    · rw [if_pos k] at h
      exact ⟨_, rfl, k, h.pure s (.str _)⟩
    · rw [if_neg k] at h; exact h.elim
  · exact h.elim⟩
def cList (own : Bool) : FC := fun ws G => match ws with
  | [w] => match sqs G w with
    | some ws => mkL own ws G
    | none => .no
  | _ => .no
theorem cf_list {own : Bool} (hK : Γ.K = X.K := by rfl) : CallF X Γ (.type "list") (cList own) := ⟨_, call_list_of, fun c vs ws Q E s ra h => by
  unfold cList at h
  split at h
  · obtain ⟨v, rfl, r⟩ := RpAll.one (c := c) ra
    split at h
    · obtain ⟨p, xs, rfl, hq, rr⟩ := sqs_ok s (by assumption) r
      exact ⟨p, xs, rfl, hK ▸ hq, fun l hl => mkL_ok s rr h hl⟩
    · exact h.elim
  · exact h.elim⟩
def cTuple : FC := fun ws G => match ws with
  | [w] => match sqs G w with
    | some ws => .ok (.tup ws) G
    | none => .no
  | _ => .no
theorem cf_tuple (hK : Γ.K = X.K := by rfl) : CallF X Γ (.type "tuple") cTuple := ⟨_, call_tuple_of, fun c vs ws Q E s ra h => by
  unfold cTuple at h
  split at h
  · obtain ⟨v, rfl, r⟩ := RpAll.one (c := c) ra
    split at h
    · rename_i w _ us e
      unfold sqs at e
      split at e
      · cases e
        obtain ⟨p, xs, rfl, hq, rr⟩ := tsq_ok (by assumption) r
        refine ⟨p, xs, rfl, .inr ⟨hK ▸ hq, ?_⟩⟩
        rename_i e
        have ew : w = .tup us := by
          unfold tsq at e
          split at e
          · cases e; rfl
          · cases e
        subst ew
        exact h.pure s r
      · obtain ⟨p, xs, rfl, hq, rr⟩ := lsq_ok s e r
        exact ⟨p, xs, rfl, .inl ⟨hK ▸ hq, fun l hl => mkT_ok s rr h hl⟩⟩
    · exact h.elim
  · exact h.elim⟩
/-- isinstance of data -/
def isaD (T : String) (d : PyData) : Option Bool :=
  if T = "tuple" then some d.isTuple else if T = "bool" then some d.isBool else if T = "int" then some d.isInt else if T = "str" then some d.isStr else if T = "list" then some d.isList else none
def rIsaD (K : PySem.W.Frag) : List V → Hp → VK → Prop := fun xs H Q => ∃ x T d b, xs = [x, .ty T] ∧ Dp K H x d ∧ isaD T d = some b ∧ Q (.bl b) H
theorem call_isaD : CallR X (.builtin "isinstance") (rIsaD X.K) := by
  intro pins s σ H xs us Q I r h
  obtain ⟨x, T, d, b, rfl, hd, e, q⟩ := h
  obtain ⟨u1, u2, rfl, r1, r2⟩ := vals2 r
  cases (show u2 = Value.type T from r2)
  obtain ⟨as, rr⟩ := Dp.reads I d x u1 hd r1
  have fin : ∀ tk, EP X pins σ Q (.bool b) { s with toks := tk } := fun tk => ⟨.bl b, H, I.tok tk, rfl, q⟩
  unfold isaD at e
  split at e
  · subst T; cases e; exact PySem.W.isinstance_tuple_data rr fun tk _ => fin tk
  · split at e
    · subst T; cases e; exact PySem.W.isinstance_bool_data rr fun tk _ => fin tk
    · split at e
      · subst T; cases e; exact PySem.W.isinstance_int_data rr fun tk _ => fin tk
      · split at e
        · subst T; cases e; exact PySem.W.isinstance_str_data rr fun tk _ => fin tk
        · split at e
          · subst T; cases e; exact PySem.W.isinstance_list_data rr fun tk _ => fin tk
          · cases e
/-- .. by values: nothing within is looked at -/
def isaW (T : String) (w : W) : Option Bool := match w with
  | .non => isaD T .none
  | .bl b => isaD T (.bool b)
  | .int i => isaD T (.int i)
  | .str x => isaD T (.str x)
  | .tup _ => isaD T (.tuple [])
  | .lst _ => isaD T (.list [])
  | _ => none
def cIsa : FC := fun ws G => match ws with
  | [w, .op (.ty T)] => if (res G w).pl then match isaW T (res G w) with
      | some b => .ok (.bl b) G
      | none => .no
    else .no
  | _ => .no
theorem isaW_toD {T : String} {w : W} {b : Bool} (h : isaW T w = some b) : isaD T w.toD = some b := by
  cases w with
  | tup ws => exact h
  | lst ws => exact h
  | dic _ _ => cases h
  | ins _ _ _ => cases h
  | ref _ => cases h
  | op _ => cases h
  | _ => exact h
theorem cf_isa (hK : Γ.K = X.K := by rfl) : CallF X Γ (.builtin "isinstance") cIsa := ⟨_, call_isaD, fun c vs ws Q E s ra h => by
  unfold cIsa at h
  split at h
  · rename_i w T
    obtain ⟨v, x, rfl, r1, r2⟩ := RpAll.two (c := c) ra
    cases r2
    by_cases k : (res c.G w).pl = true
    · rw [if_pos k] at h
      split at h
      · exact ⟨v, T, _, _, rfl, hK ▸ res_dp s r1 k, isaW_toD (by assumption), h.pure s (.bl _)⟩
      · exact h.elim
    · rw [if_neg k] at h; exact h.elim
  · exact h.elim⟩

/-! ### a def -/
/-- a def's promise, by the function that it computes -/
def absF (Γ : Gm) (n : Nat) (F : FC) : Sp := fun vs H Q E => vs.length = n ∧ ∃ (c : Cf) (ws : List W), c.H = H ∧ SR Γ c ∧ c.RpAll Γ vs ws ∧ Th Γ E (Cf.Rp Γ) c Q (F ws c.G)
def RS.fin (r : RS) : R W := match r with
  | .nx _ G => .ok .non G
  | .rt w G => .ok w G
  | .ex x _ G => .ex x G
  | _ => .no
def startW (n : Nat) (ws : List W) : En := ws.map some ++ List.replicate (n - ws.length) none
def fnF (n : Nat) (g : FS) : FC := fun ws G => (g (startW n ws) G).fin
theorem startW_en {c : Cf} {N : List Str} {vs : List V} {ws : List W} (r : c.RpAll Γ vs ws) : c.En Γ (startW N.length ws) (L2.start N vs) := by
  have hl := r.length
  unfold startW L2.start
  refine ⟨by simp [hl], fun i w e => ?_⟩
  by_cases hi : i < ws.length
  · rw [List.getElem?_append_left (by simpa using hi), List.getElem?_map] at e
    cases k : ws[i]? with
    | none => rw [k] at e; cases e
    | some u =>
      rw [k] at e
      cases e
      obtain ⟨v, e1, rv⟩ := r.get k
      refine ⟨v, ?_, rv⟩
      rw [List.getElem?_append_left (by rw [List.length_map, hl]; exact hi), List.getElem?_map, e1]
      rfl
  · rw [List.getElem?_append_right (by simpa using hi), List.getElem?_replicate] at e
    split at e <;> cases e
theorem fn_end {E : XK} {Q : VK} {c : Cf} {N : List Str} {vs : List V} {ws : List W} {g : FS} (s : SR Γ c) (r : c.RpAll Γ vs ws) (h : Th Γ E (Cf.Rp Γ) c Q (fnF N.length g ws c.G)) :
    absS Γ (fun cls d _ H => E cls d H) g { nx := fun _ H' => Q .non H', rt := Q } (L2.start N vs) c.H := by
  refine ⟨c, startW N.length ws, rfl, s, startW_en r, ?_⟩
  unfold fnF at h
  cases k : g (startW N.length ws) c.G with
  | nx ρ G => rw [k] at h; exact fun c' σ a b e en => h c' .non a b e .non
  | rt w G => rw [k] at h; exact fun c' v a b e rv => h c' v a b e rv
  | ex x ρ G => rw [k] at h; exact fun c' σ cls d a b e en rx => h c' cls d a b e rx
  | bk ρ G => rw [k] at h; exact h.elim
  | ct ρ G => rw [k] at h; exact h.elim
  | no => rw [k] at h; exact h.elim
def fnC (n : Nat) (g : FS) : FC := fun ws G => (fnF n g ws G).calm
/-- THE RULE for a def that raises nothing -/
theorem fn0 {P : Program} {w : World} {mg : Str → Option Value} {base : Heap} {x qual : Str} {st : Stmt} {f : Addr} {fd : FuncData} {N ps : List Str} {k : Nat} {g : FS} (F : Fun Γ.K x qual st f fd) (S : FnScope N ps (defScope st))
    (hbody : ∀ (cdv : Value) (A : Around) (outer : List Env) (s : Shared) (H : Hp) (E : XK), Room k (A.deeper (envOfC qual (defScope st) s.heap.objs.size f cdv)) →
      PSs (cxOf CX0 P w Γ.K mg base N qual (defScope st) f cdv A outer s H E).nox (defBody st) (absS Γ Z0 g)) : FnOk P w Γ.K mg base CX0 (k + 1) f fd ps (absF Γ ps.length (fnC N.length g)) := by
  refine F.ok S (fun vs H Q E h => h.1) (fun cdv A outer s H vs Q E hr h => ?_)
  obtain ⟨hl, c, ws, rfl, sr, r, th⟩ := h
  exact ⟨_, hbody cdv A outer s c.H E hr, fn_end (E := E0) sr r (R.calm_th th)⟩
def cFn (n : Nat) (F : FC) : FC := fun ws G => if ws.length = n then (F ws G).calm else .no
/-- a call of such a def -/
theorem fe_call {k : Nat} {f : Addr} {fd : FuncData} {ps : List Str} {n : Nat} {F : FC} {ga : FA} {x : Str} {p pos : Pos} {e : Expr} {es : List Expr} (F0 : FnOk X.prog X.w X.K X.mg X.base CX0 k f fd ps (absF Γ n F)) (hr : Room k X.A) (hg : Gl X x) (hm : X.mg x = some (.ref f)) (hk : PySem.W.keepIn X.K (.ref f) = true)
    (hb : Binds X.K fd ps []) (ha : PA X (e :: es) (absA Γ Z ga)) (hdb : (x == ("__debug__" : Str)) = false := by decide) (he : starEach (e :: es) X.env = (false, eval e X.env) :: starEach es X.env := by rfl) (hpl : (backTo pos (starEach es X.env)).any (·.1) = false := by rfl) :
    PE X (.Call (.Name x p) (e :: es) [] pos) (absE Γ Z (gCall (cFn n F) ga)) := PE.imp (pe_call F0 hr hg hm hk hb .nil pass0 ha hdb he hpl) fun σ H Q q => by
  obtain ⟨c, ρ, e, s, en, th⟩ := absG.bind q
  refine ⟨c, ρ, e, s, en, Th.mono th fun vs c1 st ⟨c2, ρ2, ws, e2, s2, en2, ra, q⟩ => ?_⟩
  unfold cFn at q
  by_cases hl : ws.length = n
  · rw [if_pos hl] at q
    rw [List.append_nil]
    exact ⟨ra.length.trans hl, c2, ws, e2, s2, ra, R.calm_th q⟩
  · rw [if_neg hl] at q
    exact q.elim
theorem fe_call0 {k : Nat} {f : Addr} {fd : FuncData} {F : FC} {x : Str} {p pos : Pos} {ps : List Str} (F0 : FnOk X.prog X.w X.K X.mg X.base CX0 k f fd ps (absF Γ 0 F)) (hr : Room k X.A) (hg : Gl X x) (hm : X.mg x = some (.ref f)) (hk : PySem.W.keepIn X.K (.ref f) = true)
    (hb : Binds X.K fd ps []) (hdb : (x == ("__debug__" : Str)) = false := by decide) : PE X (.Call (.Name x p) [] [] pos) (absE Γ Z (gCall (cFn 0 F) gNil)) := PE.imp (pe_call0 F0 hr hg hm hk hb .nil pass0 hdb) fun σ H Q q => by
  obtain ⟨c, ρ, e, s, en, th⟩ := q
  subst e
  exact ⟨rfl, c, [], rfl, s, .nil, R.calm_th th⟩
end
end Fn

set_option Elab.async false
set_option linter.all false
set_option maxRecDepth 100000
namespace Fn
open PySem PySem.Spec PyProof.Rows L2
section
variable {X : Cx} {Γ : Gm} {Z : WXk}
/-- a, b = x, y: stored from the right -/
def gPar (i j : Nat) (ga : FA) : FS := fun ρ G => (ga ρ G).thn ρ fun ws G1 => match ws with
  | [a, b] => .nx ((ρ.set i (some a)).set j (some b)) G1
  | _ => .no
theorem fs_par {i j : Nat} {x y : Str} {a b : Expr} {ga : FA} {px py pt pos : Pos} {kt k2 : Nat} {pt2 : Pos} (hc : X.calm = true) (hN : X.N.Nodup) (hi : X.N[i]? = some x) (hj : X.N[j]? = some y) (hij : i ≠ j)
    (hx : X.env.scope.names.lookup x = some .local) (hy : X.env.scope.names.lookup y = some .local) (ha : PA X [a, b] (absA Γ Z ga))
    (hw : swappedStores [.Tuple [.Name x px, .Name y py] kt pt] (.Tuple [a, b] k2 pt2) X.env = pure (some [x, y]))
    (hs : swapsWithSole [.Tuple [.Name x px, .Name y py] kt pt] (.Tuple [a, b] k2 pt2) pos.line X.env = pure false := by rfl) :
    PS X (.Assign [.Tuple [.Name x px, .Name y py] kt pt] (.Tuple [a, b] k2 pt2) pos) (absS Γ Z (gPar i j ga)) :=
  PS.imp (ps_par hc hN hi hj hij hx hy ha hw hs) fun D σ H q => by
    obtain ⟨c, ρ, e, s, en, th⟩ := absS.bind (rel := Cf.RpAll Γ) q
    refine ⟨c, ρ, e, s, en, Th.mono th fun vs c1 st ⟨c2, ρ2, ws, e2, s2, en2, ra, q⟩ => ?_⟩
    rw [← e2]
    split at q
    · obtain ⟨v, u, rfl, r1, r2⟩ := RpAll.two (c := c2) ra
      exact ⟨v, u, rfl, q c2 _ (Stp.refl c2) s2 rfl ((en2.set r1 i).set r2 j)⟩
    · exact q.elim
/-- name op= e -/
def gAug (i : Nat) (f : F2) (g : FE) : FS := fun ρ G => match ρ[i]? with
  | some (some a) => (g ρ G).thn ρ fun b G1 => (f a b G1).thn ρ fun w G2 => .nx (ρ.set i (some w)) G2
  | _ => .no
theorem fs_aug {i : Nat} {x : Str} {e : Expr} {op : Operator} {f : F2} {g : FE} {pos pos' : Pos} (hN : X.N.Nodup) (hi : X.N[i]? = some x) (hx : Loc X.env.scope x) (ho : OpF X Γ (inplaceOp op) f) (he : PE X e (absE Γ Z g)) (hf : X.fn x = true ∨ X.env.scope.names.lookup x = some .local := by first | exact .inl rfl | exact .inr rfl | assumption) :
    PS X (.AugAssign (.Name x pos') op e pos) (absS Γ Z (gAug i f g)) := by
  obtain ⟨r, hr, h⟩ := ho
  have ip : PIp X op r := fun pins s σ H x y v u Q I r1 r2 q => augR hr I r1 r2 q
  refine PS.imp (ps_aug hN hi hx he ip hf) fun D σ H q => ?_
  obtain ⟨c, ρ, e, s, en, th⟩ := q
  subst e
  unfold gAug at th
  split at th
  · rename_i a ea
    obtain ⟨v, e1, rv⟩ := en.2 _ _ ea
    refine ⟨v, e1, c, ρ, rfl, s, en, Th.mono (ThS.bind (rel := Cf.Rp Γ) s en th) fun u c1 st ⟨c2, b, e2, st2, s2, en2, rb, q⟩ => ?_⟩
    rw [← e2]
    refine h c2 v u a b _ (fun cls d H' => Z cls d σ H') s2 (st2.rp s rv) rb ?_
    exact Th.mono (ThS.bind (rel := Cf.Rp Γ) s2 en2 q) fun z c3 st3 ⟨c4, w, e4, st4, s4, en4, rw4, q4⟩ => by rw [← e4]; exact q4 c4 _ (Stp.refl c4) s4 rfl (en4.set rw4 i)
  · exact th.elim
def fIadd : F2 := fun a b G => match a, b with
  | .int i, .int j => .ok (.int (i + j)) G
  | .str i, .str j => if i.length + j.length ≤ sizeLine then .ok (.str (i ++ j)) G else .no
  | _, _ => .no
theorem of_iadd : OpF X Γ (inplaceOp .Add) fIadd := ⟨_, iop_add.or iop_add_str, fun c x y a b Q E s ra rb h => by
  unfold fIadd at h
  split at h
  · exact .inl (rI0_int (g := fun i j => i + j) c x y _ _ Q E s ra rb h)
  · rename_i i j
    cases ra
    cases rb
    refine .inr ⟨i, j, rfl, rfl, ?_⟩
    by_cases k : i.length + j.length ≤ sizeLine
    · rw [if_pos k] at h
      exact ⟨k, h.pure s (.str _)⟩
    · rw [if_neg k] at h
      exact h.elim
  · exact h.elim⟩
theorem of_isub : OpF X Γ (inplaceOp .Sub) fSub := ⟨_, iop_sub, rI0_int⟩

/-! ### methods of lists -/
def lw (G : GH) : W → Option (Nat × List W)
  | .ref n => match G.at_ n with
    | some (.lst ws) => some (n, ws)
    | _ => none
  | _ => none
theorem lw_ok {c : Cf} (s : SR Γ c) {v : V} {w : W} {n : Nat} {ws : List W} (h : lw c.G w = some (n, ws)) (r : c.Rp Γ v w) : ∃ a xs, v = .ref a ∧ c.H a = some (.lst xs) ∧ c.RpAll Γ xs ws ∧ c.ι[n]? = some a ∧ c.G.at_ n = some (.lst ws) := by
  unfold lw at h
  cases r with
  | @ref m a h1 =>
    simp only at h
    cases e : c.G.at_ m with
    | none => simp [e] at h
    | some o =>
      obtain ⟨b, ho, e1, e2, r⟩ := s.obj m o e
      rw [h1] at e1; cases e1
      cases r with
      | lst r => simp only [e, Option.some.injEq, Prod.mk.injEq] at h; obtain ⟨rfl, rfl⟩ := h; exact ⟨a, _, rfl, e2, r, h1, e⟩
      | dic _ _ => simp [e] at h
      | ins _ _ => simp [e] at h
  | _ => cases h
/-- o.m(e ..), o a list that is owned -/
def gMth (g : W → List W → GH → R W) (go : FE) (ga : FA) : FE := fun ρ G => (go ρ G).bind fun o G1 => (ga ρ G1).bind fun ws G2 => g o ws G2
def MthF (X : Cx) (Γ : Gm) (T id : String) (g : W → List W → GH → R W) : Prop :=
  ∃ r, MtR X id r ∧ ∀ (c : Cf) (o : V) (vs : List V) (wo : W) (ws : List W) (Q : VK) (E : XK), SR Γ c → c.Rp Γ o wo → c.RpAll Γ vs ws → Th Γ E (Cf.Rp Γ) c Q (g wo ws c.G) → r o vs c.H Q
/-- of what type a value surely is -/
def isTy (T : String) (G : GH) (w : W) : Bool := match w with
  | .str _ => T == "str"
  | .lst _ => T == "list"
  | .ref n => match G.at_ n with
    | some (.lst _) => T == "list"
    | some (.dic _ _) => T == "dict"
    | _ => false
  | _ => false
theorem isTy_ok {c : Cf} (s : SR Γ c) {v : V} {w : W} {T : String} (h : isTy T c.G w = true) (r : c.Rp Γ v w) : tyV Γ.K T v c.H := by
  unfold isTy at h
  cases r with
  | str x => exact beq_iff_eq.mp h
  | lst h1 n r => exact .inl ⟨beq_iff_eq.mp h, _, .inl h1⟩
  | lstK h1 h2 h3 h4 h5 h6 r => exact .inl ⟨beq_iff_eq.mp h, _, .inr ⟨_, _, _, h1, h2, h3, h4, h5, h6⟩⟩
  | @ref n a h1 =>
    simp only at h
    cases e : c.G.at_ n with
    | none => simp [e] at h
    | some o =>
      obtain ⟨b, ho, e1, e2, r⟩ := s.obj n o e
      rw [h1] at e1; cases e1
      cases r with
      | lst r => simp only [e] at h; exact .inl ⟨beq_iff_eq.mp h, _, .inl (.inl e2)⟩
      | dic l r => simp only [e] at h; exact .inr (.inr (.inl ⟨beq_iff_eq.mp h, .inl ⟨_, e2⟩⟩))
      | ins _ _ => simp [e] at h
  | _ => cases h
def gMt (T : String) (g : W → List W → GH → R W) (go : FE) (ga : FA) : FE := fun ρ G => (go ρ G).bind fun o G1 => if isTy T G1 o then (ga ρ G1).bind fun ws G2 => g o ws G2 else .no
theorem fe_mt {T id : String} {name : Str} {g : W → List W → GH → R W} {o e : Expr} {es : List Expr} {go : FE} {ga : FA} {apos cpos : Pos} (pa : PlainAttrs T) (slot : Slot T name id) (hty : typeOf (.builtin id) = pure (.type "method_descriptor")) (hm : MthF X Γ T id g) (ho : PE X o (absE Γ Z go)) (ha : PA X (e :: es) (absA Γ Z ga)) (hK : Γ.K = X.K := by rfl)
    (hbase : attributeBase o name X.env (eval o X.env) = eval o X.env := by rfl)
    (hfew : ((backTo cpos (starEach (e :: es) X.env)).all (fun x => !x.1) && (backToKw cpos (keywordEach [] X.env)).all (fun x => x.1.isSome)
      && decide ((e :: es).length + ([] : List Keyword).length + (if ([] : List Keyword).isEmpty then 0 else 1) < 30)) = true := by rfl)
    (hline : (apos.endLine == cpos.line) = true := by rfl) (hs : starEach (e :: es) X.env = (false, eval e X.env) :: starEach es X.env := by rfl) (hplain : (backTo cpos (starEach es X.env)).any (·.1) = false := by rfl) :
    PE X (.Call (.Attribute o name apos) (e :: es) [] cpos) (absE Γ Z (gMt T g go ga)) := by
  obtain ⟨r, hr, h⟩ := hm
  refine PE.imp (pe_bm pa slot hty hr ho ha hbase hfew hline hs hplain) fun σ H Q q => ?_
  obtain ⟨c, ρ, e, s, en, th⟩ := absG.bind q
  refine ⟨c, ρ, e, s, en, Th.mono th fun v c1 st ⟨c2, ρ2, wo, e2, s2, en2, ra, q⟩ => ?_⟩
  by_cases k : isTy T c2.G wo = true
  · rw [if_pos k] at q
    refine ⟨by rw [← e2, ← hK]; exact isTy_ok s2 k ra, c2, ρ2, e2, s2, en2, Th.mono (Th.bind q) fun vs c3 st3 ⟨c4, ws, e4, st4, s4, rb, q4⟩ => ?_⟩
    rw [← e4]
    exact h c4 v vs wo ws Q _ s4 (st4.rp s2 ra) rb q4
  · rw [if_neg k] at q
    exact q.elim
theorem fe_mt0 {T id : String} {name : Str} {g : W → List W → GH → R W} {o : Expr} {go : FE} {apos cpos : Pos} (pa : PlainAttrs T) (slot : Slot T name id) (hty : typeOf (.builtin id) = pure (.type "method_descriptor")) (hm : MthF X Γ T id g) (ho : PE X o (absE Γ Z go)) (hK : Γ.K = X.K := by rfl)
    (hbase : attributeBase o name X.env (eval o X.env) = eval o X.env := by rfl) (hline : (apos.endLine == cpos.line) = true := by rfl) : PE X (.Call (.Attribute o name apos) [] [] cpos) (absE Γ Z (gMt T g go gNil)) := by
  obtain ⟨r, hr, h⟩ := hm
  refine PE.imp (pe_bm0 pa slot hty hr ho hbase hline) fun σ H Q q => ?_
  obtain ⟨c, ρ, e, s, en, th⟩ := absG.bind q
  refine ⟨c, ρ, e, s, en, Th.mono th fun v c1 st ⟨c2, ρ2, wo, e2, s2, en2, ra, q⟩ => ?_⟩
  by_cases k : isTy T c2.G wo = true
  · rw [if_pos k] at q
    rw [← e2]
    exact ⟨hK ▸ isTy_ok s2 k ra, h c2 v [] wo [] Q _ s2 ra .nil q⟩
  · rw [if_neg k] at q
    exact q.elim
def mAppend : W → List W → GH → R W := fun o ws G => match lw G o, ws with
  | some (n, xs), [w] => if xs.length < sizeLine then .ok .non (G.set n (.lst (xs ++ [w]))) else .no
  | _, _ => .no
theorem mf_append : MthF X Γ "list" "list.append" mAppend := ⟨_, mt_append, fun c o vs wo ws Q E s ro rv h => by
  unfold mAppend at h
  split at h
  · rename_i n xs w e
    obtain ⟨a, ys, rfl, hH, r, hn, hG⟩ := lw_ok s e ro
    obtain ⟨v, rfl, r1⟩ := RpAll.one (c := c) rv
    by_cases k : xs.length < sizeLine
    · rw [if_pos k] at h
      obtain ⟨st, s'⟩ := upd_own (ho := .lst (ys ++ [v])) s hG hn (.lst (r.append (.cons r1 .nil)))
      exact ⟨a, ys, v, rfl, rfl, hH, by rw [r.length]; exact k, h _ _ st s' rfl .non⟩
    · rw [if_neg k] at h; exact h.elim
  · exact h.elim⟩
theorem RpAll.dropLast {c : Cf} {vs : List V} {ws : List W} (r : c.RpAll Γ vs ws) : c.RpAll Γ vs.dropLast ws.dropLast := by
  rw [List.dropLast_eq_take, List.dropLast_eq_take, r.length]
  exact r.take _
def mPop : W → List W → GH → R W := fun o ws G => match lw G o, ws with
  | some (n, xs), [] => match xs[xs.length - 1]? with
    | some w => .ok w (G.set n (.lst xs.dropLast))
    | none => .no
  | _, _ => .no
theorem mf_pop : MthF X Γ "list" "list.pop" mPop := ⟨_, mt_pop, fun c o vs wo ws Q E s ro rv h => by
  unfold mPop at h
  split at h
  · rename_i n xs e
    obtain ⟨a, ys, rfl, hH, r, hn, hG⟩ := lw_ok s e ro
    cases rv
    split at h
    · rename_i w ew
      obtain ⟨v, ev, rv⟩ := r.get ew
      obtain ⟨st, s'⟩ := upd_own (ho := .lst ys.dropLast) s hG hn (.lst (RpAll.dropLast (c := c) r))
      exact ⟨a, ys, v, rfl, rfl, hH, by rw [r.length]; exact ev, h _ _ st s' rfl (st.rp s rv)⟩
    · exact h.elim
  · exact h.elim⟩
def mReverse : W → List W → GH → R W := fun o ws G => match lw G o, ws with
  | some (n, xs), [] => .ok .non (G.set n (.lst xs.reverse))
  | _, _ => .no
theorem RpAll.reverse {c : Cf} : ∀ {vs : List V} {ws : List W}, c.RpAll Γ vs ws → c.RpAll Γ vs.reverse ws.reverse
  | _, _, .nil => .nil
  | _, _, .cons h t => by
    rw [List.reverse_cons, List.reverse_cons]
    exact RpAll.append (RpAll.reverse t) (.cons h .nil)
theorem mf_reverse : MthF X Γ "list" "list.reverse" mReverse := ⟨_, mt_reverse, fun c o vs wo ws Q E s ro rv h => by
  unfold mReverse at h
  split at h
  · rename_i n xs e
    obtain ⟨a, ys, rfl, hH, r, hn, hG⟩ := lw_ok s e ro
    cases rv
    obtain ⟨st, s'⟩ := upd_own (ho := .lst ys.reverse) s hG hn (.lst (RpAll.reverse (c := c) r))
    exact ⟨a, ys, rfl, rfl, hH, h _ _ st s' rfl .non⟩
  · exact h.elim⟩
end
end Fn

set_option Elab.async false
set_option linter.all false
set_option maxRecDepth 100000
namespace Fn
open PySem PySem.Spec PyProof.Rows L2
section
variable {X : Cx} {Γ : Gm} {Z : WXk}
/-! ### any, all, of truth values -/
def blsOf : List W → Option (List Bool)
  | [] => some []
  | .bl b :: ws => match blsOf ws with
    | some bs => some (b :: bs)
    | none => none
  | _ :: _ => none
def intsOf : List W → Option (List Int)
  | [] => some []
  | .int b :: ws => match intsOf ws with
    | some bs => some (b :: bs)
    | none => none
  | _ :: _ => none
theorem blsOf_eq : ∀ {ws : List W} {bs : List Bool}, blsOf ws = some bs → ws = bs.map W.bl
  | [], _, h => by cases h; rfl
  | .bl b :: ws, bs, h => by
    unfold blsOf at h
    cases e : blsOf ws with
    | none => rw [e] at h; cases h
    | some cs => rw [e] at h; cases h; rw [List.map_cons, ← blsOf_eq e]
  | .non :: _, _, h | .int _ :: _, _, h | .str _ :: _, _, h | .tup _ :: _, _, h | .lst _ :: _, _, h | .dic _ _ :: _, _, h | .ins _ _ _ :: _, _, h | .ref _ :: _, _, h | .op _ :: _, _, h => by cases h
theorem intsOf_eq : ∀ {ws : List W} {bs : List Int}, intsOf ws = some bs → ws = bs.map W.int
  | [], _, h => by cases h; rfl
  | .int b :: ws, bs, h => by
    unfold intsOf at h
    cases e : intsOf ws with
    | none => rw [e] at h; cases h
    | some cs => rw [e] at h; cases h; rw [List.map_cons, ← intsOf_eq e]
  | .non :: _, _, h | .bl _ :: _, _, h | .str _ :: _, _, h | .tup _ :: _, _, h | .lst _ :: _, _, h | .dic _ _ :: _, _, h | .ins _ _ _ :: _, _, h | .ref _ :: _, _, h | .op _ :: _, _, h => by cases h
@[simp] theorem blsOf_map : ∀ bs : List Bool, blsOf (bs.map W.bl) = some bs
  | [] => rfl
  | b :: bs => by rw [List.map_cons, blsOf, blsOf_map bs]
@[simp] theorem intsOf_map : ∀ bs : List Int, intsOf (bs.map W.int) = some bs
  | [] => rfl
  | b :: bs => by rw [List.map_cons, intsOf, intsOf_map bs]
theorem RpAll.bls {c : Cf} : ∀ {bs : List Bool} {vs : List V}, c.RpAll Γ vs (bs.map W.bl) → vs = bs.map V.bl
  | [], _, r => by cases r; rfl
  | b :: bs, _, r => by
    cases r with
    | cons h t => cases h; rw [List.map_cons, RpAll.bls (c := c) t]
theorem RpAll.ints {c : Cf} : ∀ {bs : List Int} {vs : List V}, c.RpAll Γ vs (bs.map W.int) → vs = bs.map V.int
  | [], _, r => by cases r; rfl
  | b :: bs, _, r => by
    cases r with
    | cons h t => cases h; rw [List.map_cons, RpAll.ints (c := c) t]
theorem dp_bls {K : PySem.W.Frag} {H : Hp} : ∀ bs : List Bool, DpAll K H (bs.map V.bl) (bs.map PyData.bool)
  | [] => .nil
  | b :: bs => .cons (.bl b) (dp_bls bs)
theorem dp_ints {K : PySem.W.Frag} {H : Hp} : ∀ bs : List Int, DpAll K H (bs.map V.int) (bs.map PyData.int)
  | [] => .nil
  | b :: bs => .cons (.int b) (dp_ints bs)
theorem plain_bls : ∀ bs : List Bool, PyData.plainAll (bs.map PyData.bool) = true
  | [] => rfl
  | b :: bs => by simp only [List.map_cons, PyData.plainAll, plain_bls bs, PyData.plain, Bool.and_self]
theorem any_bls : ∀ bs : List Bool, (bs.map PyData.bool).any PyData.truthy = bs.any id
  | [] => rfl
  | b :: bs => by rw [List.map_cons, List.any_cons, List.any_cons, any_bls bs]; rfl
theorem all_bls : ∀ bs : List Bool, (bs.map PyData.bool).all PyData.truthy = bs.all id
  | [] => rfl
  | b :: bs => by rw [List.map_cons, List.all_cons, List.all_cons, all_bls bs]; rfl
theorem fits_bls (bs : List Bool) : ∀ x ∈ bs.map PyData.bool, x.fits63 := fun x h => by
  obtain ⟨b, _, rfl⟩ := List.mem_map.mp h
  trivial
theorem depth_ints : ∀ bs : List Int, PyData.depthAll (bs.map PyData.int) = 0
  | [] => rfl
  | b :: bs => by simp only [List.map_cons, PyData.depthAll, depth_ints bs, PyData.depth, Nat.max_self]
def rAnyB (K : PySem.W.Frag) : List V → Hp → VK → Prop := fun xs H Q => ∃ (a : Addr) (bs : List Bool), xs = [.ref a] ∧ (SqL K H a (bs.map V.bl) ∨ SqT K H a (bs.map V.bl)) ∧ Q (.bl (bs.any id)) H
def rAllB (K : PySem.W.Frag) : List V → Hp → VK → Prop := fun xs H Q => ∃ (a : Addr) (bs : List Bool), xs = [.ref a] ∧ (SqL K H a (bs.map V.bl) ∨ SqT K H a (bs.map V.bl)) ∧ Q (.bl (bs.all id)) H
theorem call_anyB (hc : X.calm = true) : CallR X (.builtin "any") (rAnyB X.K) := by
  intro pins s σ H xs us Q I r h
  obtain ⟨a, bs, rfl, hq, q⟩ := h
  obtain ⟨u, rfl, r1⟩ := r.one
  cases r1
  rcases hq with hq | hq
  · obtain ⟨its, rv, p, hz⟩ := I.list hq
    obtain ⟨as, hr⟩ := Dp.readsAll I _ _ its (dp_bls bs) rv
    refine PySem.W.any_list_data (I.ok.hd hc) p.isList hr (plain_bls bs) (fits_bls bs) fun h' tk k => ?_
    rw [any_bls]
    exact ⟨.bl _, H, I.kept k, rfl, q⟩
  · obtain ⟨its, rv, p, hz⟩ := I.tuple hq
    obtain ⟨as, hr⟩ := Dp.readsAll I _ _ its (dp_bls bs) rv
    refine PySem.W.any_tuple_data (I.ok.hd hc) (show s.heap.IsTuple a its.toArray from p) hr (plain_bls bs) (fits_bls bs) fun h' tk k => ?_
    rw [any_bls]
    exact ⟨.bl _, H, I.kept k, rfl, q⟩
theorem call_allB (hc : X.calm = true) : CallR X (.builtin "all") (rAllB X.K) := by
  intro pins s σ H xs us Q I r h
  obtain ⟨a, bs, rfl, hq, q⟩ := h
  obtain ⟨u, rfl, r1⟩ := r.one
  cases r1
  rcases hq with hq | hq
  · obtain ⟨its, rv, p, hz⟩ := I.list hq
    obtain ⟨as, hr⟩ := Dp.readsAll I _ _ its (dp_bls bs) rv
    refine PySem.W.all_list_data (I.ok.hd hc) p.isList hr (plain_bls bs) (fits_bls bs) fun h' tk k => ?_
    rw [all_bls]
    exact ⟨.bl _, H, I.kept k, rfl, q⟩
  · obtain ⟨its, rv, p, hz⟩ := I.tuple hq
    obtain ⟨as, hr⟩ := Dp.readsAll I _ _ its (dp_bls bs) rv
    refine PySem.W.all_tuple_data (I.ok.hd hc) (show s.heap.IsTuple a its.toArray from p) hr (plain_bls bs) (fits_bls bs) fun h' tk k => ?_
    rw [all_bls]
    exact ⟨.bl _, H, I.kept k, rfl, q⟩
def cAny : FC := fun ws G => match ws with
  | [w] => match sqs G w with
    | some us => match blsOf us with
      | some bs => .ok (.bl (bs.any id)) G
      | none => .no
    | none => .no
  | _ => .no
def cAll : FC := fun ws G => match ws with
  | [w] => match sqs G w with
    | some us => match blsOf us with
      | some bs => .ok (.bl (bs.all id)) G
      | none => .no
    | none => .no
  | _ => .no
theorem cf_any (hc : X.calm = true) (hK : Γ.K = X.K := by rfl) : CallF X Γ (.builtin "any") cAny := ⟨_, call_anyB hc, fun c vs ws Q E s ra h => by
  unfold cAny at h
  split at h
  · obtain ⟨v, rfl, r⟩ := RpAll.one (c := c) ra
    split at h
    · rename_i us e
      split at h
      · rename_i bs eb
        obtain ⟨p, xs, rfl, hq, rr⟩ := sqs_ok s e r
        rw [blsOf_eq eb] at rr
        cases RpAll.bls (c := c) rr
        exact ⟨p, bs, rfl, hq.imp (fun z => hK ▸ z) (fun z => hK ▸ z), h.pure s (.bl _)⟩
      · exact h.elim
    · exact h.elim
  · exact h.elim⟩
theorem cf_all (hc : X.calm = true) (hK : Γ.K = X.K := by rfl) : CallF X Γ (.builtin "all") cAll := ⟨_, call_allB hc, fun c vs ws Q E s ra h => by
  unfold cAll at h
  split at h
  · obtain ⟨v, rfl, r⟩ := RpAll.one (c := c) ra
    split at h
    · rename_i us e
      split at h
      · rename_i bs eb
        obtain ⟨p, xs, rfl, hq, rr⟩ := sqs_ok s e r
        rw [blsOf_eq eb] at rr
        cases RpAll.bls (c := c) rr
        exact ⟨p, bs, rfl, hq.imp (fun z => hK ▸ z) (fun z => hK ▸ z), h.pure s (.bl _)⟩
      · exact h.elim
    · exact h.elim
  · exact h.elim⟩
/-! ### min and max of numbers, default=d -/
theorem alike_ints (bs : List Int) : PySem.W.AlikeAll (bs.map PyData.int) := ⟨fun x hx y hy => by
  obtain ⟨i, _, rfl⟩ := List.mem_map.mp hx
  obtain ⟨j, _, rfl⟩ := List.mem_map.mp hy
  simp only [PySem.W.alike], fun x hx => by
  obtain ⟨i, _, rfl⟩ := List.mem_map.mp hx
  exact fun e => by cases e⟩
def bestOr (f : Int → Int → Int) (d : V) : List Int → V
  | [] => d
  | n :: ns => .int (ns.foldl f n)
def rBestD (K : PySem.W.Frag) (f : Int → Int → Int) : List V → List V → Hp → VK → Prop := fun xs zs H Q => ∃ (a : Addr) (ns : List Int) (d : V), xs = [.ref a] ∧ zs = [d] ∧ SqL K H a (ns.map V.int) ∧ Q (bestOr f d ns) H
theorem call_minD (hc : X.calm = true) (hu : X.A.units + 64 < cLine) : CallRK X (.builtin "min") [Str.ofString "default"] (rBestD X.K min) := by
  intro pins s σ H xs zs us ws Q I r rz h
  obtain ⟨a, ns, d, rfl, rfl, hq, q⟩ := h
  obtain ⟨u, rfl, r1⟩ := r.one
  obtain ⟨dv, rfl, r2⟩ := rz.one
  cases r1
  obtain ⟨its, rv, p, hz⟩ := I.list hq
  obtain ⟨as, hr⟩ := Dp.readsAll I _ _ its (dp_ints ns) rv
  refine PySem.W.min_list_default (d := dv) (I.ok.hd hc) p.isList hr (alike_ints ns) (by rw [depth_ints]; omega) (fun e h' tk k => ?_) fun y ys i v h' tk bs e ev hb k => ?_
  · have : ns = [] := List.map_eq_nil_iff.mp e
    subst this
    exact ⟨d, H, I.kept k, r2, q⟩
  · cases ns with
    | nil => cases e
    | cons n ns =>
      cases e
      rw [PySem.W.minD_ints] at hb
      cases hb
      exact ⟨.int _, H, I.kept k, ⟨_, rfl⟩, q⟩
theorem call_maxD (hc : X.calm = true) (hu : X.A.units + 64 < cLine) : CallRK X (.builtin "max") [Str.ofString "default"] (rBestD X.K max) := by
  intro pins s σ H xs zs us ws Q I r rz h
  obtain ⟨a, ns, d, rfl, rfl, hq, q⟩ := h
  obtain ⟨u, rfl, r1⟩ := r.one
  obtain ⟨dv, rfl, r2⟩ := rz.one
  cases r1
  obtain ⟨its, rv, p, hz⟩ := I.list hq
  obtain ⟨as, hr⟩ := Dp.readsAll I _ _ its (dp_ints ns) rv
  refine PySem.W.max_list_default (d := dv) (I.ok.hd hc) p.isList hr (alike_ints ns) (by rw [depth_ints]; omega) (fun e h' tk k => ?_) fun y ys i v h' tk bs e ev hb k => ?_
  · have : ns = [] := List.map_eq_nil_iff.mp e
    subst this
    exact ⟨d, H, I.kept k, r2, q⟩
  · cases ns with
    | nil => cases e
    | cons n ns =>
      cases e
      rw [PySem.W.maxD_ints] at hb
      cases hb
      exact ⟨.int _, H, I.kept k, ⟨_, rfl⟩, q⟩
abbrev FCK := List W → List W → GH → R W
def CallFK (X : Cx) (Γ : Gm) (f : Value) (ks : List Str) (g : FCK) : Prop :=
  ∃ r, CallRK X f ks r ∧ ∀ (c : Cf) (vs zs : List V) (ws us : List W) (Q : VK) (E : XK), SR Γ c → c.RpAll Γ vs ws → c.RpAll Γ zs us → Th Γ E (Cf.Rp Γ) c Q (g ws us c.G) → r vs zs c.H Q
def gCallK (g : FCK) (ga gk : FA) : FE := fun ρ G => (ga ρ G).bind fun ws G1 => (gk ρ G1).bind fun us G2 => g ws us G2
theorem PK.imp {k : List Keyword} {t t' : TA} (h : PK X k t) (m : ∀ σ H Q, t' σ H Q → t σ H Q) : PK X k t' := ⟨fun pos pins s σ H Q I q => h.run pos pins s σ H Q I (m σ H Q q)⟩
theorem fk_nil : PK X [] (absA Γ Z gNil) := PK.imp pk_nil fun σ H Q ⟨c, ρ, e, s, en, th⟩ => by
  subst e
  exact th c [] (Stp.refl c) s rfl .nil
theorem fk_cons {nm : Option Str} {e : Expr} {kpos : Pos} {kws : List Keyword} {g : FE} {gr : FA} (ha : PE X e (absE Γ Z g)) (hr : PK X kws (absA Γ Z gr)) : PK X (⟨nm, e, kpos⟩ :: kws) (absA Γ Z (gCons g gr)) := PK.imp (pk_cons ha hr) fun σ H Q q => by
  obtain ⟨c, ρ, e, s, en, th⟩ := absG.bind q
  refine ⟨c, ρ, e, s, en, Th.mono th fun v c1 st ⟨c2, ρ2, w, e2, s2, en2, rw, q⟩ => ?_⟩
  refine ⟨c2, ρ2, e2, s2, en2, Th.mono (Th.bind q) fun vs c3 st3 ⟨c4, ws, e4, st4, s4, rws, q4⟩ => ?_⟩
  rw [← e4]
  exact q4 c4 _ (Stp.refl c4) s4 rfl (.cons (st4.rp s2 rw) rws)
theorem fe_callK {id : String} {ks : List Str} {g : FCK} {ga gk : FA} {x : Str} {p pos : Pos} {e : Expr} {es : List Expr} {kws : List Keyword} (hc : CallFK X Γ (.builtin id) ks g) (hg : Gl X x) (hm : X.mg x = none) (hv : bootBuiltins x = some (.builtin id)) (ha : PA X (e :: es) (absA Γ Z ga)) (hk : PK X kws (absA Γ Z gk))
    (hn : x ≠ "__name__" := by decide) (hdb : (x == ("__debug__" : Str)) = false := by decide)
    (he : backTo pos (starEach (e :: es) X.env) = (false, eval e X.env) :: backTo pos (starEach es X.env) := by rfl) (hpl : (backTo pos (starEach (e :: es) X.env)).any (·.1) = false := by rfl)
    (hall : (backToKw pos (keywordEach kws X.env)).all (·.1.isSome) = true := by rfl) (hnone : (backToKw pos (keywordEach kws X.env)).any (·.1.isNone) = false := by rfl) (hks : (backToKw pos (keywordEach kws X.env)).filterMap (·.1) = ks := by rfl) :
    PE X (.Call (.Name x p) (e :: es) kws pos) (absE Γ Z (gCallK g ga gk)) := by
  obtain ⟨r, hr, h⟩ := hc
  refine PE.imp (pe_callBK hr hg hm hv ha hk hn hdb he hpl hall hnone hks) fun σ H Q q => ?_
  obtain ⟨c, ρ, e, s, en, th⟩ := absG.bind q
  refine ⟨c, ρ, e, s, en, Th.mono th fun vs c1 st ⟨c2, ρ2, ws, e2, s2, en2, ra, q⟩ => ?_⟩
  refine ⟨c2, ρ2, e2, s2, en2, Th.mono (Th.bind q) fun zs c3 st3 ⟨c4, us, e4, st4, s4, rb, q4⟩ => ?_⟩
  rw [← e4]
  exact h c4 vs zs ws us Q _ s4 (st4.rpAll s2 ra) rb q4
def bestW (f : Int → Int → Int) (d : W) : List Int → W
  | [] => d
  | n :: ns => .int (ns.foldl f n)
def cBest (f : Int → Int → Int) : FCK := fun ws us G => match ws, us with
  | [w], [d] => match lsq G w with
    | some us => match intsOf us with
      | some ns => .ok (bestW f d ns) G
      | none => .no
    | none => .no
  | _, _ => .no
theorem best_ok {f : Int → Int → Int} (hK : Γ.K = X.K) (c : Cf) (vs zs : List V) (ws us : List W) (Q : VK) (E : XK) (s : SR Γ c) (ra : c.RpAll Γ vs ws) (rz : c.RpAll Γ zs us) (h : Th Γ E (Cf.Rp Γ) c Q (cBest f ws us c.G)) : rBestD X.K f vs zs c.H Q := by
  unfold cBest at h
  split at h
  · obtain ⟨v, rfl, r⟩ := RpAll.one (c := c) ra
    obtain ⟨d, rfl, rd⟩ := RpAll.one (c := c) rz
    split at h
    · rename_i us e
      split at h
      · rename_i ns eb
        obtain ⟨p, xs, rfl, hq, rr⟩ := lsq_ok s e r
        rw [intsOf_eq eb] at rr
        cases RpAll.ints (c := c) rr
        refine ⟨p, ns, d, rfl, rfl, hK ▸ hq, ?_⟩
        cases ns with
        | nil => exact h.pure s rd
        | cons n ns => exact h.pure s (.int _)
      · exact h.elim
    · exact h.elim
  · exact h.elim
theorem cf_minD (hc : X.calm = true) (hu : X.A.units + 64 < cLine) (hK : Γ.K = X.K := by rfl) : CallFK X Γ (.builtin "min") [Str.ofString "default"] (cBest min) := ⟨_, call_minD hc hu, best_ok hK⟩
theorem cf_maxD (hc : X.calm = true) (hu : X.A.units + 64 < cLine) (hK : Γ.K = X.K := by rfl) : CallFK X Γ (.builtin "max") [Str.ofString "default"] (cBest max) := ⟨_, call_maxD hc hu, best_ok hK⟩
/-! ### l.insert(i, x) -/
def mInsert : W → List W → GH → R W := fun o ws G => match lw G o, ws with
  | some (n, xs), [.int i, w] => if xs.length < sizeLine ∧ 0 ≤ i ∧ i < 2 ^ 63 then .ok .non (G.set n (.lst (xs.take i.toNat ++ [w] ++ xs.drop i.toNat))) else .no
  | _, _ => .no
theorem mf_insert : MthF X Γ "list" "list.insert" mInsert := ⟨_, mt_insert, fun c o vs wo ws Q E s ro rv h => by
  unfold mInsert at h
  split at h
  · rename_i n xs i w e
    obtain ⟨a, ys, rfl, hH, r, hn, hG⟩ := lw_ok s e ro
    obtain ⟨v, x, rfl, r1, r2⟩ := RpAll.two (c := c) rv
    cases Rp.int_of (c := c) r1
    by_cases k : xs.length < sizeLine ∧ 0 ≤ i ∧ i < 2 ^ 63
    · rw [if_pos k] at h
      obtain ⟨st, s'⟩ := upd_own (ho := .lst (ys.take i.toNat ++ [x] ++ ys.drop i.toNat)) s hG hn (.lst (((r.take i.toNat).append (.cons r2 .nil)).append (r.drop i.toNat)))
      exact ⟨a, ys, i, x, rfl, rfl, hH, by rw [r.length]; exact k.1, k.2.1, k.2.2, h _ _ st s' rfl .non⟩
    · rw [if_neg k] at h; exact h.elim
  · exact h.elim⟩
end
end Fn

set_option Elab.async false
set_option linter.all false
set_option maxRecDepth 100000
namespace Fn
open PySem PySem.Spec PyProof.Rows L2

/-- what the law promises -/
def spLaw (K : PySem.W.Frag) : Sp := fun vs H Q _ => ∃ (a : Addr) (ns : List Int), vs = [.ref a] ∧ SqL K H a (ns.map V.int) ∧ ns.length ≤ 63 ∧ ∀ H', Q (.bl true) H'
def G0 : GH := ⟨0, fun _ => none⟩
theorem ints_all {Γ : Gm} {c : Cf} : ∀ ns : List Int, c.RpAll Γ (ns.map V.int) (ns.map W.int)
  | [] => .nil
  | n :: ns => .cons (.int n) (ints_all ns)
theorem law_end {K : PySem.W.Frag} {cls : Nat → Addr} {F : FC} (hF : ∀ ns : List Int, ns.length ≤ 63 → ∃ G, F [.lst (ns.map W.int)] G0 = .ok (.bl true) G) (vs : List V) (H : Hp) (Q : VK) (E : XK) (h : spLaw K vs H Q E) : absF ⟨K, cls⟩ 1 F vs H Q E := by
  obtain ⟨a, ns, rfl, hS, hl, q⟩ := h
  obtain ⟨G, e⟩ := hF ns hl
  have no : ¬ (⟨[], G0, H, fun _ => False⟩ : Cf).O a := fun z => by
    rcases z with ⟨n, o, z, _⟩ | z
    · cases z
    · exact z
  refine ⟨rfl, ⟨[], G0, H, fun _ => False⟩, [.lst (ns.map W.int)], rfl, ⟨rfl, .nil, fun b z => absurd z (by simp), fun n o z => (by cases z), fun b z => z.elim⟩, .cons ?_ .nil, ?_⟩
  · rcases hS with hS | ⟨o, its, n, h1, h2, h3, h4, h5, h6⟩
    · exact .lst hS no (ints_all ns)
    · exact .lstK h1 h2 h3 h4 h5 h6 (ints_all ns)
  · rw [e]
    intro c' v st s e r
    cases r
    exact q _
theorem law_binds {K : PySem.W.Frag} {st : Stmt} {f : Addr} {fd : FuncData} (F : Fun K "law" "law" st f fd) (h : ∀ (kV doc pm : Value) (an : Option Addr) (cdv ct : Value) (v : Value), bindArgs (PySem.W.fnOf "law" "law" (defArgs st) (defBody st) (defScope st) .none kV doc pm an cdv ct) ⟨[v], []⟩ = pure [(("script" : Str), v)]) (s : Shared) (v : Value) : BindsTo s fd ⟨[v], []⟩ [("script", v)] := by
  obtain ⟨oc, od, kV, doc, pm, an, cdv, ct, osl, e, lk, hcd⟩ := F.ex
  rw [e]
  exact .of_eq (h kV doc pm an cdv ct v)
end Fn

set_option Elab.async false
set_option linter.all false
set_option maxRecDepth 100000
namespace Fn
open PySem PySem.Spec PyProof.Rows L2
/-! ### the functions, evaluated -/
section
variable {α β : Type} {ρ : En} {G : GH} {w : W}
@[simp] theorem bind_ok (a : α) (G : GH) (f : α → GH → R β) : (R.ok a G).bind f = f a G := rfl
@[simp] theorem bind_no (f : α → GH → R β) : (R.no : R α).bind f = .no := rfl
@[simp] theorem bind_ex (x : Xn) (G : GH) (f : α → GH → R β) : (R.ex x G : R α).bind f = .ex x G := rfl
@[simp] theorem thn_ok (a : α) (G : GH) (f : α → GH → RS) : (R.ok a G).thn ρ f = f a G := rfl
@[simp] theorem thn_no (f : α → GH → RS) : (R.no : R α).thn ρ f = .no := rfl
@[simp] theorem seq_nx (f : En → GH → RS) : (RS.nx ρ G).seq f = f ρ G := rfl
@[simp] theorem seq_rt (f : En → GH → RS) : (RS.rt w G).seq f = .rt w G := rfl
@[simp] theorem seq_bk (f : En → GH → RS) : (RS.bk ρ G).seq f = .bk ρ G := rfl
@[simp] theorem seq_ct (f : En → GH → RS) : (RS.ct ρ G).seq f = .ct ρ G := rfl
@[simp] theorem seq_no (f : En → GH → RS) : RS.no.seq f = .no := rfl
@[simp] theorem calm_ok (a : α) (G : GH) : (R.ok a G).calm = .ok a G := rfl
@[simp] theorem fin_rt : (RS.rt w G).fin = .ok w G := rfl
@[simp] theorem fin_nx : (RS.nx ρ G).fin = .ok .non G := rfl
theorem thn_ite {c : Prop} [Decidable c] (a b : R α) (f : α → GH → RS) : (if c then a else b).thn ρ f = if c then a.thn ρ f else b.thn ρ f := by split <;> rfl
theorem bind_ite {c : Prop} [Decidable c] (a b : R α) (f : α → GH → R β) : (if c then a else b).bind f = if c then a.bind f else b.bind f := by split <;> rfl
theorem seq_ite {c : Prop} [Decidable c] (a b : RS) (f : En → GH → RS) : (if c then a else b).seq f = if c then a.seq f else b.seq f := by split <;> rfl

@[simp] theorem gSeq_ev (a b : FS) : gSeq a b ρ G = (a ρ G).seq b := by unfold gSeq; rfl
@[simp] theorem gNext_ev : gNext ρ G = .nx ρ G := rfl
@[simp] theorem gRet_ev (g : FE) : gRet g ρ G = (g ρ G).thn ρ fun w G1 => .rt w G1 := rfl
@[simp] theorem gRetN_ev : gRetN ρ G = .rt .non G := rfl
@[simp] theorem gDrop_ev (g : FE) : gDrop g ρ G = (g ρ G).thn ρ fun _ G1 => .nx ρ G1 := rfl
@[simp] theorem gIfS_ev (t : FT) (a b : FS) : gIfS t a b ρ G = (t ρ G).thn ρ fun k G1 => if k then a ρ G1 else b ρ G1 := rfl
@[simp] theorem gAsg_ev (g : FE) (t : FG1) : gAsg g t ρ G = (g ρ G).thn ρ fun w G1 => match t w ρ G1 with
  | some (ρ', G') => .nx ρ' G'
  | none => .no := rfl
@[simp] theorem tgName_ev (i : Nat) : tgName i w ρ G = some (ρ.set i (some w), G) := rfl
@[simp] theorem tgTup_ev (n : Nat) (r : FGs) (ws : List W) : tgTup n r (.tup ws) ρ G = if ws.length = n then r ws ρ G else none := rfl
@[simp] theorem tgCons_ev (g : FG1) (r : FGs) (ws : List W) : tgCons g r (w :: ws) ρ G = match g w ρ G with
  | some (ρ', G') => r ws ρ' G'
  | none => none := rfl
@[simp] theorem tgNil_ev : tgNil [] ρ G = some (ρ, G) := rfl
@[simp] theorem gSet_ev (gv go gi : FE) : gSet gv go gi ρ G = (gv ρ G).thn ρ fun v G1 => (go ρ G1).thn ρ fun o G2 => (gi ρ G2).thn ρ fun i G3 => match fSet o i v G3 with
  | some G4 => .nx ρ G4
  | none => .no := rfl
@[simp] theorem gVar_ev {i : Nat} (h : ρ[i]? = some (some w)) : gVar i ρ G = .ok w G := by unfold gVar; rw [h]
@[simp] theorem gC_ev : gC w ρ G = .ok w G := rfl
@[simp] theorem gOp_ev (f : F2) (a b : FE) : gOp f a b ρ G = (a ρ G).bind fun x G1 => (b ρ G1).bind fun y G2 => f x y G2 := rfl
@[simp] theorem gTest_ev (g : FE) : gTest g ρ G = (g ρ G).bind asB := rfl
@[simp] theorem asB_ev (b : Bool) : asB (.bl b) G = .ok b G := rfl
@[simp] theorem gTru_ev (g : FE) : gTru g ρ G = (g ρ G).bind asTru := rfl
@[simp] theorem gNotT_ev (g : FT) : gNotT g ρ G = (g ρ G).bind fun b G => .ok (!b) G := rfl
@[simp] theorem gAndT_ev (a b : FT) : gAndT a b ρ G = (a ρ G).bind fun k G => if k then b ρ G else .ok false G := rfl
@[simp] theorem gOrT_ev (a b : FT) : gOrT a b ρ G = (a ρ G).bind fun k G => if k then .ok true G else b ρ G := rfl
@[simp] theorem gIf_ev (t : FT) (a b : FE) : gIf t a b ρ G = (t ρ G).bind fun k G => if k then a ρ G else b ρ G := rfl
@[simp] theorem gNil_ev : gNil ρ G = .ok [] G := rfl
@[simp] theorem gCons_ev (g : FE) (r : FA) : gCons g r ρ G = (g ρ G).bind fun w G1 => (r ρ G1).bind fun ws G2 => .ok (w :: ws) G2 := rfl
@[simp] theorem gCall_ev (g : FC) (a : FA) : gCall g a ρ G = (a ρ G).bind g := rfl
@[simp] theorem gAnd_ev (a b : FE) : gAnd a b ρ G = (a ρ G).bind fun x G1 => match truW G1 x with
  | some true => b ρ G1
  | some false => .ok x G1
  | none => .no := rfl
@[simp] theorem gOr_ev (a b : FE) : gOr a b ρ G = (a ρ G).bind fun x G1 => match truW G1 x with
  | some true => .ok x G1
  | some false => b ρ G1
  | none => .no := rfl
@[simp] theorem gNot_ev (a : FE) : gNot a ρ G = (a ρ G).bind fun x G1 => match truW G1 x with
  | some b => .ok (.bl (!b)) G1
  | none => .no := rfl
@[simp] theorem gNeg_ev (g : FE) : gNeg g ρ G = (g ρ G).bind fun a G1 => match a with
  | .int i => .ok (.int (-i)) G1
  | _ => .no := rfl
theorem len_le (n : Nat) (h : n ≤ 16777216 := by decide) : n ≤ sizeLine := by rw [sizeLine_eq]; exact h
@[simp] theorem gTup_ev (g : FA) : gTup g ρ G = (g ρ G).bind fun ws G1 => if ws.length ≤ sizeLine then .ok (.tup ws) G1 else .no := rfl
@[simp] theorem gLst_ev (o : Bool) (g : FA) : gLst o g ρ G = (g ρ G).bind fun ws G1 => if ws.length ≤ sizeLine then mkL o ws G1 else .no := rfl
@[simp] theorem mkL_true (ws : List W) : mkL true ws G = .ok (.ref G.n) (G.push (.lst ws)) := rfl
@[simp] theorem mkL_false (ws : List W) : mkL false ws G = .ok (.lst ws) G := rfl
@[simp] theorem cFn_ev {n : Nat} {F : FC} {ws : List W} (h : ws.length = n) : cFn n F ws G = (F ws G).calm := by unfold cFn; rw [if_pos h]
@[simp] theorem gFrz_ev (g : FE) : gFrz g ρ G = (g ρ G).bind frz := rfl
@[simp] theorem gSl_ev (o : Bool) (g : FE) (l h : FO) : gSl o g l h ρ G = (g ρ G).bind fun w G1 => (l ρ G1).bind fun i G2 => (h ρ G2).bind fun j G3 => fSl o w i j G3 := rfl
@[simp] theorem gNoPart_ev : gNoPart ρ G = .ok none G := rfl
@[simp] theorem gPart_ev (g : FE) : gPart g ρ G = (g ρ G).bind fun w G1 => match w with
  | .int i => .ok (some i) G1
  | _ => .no := rfl
@[simp] theorem gPar_ev (i j : Nat) (a : FA) : gPar i j a ρ G = (a ρ G).thn ρ fun ws G1 => match ws with
  | [a, b] => .nx ((ρ.set i (some a)).set j (some b)) G1
  | _ => .no := rfl
@[simp] theorem gFor_ev (gi : FI) (t : FG1) (b : FS) : gFor gi t b ρ G = (gi ρ G).thn ρ fun k G1 => forW t b k ρ G1 := rfl
@[simp] theorem forW_vals (t : FG1) (b : FS) (ws : List W) : forW t b (.vals ws) ρ G = forF t b ws ρ G := rfl
@[simp] theorem forW_own (t : FG1) (b : FS) (n : Nat) : forW t b (.own n) ρ G = forO n t b (lenO G n) 0 ρ G := rfl
@[simp] theorem iSeq_ev (g : FE) : iSeq g ρ G = (g ρ G).bind asSeq := rfl
@[simp] theorem asSeq_l (ws : List W) : asSeq (.lst ws) G = .ok (.vals ws) G := rfl
@[simp] theorem asSeq_t (ws : List W) : asSeq (.tup ws) G = .ok (.vals ws) G := rfl
@[simp] theorem iRng_ev (f : List W → GH → R Wk) (g : FA) : iRng f g ρ G = (g ρ G).bind f := rfl
theorem iteB {γ : Type} {b : Bool} {x y : γ} : (if b = true then x else y) = bif b then x else y := by cases b <;> rfl

/-! ### operators -/
@[simp] theorem fAdd_i (o : Bool) (i j : Int) : fAddL o (.int i) (.int j) G = .ok (.int (i + j)) G := rfl
@[simp] theorem fSub_i (i j : Int) : fSub (.int i) (.int j) G = .ok (.int (i - j)) G := rfl
@[simp] theorem fLt_i (i j : Int) : fLt (.int i) (.int j) G = .ok (.bl (decide (i < j))) G := rfl
@[simp] theorem fLe_i (i j : Int) : fLe (.int i) (.int j) G = .ok (.bl (decide (i ≤ j))) G := rfl
@[simp] theorem fGt_i (i j : Int) : fGt (.int i) (.int j) G = .ok (.bl (decide (j < i))) G := rfl
@[simp] theorem fGe_i (i j : Int) : fGe (.int i) (.int j) G = .ok (.bl (decide (j ≤ i))) G := rfl
theorem fMul_i {i j : Int} (h : (-(2 ^ 64) < i ∧ i < 2 ^ 64) ∨ (-(2 ^ 64) < j ∧ j < 2 ^ 64)) : fMul (.int i) (.int j) G = .ok (.int (i * j)) G := by
  unfold fMul
  simp only
  rw [if_pos]
  rcases h with h | h
  · exact .inl h
  · exact .inr (.inl h)
theorem fDiv_i {i j : Int} (h : 0 < j) (h2 : j.natAbs.log2 < 9000) : fDiv (.int i) (.int j) G = .ok (.int (i / j)) G := by
  unfold fDiv
  simp only
  rw [if_pos ⟨h, h2⟩]
theorem fMod_i {i j : Int} (h : 0 < j) : fMod (.int i) (.int j) G = .ok (.int (i % j)) G := by
  unfold fMod
  simp only
  rw [if_pos h]
@[simp] theorem fPow_i (i j : Int) : fPow (.int i) (.int j) G = if 0 ≤ j ∧ j ≤ 1000000 ∧ i.natAbs < 2 ^ 64 then .ok (.int (i ^ j.toNat)) G else .no := rfl
@[simp] theorem cInt_i (i : Int) : cInt [.int i] G = .ok (.int i) G := rfl
@[simp] theorem cInt_b (b : Bool) : cInt [.bl b] G = .ok (.int (if b then 1 else 0)) G := rfl
@[simp] theorem set_same {n : Nat} {o : AO} : (G.set n o).at_ n = some o := by simp [GH.set]
@[simp] theorem set_n {n : Nat} {o : AO} : (G.set n o).n = G.n := rfl
theorem set_ne {m n : Nat} {o : AO} (h : m ≠ n) : (G.set n o).at_ m = G.at_ m := by simp [GH.set, h]
@[simp] theorem set_set {n : Nat} {o u : AO} : (G.set n o).set n u = G.set n u := by
  unfold GH.set
  congr 1
  funext j
  simp only
  split <;> rfl
theorem set_self {n : Nat} {o : AO} (h : G.at_ n = some o) : G.set n o = G := by
  unfold GH.set
  cases G with
  | mk k f =>
    congr 1
    funext j
    simp only
    split
    · rename_i e; subst e; exact h.symm
    · rfl
@[simp] theorem push_same {o : AO} : (G.push o).at_ G.n = some o := by simp [GH.push]
theorem push_ne {m : Nat} {o : AO} (h : m ≠ G.n) : (G.push o).at_ m = G.at_ m := by simp [GH.push, h]
@[simp] theorem push_n {o : AO} : (G.push o).n = G.n + 1 := rfl
section
variable {a b c d e f : α} {l : List α}
@[simp] theorem atI_0 : L2.atI (a :: l) 0 = some a := L2.atI_nat (j := 0) rfl
@[simp] theorem atI_1 : L2.atI (a :: b :: l) 1 = some b := L2.atI_nat (j := 1) rfl
@[simp] theorem atI_2 : L2.atI (a :: b :: c :: l) 2 = some c := L2.atI_nat (j := 2) rfl
@[simp] theorem atI_3 : L2.atI (a :: b :: c :: d :: l) 3 = some d := L2.atI_nat (j := 3) rfl
@[simp] theorem atI_4 : L2.atI (a :: b :: c :: d :: e :: l) 4 = some e := L2.atI_nat (j := 4) rfl
@[simp] theorem atI_5 : L2.atI (a :: b :: c :: d :: e :: f :: l) 5 = some f := L2.atI_nat (j := 5) rfl
end
theorem atI_at {l : List α} {i : Int} {x : α} (h0 : 0 ≤ i) (h : l[i.toNat]? = some x) : L2.atI l i = some x := by
  have := L2.atI_nat h
  rwa [Int.toNat_of_nonneg h0] at this
def optR (o : Option W) (G : GH) : R W := match o with
  | some w => .ok w G
  | none => .no
@[simp] theorem optR_some : optR (some w) G = .ok w G := rfl
@[simp] theorem fIx_ref (n : Nat) (i : Int) : fIx (.ref n) (.int i) G = match G.at_ n with
  | some (.lst ws) => optR (L2.atI ws i) G
  | _ => .no := by
  show (match sqs G (.ref n) with | some ws => (match L2.atI ws i with | some w => R.ok w G | none => .no) | none => .no) = _
  have e : sqs G (.ref n) = lsq G (.ref n) := by unfold sqs; rfl
  rw [e]
  unfold lsq
  simp only
  cases h : G.at_ n with
  | none => rfl
  | some o => cases o <;> rfl
@[simp] theorem fIx_tup (ws : List W) (i : Int) : fIx (.tup ws) (.int i) G = optR (L2.atI ws i) G := rfl
@[simp] theorem fIx_lst (ws : List W) (i : Int) : fIx (.lst ws) (.int i) G = optR (L2.atI ws i) G := rfl
theorem fSet_ref {n j : Nat} {ws : List W} {k : Int} {v : W} (h : G.at_ n = some (.lst ws)) (e : L2.ixN ws.length k = some j) : fSet (.ref n) (.int k) v G = some (G.set n (.lst (ws.set j v))) := by
  unfold fSet
  simp only [h, e]
def setG (n : Nat) (ws : List W) (k : Int) (v : W) (G : GH) : Option GH := match L2.ixN ws.length k with
  | some j => some (G.set n (.lst (ws.set j v)))
  | none => none
@[simp] theorem fSet_ev (n : Nat) (k : Int) (v : W) : fSet (.ref n) (.int k) v G = match G.at_ n with
  | some (.lst ws) => setG n ws k v G
  | _ => none := rfl
section
variable {n : Nat} {a b c d e v : W} {l : List W}
@[simp] theorem setG_0 : setG n (a :: l) 0 v G = some (G.set n (.lst (v :: l))) := by
  unfold setG; rw [show L2.ixN (a :: l).length 0 = some 0 by unfold L2.ixN; simp]; rfl
@[simp] theorem setG_1 : setG n (a :: b :: l) 1 v G = some (G.set n (.lst (a :: v :: l))) := by
  unfold setG; rw [show L2.ixN (a :: b :: l).length 1 = some 1 by unfold L2.ixN; simp; omega]; rfl
@[simp] theorem setG_2 : setG n (a :: b :: c :: l) 2 v G = some (G.set n (.lst (a :: b :: v :: l))) := by
  unfold setG; rw [show L2.ixN (a :: b :: c :: l).length 2 = some 2 by unfold L2.ixN; simp; omega]; rfl
@[simp] theorem setG_3 : setG n (a :: b :: c :: d :: l) 3 v G = some (G.set n (.lst (a :: b :: c :: v :: l))) := by
  unfold setG; rw [show L2.ixN (a :: b :: c :: d :: l).length 3 = some 3 by unfold L2.ixN; simp; omega]; rfl
end
@[simp] theorem truW_non : truW G .non = some false := rfl
@[simp] theorem truW_bl (b : Bool) : truW G (.bl b) = some b := rfl
@[simp] theorem truW_int (i : Int) : truW G (.int i) = some (i != 0) := rfl
@[simp] theorem truW_tup (ws : List W) : truW G (.tup ws) = some (!ws.isEmpty) := rfl
@[simp] theorem truW_lst (ws : List W) : truW G (.lst ws) = some (!ws.isEmpty) := rfl
@[simp] theorem asTru_bl (b : Bool) : asTru (.bl b) G = .ok b G := rfl
@[simp] theorem asTru_lst (ws : List W) : asTru (.lst ws) G = .ok (!ws.isEmpty) G := rfl
@[simp] theorem asTru_tup (ws : List W) : asTru (.tup ws) G = .ok (!ws.isEmpty) G := rfl
@[simp] theorem cLen_lst (ws : List W) : cLen [.lst ws] G = .ok (.int ws.length) G := rfl
@[simp] theorem cLen_tup (ws : List W) : cLen [.tup ws] G = .ok (.int ws.length) G := rfl
@[simp] theorem fIsN_f (b : Bool) {a : W} {k : Bool} (h : isNon a = some k) : fIsN b a .non G = .ok (.bl (if b then !k else k)) G := by unfold fIsN; simp only [h]
@[simp] theorem fIsB_f (b : Bool) {a : W} {k : Bool} {o : Option Bool} (h : plB a = some o) : fIsB b a (.bl k) G = .ok (.bl (if b then !decide (o = some k) else decide (o = some k))) G := by unfold fIsB; simp only [h]
end
end Fn

set_option Elab.async false
set_option linter.all false
set_option maxRecDepth 100000
namespace Fn
open PySem PySem.Spec PyProof.Rows L2
/-! ### equality -/
mutual
/-- data without truth values -/
def W.nb : W → Bool
  | .non | .int _ | .str _ => true
  | .tup ws | .lst ws => W.nbs ws
  | _ => false
def W.nbs : List W → Bool
  | [] => true
  | w :: ws => W.nb w && W.nbs ws
end
mutual
theorem W.pl_of_nb : ∀ w : W, w.nb = true → w.pl = true
  | .non, _ | .int _, _ | .str _, _ => rfl
  | .tup ws, h | .lst ws, h => by simp only [W.pl]; exact W.pls_of_nbs ws (by simpa [W.nb] using h)
  | .bl _, h | .dic _ _, h | .ins _ _ _, h | .ref _, h | .op _, h => by cases h
theorem W.pls_of_nbs : ∀ ws : List W, W.nbs ws = true → W.pls ws = true
  | [], _ => rfl
  | w :: ws, h => by
    simp only [W.nbs, Bool.and_eq_true] at h
    simp only [W.pls, W.pl_of_nb w h.1, W.pls_of_nbs ws h.2, Bool.and_self]
end
mutual
theorem eqW_iff : ∀ a b : W, a.nb = true → b.nb = true → (eqW a b = true ↔ a = b)
  | .non, b, _, hb => by cases b <;> first | (cases hb; done) | simp [eqW]
  | .int i, b, _, hb => by cases b <;> first | (cases hb; done) | simp [eqW]
  | .str x, b, _, hb => by cases b <;> first | (cases hb; done) | simp [eqW]
  | .tup xs, b, ha, hb => by
    cases b with
    | tup ys => simp only [eqW, W.tup.injEq]; exact eqWs_iff xs ys (by simpa [W.nb] using ha) (by simpa [W.nb] using hb)
    | _ => first | (cases hb; done) | simp [eqW]
  | .lst xs, b, ha, hb => by
    cases b with
    | lst ys => simp only [eqW, W.lst.injEq]; exact eqWs_iff xs ys (by simpa [W.nb] using ha) (by simpa [W.nb] using hb)
    | _ => first | (cases hb; done) | simp [eqW]
  | .bl _, _, h, _ | .dic _ _, _, h, _ | .ins _ _ _, _, h, _ | .ref _, _, h, _ | .op _, _, h, _ => by cases h
theorem eqWs_iff : ∀ xs ys : List W, W.nbs xs = true → W.nbs ys = true → (eqWs xs ys = true ↔ xs = ys)
  | [], [], _, _ => by simp [eqWs]
  | [], _ :: _, _, _ => by simp [eqWs]
  | _ :: _, [], _, _ => by simp [eqWs]
  | x :: xs, y :: ys, ha, hb => by
    simp only [W.nbs, Bool.and_eq_true] at ha hb
    simp only [eqWs, Bool.and_eq_true, List.cons.injEq, eqW_iff x y ha.1 hb.1, eqWs_iff xs ys ha.2 hb.2]
end
section
variable {G : GH}
@[simp] theorem fEq_i (i j : Int) : fEq (.int i) (.int j) G = .ok (.bl (decide (i = j))) G := by rw [← Bool.beq_eq_decide_eq]; rfl
@[simp] theorem fEq_s (i j : Str) : fEq (.str i) (.str j) G = .ok (.bl (decide (i = j))) G := by rw [← Bool.beq_eq_decide_eq]; rfl
@[simp] theorem fEq_b (i j : Bool) : fEq (.bl i) (.bl j) G = .ok (.bl (i == j)) G := rfl
@[simp] theorem fNe_i (i j : Int) : fNe (.int i) (.int j) G = .ok (.bl (!decide (i = j))) G := by rw [← Bool.beq_eq_decide_eq]; rfl
@[simp] theorem fNe_s (i j : Str) : fNe (.str i) (.str j) G = .ok (.bl (!decide (i = j))) G := by rw [← Bool.beq_eq_decide_eq]; rfl
@[simp] theorem fNe_b (i j : Bool) : fNe (.bl i) (.bl j) G = .ok (.bl (!(i == j))) G := rfl
@[simp] theorem isNon_int (m : Int) : Fn.isNon (.int m) = some false := rfl
@[simp] theorem isNon_non : Fn.isNon .non = some true := rfl
@[simp] theorem isNon_bl (b : Bool) : Fn.isNon (.bl b) = some false := rfl
@[simp] theorem isNon_str (b : Str) : Fn.isNon (.str b) = some false := rfl
@[simp] theorem isNon_tup (b : List W) : Fn.isNon (.tup b) = some false := rfl
@[simp] theorem isNon_lst (b : List W) : Fn.isNon (.lst b) = some false := rfl
@[simp] theorem isNon_ins (c : Nat) (f : List Str) (b : List W) : Fn.isNon (.ins c f b) = some false := rfl
theorem res_nb {w : W} (h : w.nb = true) : res G w = w := by
  cases w with
  | ref n => cases h
  | _ => rfl
theorem fEq_nb {a b : W} (ha : a.nb = true) (hb : b.nb = true) (hd : min a.dep b.dep ≤ 60) : fEq a b G = .ok (.bl (eqW a b)) G := by
  unfold fEq eqOk
  rw [res_nb ha, res_nb hb, W.pl_of_nb a ha, W.pl_of_nb b hb, decide_eq_true hd]
  rfl
theorem fNe_nb {a b : W} (ha : a.nb = true) (hb : b.nb = true) (hd : min a.dep b.dep ≤ 60) : fNe a b G = .ok (.bl (!eqW a b)) G := by
  unfold fNe eqOk
  rw [res_nb ha, res_nb hb, W.pl_of_nb a ha, W.pl_of_nb b hb, decide_eq_true hd]
  rfl
theorem cIsa_nb {w : W} {T : String} {b : Bool} (h : w.nb = true) (e : isaW T w = some b) : cIsa [w, .op (.ty T)] G = .ok (.bl b) G := by
  unfold cIsa
  simp only [res_nb h, W.pl_of_nb w h, e, if_true]
theorem eqW_self {a : W} (ha : a.nb = true) : eqW a a = true := (eqW_iff a a ha ha).mpr rfl
theorem eqW_ne {a b : W} (ha : a.nb = true) (hb : b.nb = true) (h : a ≠ b) : eqW a b = false := by
  cases e : eqW a b with
  | false => rfl
  | true => exact absurd ((eqW_iff a b ha hb).mp e) h
theorem eqW_comm {a b : W} (ha : a.nb = true) (hb : b.nb = true) : eqW a b = eqW b a := by
  cases e : eqW a b with
  | true => rw [(eqW_iff a b ha hb).mp e, eqW_self hb]
  | false => rw [eqW_ne hb ha (fun z => by rw [z, eqW_self ha] at e; cases e)]
theorem str_inj {a b : String} : Str.ofString a = Str.ofString b ↔ a = b := by
  refine ⟨fun h => ?_, fun h => by rw [h]⟩
  rw [Str.ofString_eq_toList, Str.ofString_eq_toList, Str.mk.injEq] at h
  have h2 : a.toList.map Char.toNat = b.toList.map Char.toNat := by
    have := congrArg Array.toList h
    simpa using this
  have inj : ∀ (x y : List Char), x.map Char.toNat = y.map Char.toNat → x = y := by
    intro x
    induction x with
    | nil => intro y h; cases y with
      | nil => rfl
      | cons _ _ => simp at h
    | cons c x ih => intro y h; cases y with
      | nil => simp at h
      | cons d y =>
        simp only [List.map_cons, List.cons.injEq] at h
        rw [ih y h.2, Char.ext (UInt32.toNat_inj.mp h.1)]
  exact String.toList_inj.mp (inj _ _ h2)
@[simp] theorem str_lit {a b : String} : (Str.ofString a = Str.ofString b) = (a = b) := propext str_inj
theorem lens (n : Nat) (h : n ≤ 1000 := by decide) : n ≤ sizeLine := by rw [sizeLine_eq]; omega
end
end Fn

set_option Elab.async false
set_option linter.all false
set_option maxRecDepth 100000
namespace Fn
open PySem PySem.Spec PyProof.Rows L2
/-! ### loops, evaluated -/
section
variable {ρ ρw : En} {G : GH} {w : W}
@[simp] theorem forF_nil (t : FG1) (b : FS) : forF t b [] ρ G = .nx ρ G := rfl
theorem forF_nx {t : FG1} {b : FS} {ws : List W} {ρ1 ρ2 : En} {G1 G2 : GH} (e : t w ρ G = some (ρ1, G1)) (h : b ρ1 G1 = .nx ρ2 G2) : forF t b (w :: ws) ρ G = forF t b ws ρ2 G2 := by
  simp only [forF, turnF, e, h]
theorem forF_ct {t : FG1} {b : FS} {ws : List W} {ρ1 ρ2 : En} {G1 G2 : GH} (e : t w ρ G = some (ρ1, G1)) (h : b ρ1 G1 = .ct ρ2 G2) : forF t b (w :: ws) ρ G = forF t b ws ρ2 G2 := by
  simp only [forF, turnF, e, h]
theorem forF_rt {t : FG1} {b : FS} {ws : List W} {ρ1 : En} {v : W} {G1 G2 : GH} (e : t w ρ G = some (ρ1, G1)) (h : b ρ1 G1 = .rt v G2) : forF t b (w :: ws) ρ G = .rt v G2 := by
  simp only [forF, turnF, e, h]
theorem forF_bk {t : FG1} {b : FS} {ws : List W} {ρ1 ρ2 : En} {G1 G2 : GH} (e : t w ρ G = some (ρ1, G1)) (h : b ρ1 G1 = .bk ρ2 G2) : forF t b (w :: ws) ρ G = .nx ρ2 G2 := by
  simp only [forF, turnF, e, h]
/-- what holds ahead of each turn -/
theorem for_inv {t : FG1} {b : FS} (I : En → GH → Prop) : ∀ (ws : List W), (∀ w ∈ ws, ∀ ρ G, I ρ G → ∃ ρ1 G1 ρ2 G2, t w ρ G = some (ρ1, G1) ∧ (b ρ1 G1 = .nx ρ2 G2 ∨ b ρ1 G1 = .ct ρ2 G2) ∧ I ρ2 G2) →
    ∀ ρ G, I ρ G → ∃ ρ' G', forF t b ws ρ G = .nx ρ' G' ∧ I ρ' G'
  | [], _, ρ, G, h => ⟨ρ, G, rfl, h⟩
  | w :: ws, st, ρ, G, h => by
    obtain ⟨ρ1, G1, ρ2, G2, e1, e2, h2⟩ := st w (List.mem_cons_self) ρ G h
    obtain ⟨ρ', G', e3, h3⟩ := for_inv I ws (fun w m => st w (List.mem_cons_of_mem _ m)) ρ2 G2 h2
    rcases e2 with e2 | e2
    · exact ⟨ρ', G', by rw [forF_nx e1 e2]; exact e3, h3⟩
    · exact ⟨ρ', G', by rw [forF_ct e1 e2]; exact e3, h3⟩
/-- what holds ahead of each turn, with its number -/
theorem for_invN {t : FG1} {b : FS} (I : Nat → En → GH → Prop) : ∀ (ws : List W) (i : Nat), (∀ j w, ws[j]? = some w → ∀ ρ G, I (i + j) ρ G → ∃ ρ1 G1 ρ2 G2, t w ρ G = some (ρ1, G1) ∧ (b ρ1 G1 = .nx ρ2 G2 ∨ b ρ1 G1 = .ct ρ2 G2) ∧ I (i + j + 1) ρ2 G2) →
    ∀ ρ G, I i ρ G → ∃ ρ' G', forF t b ws ρ G = .nx ρ' G' ∧ I (i + ws.length) ρ' G'
  | [], i, _, ρ, G, h => ⟨ρ, G, rfl, h⟩
  | w :: ws, i, st, ρ, G, h => by
    obtain ⟨ρ1, G1, ρ2, G2, e1, e2, h2⟩ := st 0 w rfl ρ G h
    obtain ⟨ρ', G', e3, h3⟩ := for_invN I ws (i + 1) (fun j w m ρ G q => by
      have := st (j + 1) w (by simpa using m) ρ G (by rw [show i + (j + 1) = i + 1 + j by omega]; exact q)
      rwa [show i + (j + 1) + 1 = i + 1 + j + 1 by omega] at this) ρ2 G2 h2
    have h3 : I (i + (w :: ws).length) ρ' G' := by rw [show i + (w :: ws).length = i + 1 + ws.length by rw [List.length_cons]; omega]; exact h3
    rcases e2 with e2 | e2
    · exact ⟨ρ', G', by rw [forF_nx e1 e2]; exact e3, h3⟩
    · exact ⟨ρ', G', by rw [forF_ct e1 e2]; exact e3, h3⟩
@[simp] theorem lcW_vals (t : FG1) (tt : FT) (te : FE) (ws : List W) : lcW t tt te ρw (.vals ws) G = lcF t tt te ρw ws G := rfl
@[simp] theorem lcW_own (t : FG1) (tt : FT) (te : FE) (n : Nat) : lcW t tt te ρw (.own n) G = lcO n t tt te ρw (lenO G n) 0 G := rfl
@[simp] theorem gYes_ev : gYes ρ G = .ok true G := rfl
@[simp] theorem gLc_ev (own : Bool) (gi : FI) (t : FG1) (tt : FT) (te : FE) (vs : List Nat) : gLc own gi t tt te vs ρ G = (gi ρ G).bind fun k G1 => (lcW t tt te (wipeW ρ vs) k G1).calm.bind fun r G2 => if r.length ≤ sizeLine then mkL own r G2 else .no := rfl
/-- a list comprehension with no test and no effect, as a map -/
theorem lc_map {t : FG1} {te : FE} (f : W → W) : ∀ (ws : List W), (∀ w ∈ ws, ∃ ρ1, t w ρw G = some (ρ1, G) ∧ te ρ1 G = .ok (f w) G) → lcF t gYes te ρw ws G = .ok (ws.map f) G
  | [], _ => rfl
  | w :: ws, st => by
    obtain ⟨ρ1, e1, e2⟩ := st w (List.mem_cons_self)
    have ih := lc_map f ws fun w m => st w (List.mem_cons_of_mem _ m)
    rw [lcF, lcTurn, e1]
    simp [e2, ih, addO]
/-- a list comprehension with a test and no effect -/
theorem lc_filter {t : FG1} {tt : FT} {te : FE} (p : W → Bool) (f : W → W) : ∀ (ws : List W), (∀ w ∈ ws, ∃ ρ1, t w ρw G = some (ρ1, G) ∧ tt ρ1 G = .ok (p w) G ∧ (p w = true → te ρ1 G = .ok (f w) G)) → lcF t tt te ρw ws G = .ok ((ws.filter p).map f) G
  | [], _ => rfl
  | w :: ws, st => by
    obtain ⟨ρ1, e1, e2, e3⟩ := st w (List.mem_cons_self)
    have ih := lc_filter p f ws fun w m => st w (List.mem_cons_of_mem _ m)
    rw [lcF, lcTurn, e1]
    cases h : p w with
    | true => simp [e2, e3 h, ih, addO, h]
    | false => simp [e2, ih, addO, h]
@[simp] theorem fSl_lst (own : Bool) (ws : List W) (i j : Option Int) : fSl own (.lst ws) i j G = mkL own (cutW ws i j) G := rfl
@[simp] theorem fSl_tup (own : Bool) (ws : List W) (i j : Option Int) : fSl own (.tup ws) i j G = .ok (.tup (cutW ws i j)) G := rfl
theorem cut_all {ws : List W} {k : Nat} (h : ws.length ≤ k) : cutW ws none (some (k : Int)) = ws := by
  unfold cutW
  rw [HT.sIx_nat, HT.sIx_none, List.drop_zero, Nat.min_eq_right h, Nat.sub_zero, List.take_length]
@[simp] theorem asRng1_ev (j : Int) : asRng1 [.int j] G = if small62 j then .ok (.vals (rngW 0 j.toNat)) G else .no := rfl
/-- an owned list that no turn changes is walked like its items -/
theorem lcO_eq {n : Nat} {us : List W} {t : FG1} {tt : FT} {te : FE} (h : G.at_ n = some (.lst us)) (st : ∀ w ∈ us, ∃ o, lcTurn t tt te ρw w G = .ok o G) : ∀ k i, i + k = us.length → lcO n t tt te ρw k i G = lcF t tt te ρw (us.drop i) G
  | 0, i, e => by
    unfold lcO
    simp only [h]
    rw [if_pos (by omega), List.drop_eq_nil_of_le (by omega)]
    rfl
  | k + 1, i, e => by
    have hi : i < us.length := by omega
    obtain ⟨o, eo⟩ := st us[i] (List.getElem_mem hi)
    unfold lcO
    simp only [h, List.getElem?_eq_getElem hi]
    rw [List.drop_eq_getElem_cons hi, lcF, eo]
    simp only [bind_ok]
    rw [lcO_eq h st k (i + 1) (by omega)]
@[simp] theorem lenO_at {n : Nat} {us : List W} (h : G.at_ n = some (.lst us)) : lenO G n = us.length := by unfold lenO; rw [h]
/-- a value, or an owned list, of these items -/
def Sqs (G : GH) (w : W) (us : List W) : Prop := w = .lst us ∨ ∃ n, w = .ref n ∧ G.at_ n = some (.lst us)
theorem lc_over {w : W} {us : List W} {t : FG1} {tt : FT} {te : FE} {α : Type} {f : List W → GH → R α} (h : Sqs G w us) (st : ∀ w ∈ us, ∃ o, lcTurn t tt te ρw w G = .ok o G) : ((asSeq w G).bind fun k G1 => (lcW t tt te ρw k G1).calm.bind f) = (lcF t tt te ρw us G).calm.bind f := by
  rcases h with rfl | ⟨n, rfl, h⟩
  · rfl
  · unfold asSeq
    simp only [h, bind_ok, lcW_own, lenO_at h]
    rw [lcO_eq h st us.length 0 (by omega), List.drop_zero]
/-- over an owned list that every turn keeps -/
theorem forO_inv {n : Nat} {us : List W} {t : FG1} {b : FS} (I : En → GH → Prop) (hI : ∀ ρ G, I ρ G → G.at_ n = some (.lst us)) (st : ∀ w ∈ us, ∀ ρ G, I ρ G → ∃ ρ1 G1 ρ2 G2, t w ρ G = some (ρ1, G1) ∧ (b ρ1 G1 = .nx ρ2 G2 ∨ b ρ1 G1 = .ct ρ2 G2) ∧ I ρ2 G2) :
    ∀ k i, i + k = us.length → ∀ ρ G, I ρ G → ∃ ρ' G', forO n t b k i ρ G = .nx ρ' G' ∧ I ρ' G'
  | 0, i, e, ρ, G, h => by
    unfold forO
    simp only [hI ρ G h]
    rw [if_pos (by omega)]
    exact ⟨ρ, G, rfl, h⟩
  | k + 1, i, e, ρ, G, h => by
    have hi : i < us.length := by omega
    obtain ⟨ρ1, G1, ρ2, G2, e1, e2, h2⟩ := st us[i] (List.getElem_mem hi) ρ G h
    obtain ⟨ρ', G', e3, h3⟩ := forO_inv I hI st k (i + 1) (by omega) ρ2 G2 h2
    unfold forO turnF
    simp only [hI ρ G h, List.getElem?_eq_getElem hi, e1]
    rcases e2 with e2 | e2
    · simp only [e2]; exact ⟨ρ', G', e3, h3⟩
    · simp only [e2]; exact ⟨ρ', G', e3, h3⟩
/-! ### calls, evaluated -/
@[simp] theorem gMt_ev (T : String) (g : W → List W → GH → R W) (go : FE) (ga : FA) : gMt T g go ga ρ G = (go ρ G).bind fun o G1 => if isTy T G1 o then (ga ρ G1).bind fun ws G2 => g o ws G2 else .no := rfl
theorem isTy_at {n : Nat} {us : List W} (h : G.at_ n = some (.lst us)) : isTy "list" G (.ref n) = true := by unfold isTy; simp only [h]; rfl
@[simp] theorem isTy_str (x : Str) : isTy "str" G (.str x) = true := rfl
theorem lw_at {n : Nat} {us : List W} (h : G.at_ n = some (.lst us)) : lw G (.ref n) = some (n, us) := by unfold lw; simp only [h]
theorem mAppend_at {n : Nat} {us : List W} (h : G.at_ n = some (.lst us)) (hl : us.length < 1000000) : mAppend (.ref n) [w] G = .ok .non (G.set n (.lst (us ++ [w]))) := by
  unfold mAppend; simp only [lw_at h]; rw [if_pos (by rw [sizeLine_eq]; omega)]
theorem mInsert_at {n : Nat} {us : List W} {i : Int} (h : G.at_ n = some (.lst us)) (hl : us.length < 1000000) (h0 : 0 ≤ i) (h1 : i < 2 ^ 63) : mInsert (.ref n) [.int i, w] G = .ok .non (G.set n (.lst (us.take i.toNat ++ [w] ++ us.drop i.toNat))) := by
  unfold mInsert; simp only [lw_at h]; rw [if_pos ⟨by rw [sizeLine_eq]; omega, h0, h1⟩]
theorem mPop_at {n : Nat} {us : List W} (h : G.at_ n = some (.lst (us ++ [w]))) : mPop (.ref n) [] G = .ok w (G.set n (.lst us)) := by
  unfold mPop; simp only [lw_at h]
  simp
theorem mReverse_at {n : Nat} {us : List W} (h : G.at_ n = some (.lst us)) : mReverse (.ref n) [] G = .ok .non (G.set n (.lst us.reverse)) := by
  unfold mReverse; simp only [lw_at h]
@[simp] theorem cList_lst (o : Bool) (us : List W) : cList o [.lst us] G = mkL o us G := rfl
theorem cList_at {n : Nat} {us : List W} (o : Bool) (h : G.at_ n = some (.lst us)) : cList o [.ref n] G = mkL o us G := by
  unfold cList sqs tsq lsq; simp only [h]
theorem cLen_at {n : Nat} {us : List W} (h : G.at_ n = some (.lst us)) : cLen [.ref n] G = .ok (.int us.length) G := by
  unfold cLen sqs tsq lsq; simp only [h]
@[simp] theorem cAny_lst (bs : List Bool) : cAny [.lst (bs.map W.bl)] G = .ok (.bl (bs.any id)) G := by
  show (match blsOf (bs.map W.bl) with | some bs => R.ok (W.bl (bs.any id)) G | none => .no) = _
  rw [blsOf_map]
@[simp] theorem gCallK_ev (g : FCK) (ga gk : FA) : gCallK g ga gk ρ G = (ga ρ G).bind fun ws G1 => (gk ρ G1).bind fun us G2 => g ws us G2 := rfl
@[simp] theorem cBest_lst (f : Int → Int → Int) (d : W) (ns : List Int) : cBest f [.lst (ns.map W.int)] [d] G = .ok (bestW f d ns) G := by
  show (match intsOf (ns.map W.int) with | some ns => R.ok (bestW f d ns) G | none => .no) = _
  rw [intsOf_map]
theorem min_le {k : Int} : ∀ (ns : List Int) (m : Int), ns.foldl min m ≤ k ↔ m ≤ k ∨ ∃ n ∈ ns, n ≤ k
  | [], m => by simp
  | n :: ns, m => by
    rw [List.foldl_cons, min_le ns]
    constructor
    · rintro (h | ⟨x, hx, h⟩)
      · by_cases q : m ≤ n
        · exact .inl (by omega)
        · exact .inr ⟨n, List.mem_cons_self, by omega⟩
      · exact .inr ⟨x, List.mem_cons_of_mem _ hx, h⟩
    · rintro (h | ⟨x, hx, h⟩)
      · exact .inl (by omega)
      · rcases List.mem_cons.mp hx with rfl | hx
        · exact .inl (by omega)
        · exact .inr ⟨x, hx, h⟩
theorem frz_at {n : Nat} {us : List W} (h : G.at_ n = some (.lst us)) : frz (.ref n) G = .ok (.lst us) (G.del n) := by unfold frz; simp only [h]
theorem cut_at {ws : List W} {k : Nat} : cutW ws none (some (k : Int)) = ws.take k := by
  unfold cutW
  rw [HT.sIx_nat, HT.sIx_none, List.drop_zero, Nat.sub_zero, List.take_eq_take_iff]
  omega
theorem cut_from {ws : List W} {k : Nat} : cutW ws (some (k : Int)) none = ws.drop k := by
  unfold cutW
  rw [HT.sIx_nat, HT.sIx_none]
  by_cases h : k ≤ ws.length
  · rw [Nat.min_eq_left h]
    exact List.take_of_length_le (by rw [List.length_drop]; omega)
  · rw [Nat.min_eq_right (by omega), List.drop_length, List.drop_eq_nil_of_le (by omega), List.take_nil]
end
end Fn

set_option Elab.async false
set_option linter.all false
set_option maxRecDepth 100000
set_option maxHeartbeats 4000000
namespace Lw
open PySem PySem.Spec PyProof.Rows L2 Fn
def topS (i : Nat) : Stmt := PySem.Challenge.pw_swornlike_k44_tests_settled_by_what_is_k.main.body.getD i (.Pass ⟨0, 0, 0, 0⟩)
abbrev s__law_deck : Stmt := topS 10
abbrev names__law_deck : List Str := ["script", "cell"]
theorem sc__law_deck : FnScope names__law_deck ["script"] (defScope s__law_deck) := ⟨rfl, rfl, rfl, by decide +kernel, rfl, by decide +kernel, by decide +kernel⟩
abbrev s__law_draw : Stmt := topS 11
abbrev names__law_draw : List Str := ["deck", "many", "cell", "first", "second", "third", "digit"]
theorem sc__law_draw : FnScope names__law_draw ["deck", "many"] (defScope s__law_draw) := ⟨rfl, rfl, rfl, by decide +kernel, rfl, by decide +kernel, by decide +kernel⟩
abbrev s__law_known : Stmt := topS 15
abbrev names__law_known : List Str := ["deck", "bases", "worth", "known", "k", "a", "b", "apart", "pick", "at"]
theorem sc__law_known : FnScope names__law_known ["deck", "bases", "worth"] (defScope s__law_known) := ⟨rfl, rfl, rfl, by decide +kernel, rfl, by decide +kernel, by decide +kernel⟩
abbrev s__law_base : Stmt := topS 14
abbrev names__law_base : List Str := ["deck", "depth", "pick"]
theorem sc__law_base : FnScope names__law_base ["deck", "depth"] (defScope s__law_base) := ⟨rfl, rfl, rfl, by decide +kernel, rfl, by decide +kernel, by decide +kernel⟩
abbrev s__law_settled : Stmt := topS 13
abbrev names__law_settled : List Str := ["known", "told", "u", "v", "k", "one", "ahead", "back"]
theorem sc__law_settled : FnScope names__law_settled ["known", "told"] (defScope s__law_settled) := ⟨rfl, rfl, rfl, by decide +kernel, rfl, by decide +kernel, by decide +kernel⟩
abbrev s_contrary : Stmt := topS 2
abbrev names_contrary : List Str := ["told", "kind", "u", "v", "k"]
theorem sc_contrary : FnScope names_contrary ["told"] (defScope s_contrary) := ⟨rfl, rfl, rfl, by decide +kernel, rfl, by decide +kernel, by decide +kernel⟩
abbrev s__law_same_answer : Stmt := topS 16
abbrev names__law_same_answer : List Str := ["actual", "due"]
theorem sc__law_same_answer : FnScope names__law_same_answer ["actual", "due"] (defScope s__law_same_answer) := ⟨rfl, rfl, rfl, by decide +kernel, rfl, by decide +kernel, by decide +kernel⟩
abbrev s_turned : Stmt := topS 1
abbrev names_turned : List Str := ["told", "kind", "u", "v", "k"]
theorem sc_turned : FnScope names_turned ["told"] (defScope s_turned) := ⟨rfl, rfl, rfl, by decide +kernel, rfl, by decide +kernel, by decide +kernel⟩
abbrev s_like : Stmt := topS 3
abbrev names_like : List Str := ["one", "other"]
theorem sc_like : FnScope names_like ["one", "other"] (defScope s_like) := ⟨rfl, rfl, rfl, by decide +kernel, rfl, by decide +kernel, by decide +kernel⟩
abbrev s_known_like : Stmt := topS 4
abbrev names_known_like : List Str := ["known", "told", "one"]
theorem sc_known_like : FnScope names_known_like ["known", "told"] (defScope s_known_like) := ⟨rfl, rfl, rfl, by decide +kernel, rfl, by decide +kernel, by decide +kernel⟩
abbrev s_bound_of : Stmt := topS 5
abbrev names_bound_of : List Str := ["known", "u", "v", "one"]
theorem sc_bound_of : FnScope names_bound_of ["known", "u", "v"] (defScope s_bound_of) := ⟨rfl, rfl, rfl, by decide +kernel, rfl, by decide +kernel, by decide +kernel⟩
abbrev s_sameness_by : Stmt := topS 7
abbrev names_sameness_by : List Str := ["known", "told", "_", "u", "v", "k", "upper", "lower"]
theorem sc_sameness_by : FnScope names_sameness_by ["known", "told"] (defScope s_sameness_by) := ⟨rfl, rfl, rfl, by decide +kernel, rfl, by decide +kernel, by decide +kernel⟩
abbrev s_difference_by : Stmt := topS 6
abbrev names_difference_by : List Str := ["known", "told", "upper", "lower", "_", "u", "v", "k"]
theorem sc_difference_by : FnScope names_difference_by ["known", "told"] (defScope s_difference_by) := ⟨rfl, rfl, rfl, by decide +kernel, rfl, by decide +kernel, by decide +kernel⟩
abbrev s_settled_by : Stmt := topS 8
abbrev names_settled_by : List Str := ["known", "told", "holds"]
theorem sc_settled_by : FnScope names_settled_by ["known", "told"] (defScope s_settled_by) := ⟨rfl, rfl, rfl, by decide +kernel, rfl, by decide +kernel, by decide +kernel⟩
abbrev s__law_contrary : Stmt := topS 12
abbrev names__law_contrary : List Str := ["told"]
theorem sc__law_contrary : FnScope names__law_contrary ["told"] (defScope s__law_contrary) := ⟨rfl, rfl, rfl, by decide +kernel, rfl, by decide +kernel, by decide +kernel⟩
abbrev s__law_asked : Stmt := topS 17
abbrev names__law_asked : List Str := ["known", "told", "due", "turned_v", "rows", "k", "back"]
theorem sc__law_asked : FnScope names__law_asked ["known", "told"] (defScope s__law_asked) := ⟨rfl, rfl, rfl, by decide +kernel, rfl, by decide +kernel, by decide +kernel⟩
abbrev s_law : Stmt := topS 18
abbrev names_law : List Str := ["script", "deck", "bases", "worth", "k", "known", "turn", "base", "a", "b", "apart", "word"]
theorem sc_law : FnScope names_law ["script"] (defScope s_law) := ⟨rfl, rfl, rfl, by decide +kernel, rfl, by decide +kernel, by decide +kernel⟩

def t__law_deck_1 : FS :=
  (gRet (gLst true (gCons (gLc false (iSeq (gSl false (gVar 0) gNoPart (gPart (gC (.int 63))))) (tgName 1) gYes (gCall cInt (gCons (gVar 1) gNil)) [1]) (gCons (gC (.int 0)) (gCons (gC (.int 0)) (gCons (gC (.int 0)) gNil))))))
def b__law_deck : FS :=
  t__law_deck_1
def f__law_deck : FC := fnC 2 b__law_deck
theorem e__law_deck (w0 : W) (G : GH) : f__law_deck [w0] G = ((b__law_deck [some w0, none] G).fin).calm := rfl
def t__law_draw_1 : FS :=
  (gRet (gOp fMod (gCall cInt (gCons (gOp fDiv (gVar 5) (gC (.int 7))) gNil)) (gVar 1)))
def t__law_draw_2 : FS :=
  (gSeq (gAsg (gOp fMod (gCall cInt (gCons (gOp (fAddL false) (gOp (fAddL false) (gOp fMul (gOp fDiv (gVar 4) (gC (.int 65536))) (gC (.int 40503))) (gOp fMul (gVar 4) (gC (.int 31)))) (gVar 3)) gNil)) (gC (.int 1073741789))) (tgName 5))
  t__law_draw_1)
def t__law_draw_3 : FS :=
  (gSeq (gAsg (gOp fMod (gCall cInt (gCons (gOp (fAddL false) (gOp (fAddL false) (gOp fMul (gVar 3) (gVar 3)) (gOp fMul (gC (.int 48271)) (gVar 3))) (gOp fIx (gVar 0) (gC (.int 3)))) gNil)) (gC (.int 2147483629))) (tgName 4))
  t__law_draw_2)
def t__law_draw_4 : FS :=
  (gSeq (gAsg (gOp fMod (gCall cInt (gCons (gOp (fAddL false) (gVar 2) (gOp fMul (gC (.int 7919)) (gOp fIx (gVar 0) (gC (.int 3))))) gNil)) (gC (.int 2147483647))) (tgName 3))
  t__law_draw_3)
def t__law_draw_5 : FS :=
  (gSeq (gIfS (gAndT (gTest (gOp fLe (gOp fIx (gVar 0) (gC (.int 1))) (gCall cLen (gCons (gOp fIx (gVar 0) (gC (.int 0))) gNil)))) (gTest (gOp fGe (gVar 2) (gOp fPow (gC (.int 10)) (gC (.int 18))))))
  (gSeq (gSet (gOp fDiv (gVar 2) (gVar 1)) (gVar 0) (gC (.int 2)))
  (gRet (gOp fMod (gCall cInt (gCons (gVar 2) gNil)) (gVar 1))))
  gNext)
  t__law_draw_4)
def t__law_draw_6 : FS :=
  (gSeq (gSet (gOp (fAddL false) (gOp fIx (gVar 0) (gC (.int 1))) (gC (.int 1))) (gVar 0) (gC (.int 1)))
  t__law_draw_5)
def t__law_draw_7 : FS :=
  (gSeq (gIfS (gTru (gOp fIx (gVar 0) (gC (.int 0))))
  (gAsg (gOp fIx (gOp fIx (gVar 0) (gC (.int 0))) (gOp fMod (gCall cInt (gCons (gOp fIx (gVar 0) (gC (.int 1))) gNil)) (gCall cLen (gCons (gOp fIx (gVar 0) (gC (.int 0))) gNil)))) (tgName 2))
  gNext)
  t__law_draw_6)
def t__law_draw_8 : FS :=
  (gSeq (gAsg (gC (.int 0)) (tgName 2))
  t__law_draw_7)
def t__law_draw_9 : FS :=
  (gSeq (gIfS (gTest (gOp fGe (gOp fIx (gVar 0) (gC (.int 2))) (gVar 1)))
  (gSeq (gAsg (gOp fMod (gCall cInt (gCons (gOp fIx (gVar 0) (gC (.int 2))) gNil)) (gVar 1)) (tgName 6))
  (gSeq (gSet (gOp fDiv (gOp fIx (gVar 0) (gC (.int 2))) (gVar 1)) (gVar 0) (gC (.int 2)))
  (gRet (gVar 6))))
  gNext)
  t__law_draw_8)
def t__law_draw_10 : FS :=
  (gSeq (gSet (gOp (fAddL false) (gOp fIx (gVar 0) (gC (.int 3))) (gC (.int 1))) (gVar 0) (gC (.int 3)))
  t__law_draw_9)
def b__law_draw : FS :=
  t__law_draw_10
def f__law_draw : FC := fnC 7 b__law_draw
theorem e__law_draw (w0 w1 : W) (G : GH) : f__law_draw [w0, w1] G = ((b__law_draw [some w0, some w1, none, none, none, none, none] G).fin).calm := rfl
def t__law_known_1 : FS :=
  (gIfS (gTest (gOp fLt (gVar 8) (gC (.int 2))))
  (gDrop (gMt "list" mInsert (gVar 3) (gCons (gVar 9) (gCons (gTup (gCons (gC (.str "diff")) (gCons (gOp fIx (gVar 1) (gVar 5)) (gCons (gOp fIx (gVar 1) (gVar 6)) (gCons (gOp (fAddL false) (gVar 7) (gCall (cFn 2 f__law_draw) (gCons (gVar 0) (gCons (gC (.int 3)) gNil)))) gNil))))) gNil))))
  (gIfS (gTest (gOp fEq (gVar 8) (gC (.int 2))))
  (gDrop (gMt "list" mInsert (gVar 3) (gCons (gVar 9) (gCons (gTup (gCons (gC (.str "other")) (gCons (gOp fIx (gVar 1) (gVar 5)) (gCons (gOp fIx (gVar 1) (gVar 6)) (gCons (gOp (fAddL false) (gVar 7) (gOp fIx (gLst false (gCons (gNeg (gC (.int 2))) (gCons (gNeg (gC (.int 1))) (gCons (gC (.int 1)) (gCons (gC (.int 2)) gNil))))) (gCall (cFn 2 f__law_draw) (gCons (gVar 0) (gCons (gC (.int 4)) gNil))))) gNil))))) gNil))))
  (gSeq (gDrop (gMt "list" mInsert (gVar 3) (gCons (gVar 9) (gCons (gTup (gCons (gC (.str "same")) (gCons (gOp fIx (gVar 1) (gVar 5)) (gCons (gOp fIx (gVar 1) (gVar 6)) (gCons (gVar 7) gNil))))) gNil))))
  (gSeq (gDrop (gMt "list" mAppend (gVar 3) (gCons (gTup (gCons (gC (.str "diff")) (gCons (gOp fIx (gVar 1) (gVar 5)) (gCons (gOp fIx (gVar 1) (gVar 6)) (gCons (gVar 7) gNil))))) gNil)))
  (gDrop (gMt "list" mInsert (gVar 3) (gCons (gCall (cFn 2 f__law_draw) (gCons (gVar 0) (gCons (gOp (fAddL false) (gVar 9) (gC (.int 1))) gNil))) (gCons (gTup (gCons (gC (.str "diff")) (gCons (gOp fIx (gVar 1) (gVar 6)) (gCons (gOp fIx (gVar 1) (gVar 5)) (gCons (gNeg (gVar 7)) gNil))))) gNil))))))))
def t__law_known_2 : FS :=
  (gSeq (gAsg (gCall (cFn 2 f__law_draw) (gCons (gVar 0) (gCons (gOp (fAddL false) (gCall cLen (gCons (gVar 3) gNil)) (gC (.int 1))) gNil))) (tgName 9))
  t__law_known_1)
def t__law_known_3 : FS :=
  (gSeq (gAsg (gCall (cFn 2 f__law_draw) (gCons (gVar 0) (gCons (gC (.int 4)) gNil))) (tgName 8))
  t__law_known_2)
def t__law_known_4 : FS :=
  (gSeq (gAsg (gOp fSub (gOp fIx (gVar 2) (gVar 5)) (gOp fIx (gVar 2) (gVar 6))) (tgName 7))
  t__law_known_3)
def t__law_known_5 : FS :=
  (gSeq (gAsg (gOp fMod (gCall cInt (gCons (gOp (fAddL false) (gOp (fAddL false) (gVar 5) (gC (.int 1))) (gCall (cFn 2 f__law_draw) (gCons (gVar 0) (gCons (gOp fSub (gCall cLen (gCons (gVar 1) gNil)) (gC (.int 1))) gNil)))) gNil)) (gCall cLen (gCons (gVar 1) gNil))) (tgName 6))
  t__law_known_4)
def t__law_known_6 : FS :=
  (gSeq (gAsg (gCall (cFn 2 f__law_draw) (gCons (gVar 0) (gCons (gCall cLen (gCons (gVar 1) gNil)) gNil))) (tgName 5))
  t__law_known_5)
def t__law_known_7 : FS :=
  (gRet (gVar 3))
def t__law_known_8 : FS :=
  (gSeq (gFor (iRng asRng1 (gCons (gCall (cFn 2 f__law_draw) (gCons (gVar 0) (gCons (gC (.int 6)) gNil))) gNil)) (tgName 4)
  t__law_known_6)
  t__law_known_7)
def t__law_known_9 : FS :=
  (gSeq (gAsg (gLst true gNil) (tgName 3))
  t__law_known_8)
def b__law_known : FS :=
  t__law_known_9
def f__law_known : FC := fnC 10 b__law_known
theorem e__law_known (w0 w1 w2 : W) (G : GH) : f__law_known [w0, w1, w2] G = ((b__law_known [some w0, some w1, some w2, none, none, none, none, none, none, none] G).fin).calm := rfl
def t__law_base_1 (rec : FC) : FS :=
  (gRet (gTup (gCons (gC (.str "read")) (gCons (gCall (cFn 2 f__law_draw) (gCons (gVar 0) (gCons (gC (.int 3)) gNil))) (gCons (gCall (cFn 2 f__law_draw) (gCons (gVar 0) (gCons (gC (.int 3)) gNil))) (gCons (gTup (gCons (gCall (cFn 2 rec) (gCons (gVar 0) (gCons (gOp fSub (gVar 1) (gC (.int 1))) gNil))) (gCons (gOp fSub (gCall (cFn 2 f__law_draw) (gCons (gVar 0) (gCons (gC (.int 7)) gNil))) (gC (.int 3))) gNil))) gNil))))))
def t__law_base_2 (rec : FC) : FS :=
  (gSeq (gIfS (gOrT (gTest (gOp fLt (gVar 2) (gC (.int 5)))) (gTest (gOp fEq (gVar 1) (gC (.int 0)))))
  (gRet (gTup (gCons (gC (.str "spot")) (gCons (gCall (cFn 2 f__law_draw) (gCons (gVar 0) (gCons (gC (.int 2)) gNil))) (gCons (gCall (cFn 2 f__law_draw) (gCons (gVar 0) (gCons (gC (.int 4)) gNil))) gNil)))))
  gNext)
  (t__law_base_1 rec))
def t__law_base_3 (rec : FC) : FS :=
  (gSeq (gIfS (gTest (gOp fEq (gVar 2) (gC (.int 2))))
  (gRet (gTup (gCons (gOp fIx (gLst false (gCons (gC (.str "chosen")) (gCons (gC (.str "given")) gNil))) (gCall (cFn 2 f__law_draw) (gCons (gVar 0) (gCons (gC (.int 2)) gNil)))) (gCons (gCall (cFn 2 f__law_draw) (gCons (gVar 0) (gCons (gC (.int 3)) gNil))) gNil))))
  gNext)
  (t__law_base_2 rec))
def t__law_base_4 (rec : FC) : FS :=
  (gSeq (gIfS (gTest (gOp fEq (gVar 2) (gC (.int 1))))
  (gRet (gTup (gCons (gC (.str "len")) (gCons (gCall (cFn 2 f__law_draw) (gCons (gVar 0) (gCons (gC (.int 3)) gNil))) gNil))))
  gNext)
  (t__law_base_3 rec))
def t__law_base_5 (rec : FC) : FS :=
  (gSeq (gIfS (gTest (gOp fEq (gVar 2) (gC (.int 0))))
  (gRet (gC .non))
  gNext)
  (t__law_base_4 rec))
def t__law_base_6 (rec : FC) : FS :=
  (gSeq (gAsg (gCall (cFn 2 f__law_draw) (gCons (gVar 0) (gCons (gC (.int 7)) gNil))) (tgName 2))
  (t__law_base_5 rec))
def b__law_base (rec : FC) : FS :=
  (t__law_base_6 rec)
def f__law_base : Nat → FC
  | 0 => fun _ _ => .no
  | d + 1 => fnC 3 (b__law_base (f__law_base d))
theorem e__law_base (d : Nat) (w0 w1 : W) (G : GH) : f__law_base (d + 1) [w0, w1] G = ((b__law_base (f__law_base d) [some w0, some w1, none] G).fin).calm := rfl
def t__law_settled_1 : FS :=
  (gIfS (gAndT (gTest (gOp fNe (gOp fIx (gVar 1) (gC (.int 0))) (gC (.str "diff")))) (gTest (gOp fNe (gOp fIx (gVar 5) (gC (.int 0))) (gC (.str "diff")))))
  (gIfS (gOrT (gAndT (gTru (gVar 6)) (gTest (gOp fEq (gOp fIx (gVar 5) (gC (.int 3))) (gVar 4)))) (gAndT (gTru (gVar 7)) (gTest (gOp fEq (gOp fIx (gVar 5) (gC (.int 3))) (gNeg (gVar 4))))))
  (gRet (gOp fEq (gOp fIx (gVar 1) (gC (.int 0))) (gOp fIx (gVar 5) (gC (.int 0)))))
  gNext)
  gNext)
def t__law_settled_2 : FS :=
  (gSeq (gIfS (gAndT (gTest (gOp fNe (gOp fIx (gVar 1) (gC (.int 0))) (gC (.str "diff")))) (gTest (gOp fEq (gOp fIx (gVar 5) (gC (.int 0))) (gC (.str "diff")))))
  (gIfS (gOrT (gAndT (gTru (gVar 6)) (gTest (gOp fLt (gOp fIx (gVar 5) (gC (.int 3))) (gVar 4)))) (gAndT (gTru (gVar 7)) (gTest (gOp fLt (gOp fIx (gVar 5) (gC (.int 3))) (gNeg (gVar 4))))))
  (gRet (gOp fEq (gOp fIx (gVar 1) (gC (.int 0))) (gC (.str "other"))))
  gNext)
  gNext)
  t__law_settled_1)
def t__law_settled_3 : FS :=
  (gSeq (gIfS (gAndT (gTest (gOp fEq (gOp fIx (gVar 1) (gC (.int 0))) (gC (.str "diff")))) (gTest (gOp fEq (gOp fIx (gVar 5) (gC (.int 0))) (gC (.str "diff")))))
  (gSeq (gIfS (gAndT (gTru (gVar 6)) (gTest (gOp fLe (gOp fIx (gVar 5) (gC (.int 3))) (gVar 4))))
  (gRet (gC (.bl true)))
  gNext)
  (gIfS (gAndT (gTru (gVar 7)) (gTest (gOp fLe (gOp fIx (gVar 5) (gC (.int 3))) (gOp fSub (gNeg (gVar 4)) (gC (.int 1))))))
  (gRet (gC (.bl false)))
  gNext))
  gNext)
  t__law_settled_2)
def t__law_settled_4 : FS :=
  (gSeq (gAsg (gAnd (gOp fEq (gOp fIx (gVar 5) (gC (.int 1))) (gVar 3)) (gOp fEq (gOp fIx (gVar 5) (gC (.int 2))) (gVar 2))) (tgName 7))
  t__law_settled_3)
def t__law_settled_5 : FS :=
  (gSeq (gAsg (gAnd (gOp fEq (gOp fIx (gVar 5) (gC (.int 1))) (gVar 2)) (gOp fEq (gOp fIx (gVar 5) (gC (.int 2))) (gVar 3))) (tgName 6))
  t__law_settled_4)
def t__law_settled_6 : FS :=
  (gRet (gC .non))
def t__law_settled_7 : FS :=
  (gSeq (gFor (iSeq (gVar 0)) (tgName 5)
  t__law_settled_5)
  t__law_settled_6)
def t__law_settled_8 : FS :=
  (gSeq (gAsg (gOp fIx (gVar 1) (gC (.int 3))) (tgName 4))
  t__law_settled_7)
def t__law_settled_9 : FS :=
  (gSeq (gAsg (gOp fIx (gVar 1) (gC (.int 2))) (tgName 3))
  t__law_settled_8)
def t__law_settled_10 : FS :=
  (gSeq (gAsg (gOp fIx (gVar 1) (gC (.int 1))) (tgName 2))
  t__law_settled_9)
def b__law_settled : FS :=
  t__law_settled_10
def f__law_settled : FC := fnC 8 b__law_settled
theorem e__law_settled (w0 w1 : W) (G : GH) : f__law_settled [w0, w1] G = ((b__law_settled [some w0, some w1, none, none, none, none, none, none] G).fin).calm := rfl
def t_contrary_1 : FS :=
  (gRet (gTup (gCons (gIf (gTest (gOp fEq (gVar 1) (gC (.str "same")))) (gC (.str "other")) (gC (.str "same"))) (gCons (gVar 2) (gCons (gVar 3) (gCons (gVar 4) gNil))))))
def t_contrary_2 : FS :=
  (gSeq (gIfS (gTest (gOp fEq (gVar 1) (gC (.str "diff"))))
  (gRet (gTup (gCons (gC (.str "diff")) (gCons (gVar 3) (gCons (gVar 2) (gCons (gOp fSub (gOp fSub (gC (.int 0)) (gVar 4)) (gC (.int 1))) gNil))))))
  gNext)
  t_contrary_1)
def t_contrary_3 : FS :=
  (gSeq (gAsg (gVar 0) (tgTup 4 (tgCons (tgName 1) (tgCons (tgName 2) (tgCons (tgName 3) (tgCons (tgName 4) tgNil))))))
  t_contrary_2)
def b_contrary : FS :=
  t_contrary_3
def f_contrary : FC := fnC 5 b_contrary
theorem e_contrary (w0 : W) (G : GH) : f_contrary [w0] G = ((b_contrary [some w0, none, none, none, none] G).fin).calm := rfl
def t__law_same_answer_1 : FS :=
  (gRet (gOp (fIsB false) (gVar 0) (gC (.bl false))))
def t__law_same_answer_2 : FS :=
  (gSeq (gIfS (gTru (gVar 1))
  (gRet (gOp (fIsB false) (gVar 0) (gC (.bl true))))
  gNext)
  t__law_same_answer_1)
def t__law_same_answer_3 : FS :=
  (gSeq (gIfS (gTest (gOp (fIsN false) (gVar 1) (gC .non)))
  (gRet (gOp (fIsN false) (gVar 0) (gC .non)))
  gNext)
  t__law_same_answer_2)
def b__law_same_answer : FS :=
  t__law_same_answer_3
def f__law_same_answer : FC := fnC 2 b__law_same_answer
theorem e__law_same_answer (w0 w1 : W) (G : GH) : f__law_same_answer [w0, w1] G = ((b__law_same_answer [some w0, some w1] G).fin).calm := rfl
def t_turned_1 : FS :=
  (gRet (gIf (gTest (gOp fEq (gVar 1) (gC (.str "diff")))) (gVar 0) (gTup (gCons (gVar 1) (gCons (gVar 3) (gCons (gVar 2) (gCons (gOp fSub (gC (.int 0)) (gVar 4)) gNil)))))))
def t_turned_2 : FS :=
  (gSeq (gAsg (gVar 0) (tgTup 4 (tgCons (tgName 1) (tgCons (tgName 2) (tgCons (tgName 3) (tgCons (tgName 4) tgNil))))))
  t_turned_1)
def b_turned : FS :=
  t_turned_2
def f_turned : FC := fnC 5 b_turned
theorem e_turned (w0 : W) (G : GH) : f_turned [w0] G = ((b_turned [some w0, none, none, none, none] G).fin).calm := rfl
def t_like_1 : FS :=
  (gRet (gOr (gOp fEq (gVar 0) (gVar 1)) (gOp fEq (gVar 0) (gCall (cFn 1 f_turned) (gCons (gVar 1) gNil)))))
def b_like : FS :=
  t_like_1
def f_like : FC := fnC 2 b_like
theorem e_like (w0 w1 : W) (G : GH) : f_like [w0, w1] G = ((b_like [some w0, some w1] G).fin).calm := rfl
def t_known_like_1 : FS :=
  (gRet (gCall cAny (gCons (gLc false (iSeq (gVar 0)) (tgName 2) gYes (gCall (cFn 2 f_like) (gCons (gVar 2) (gCons (gVar 1) gNil))) [2]) gNil)))
def b_known_like : FS :=
  t_known_like_1
def f_known_like : FC := fnC 3 b_known_like
theorem e_known_like (w0 w1 : W) (G : GH) : f_known_like [w0, w1] G = ((b_known_like [some w0, some w1, none] G).fin).calm := rfl
def t_bound_of_1 : FS :=
  (gRet (gCallK (cBest min) (gCons (gLc false (iSeq (gVar 0)) (tgName 3) (gTest (gOp fEq (gSl false (gVar 3) gNoPart (gPart (gC (.int 3)))) (gTup (gCons (gC (.str "diff")) (gCons (gVar 1) (gCons (gVar 2) gNil)))))) (gOp fIx (gVar 3) (gC (.int 3))) [3]) gNil) (gCons (gC .non) gNil)))
def b_bound_of : FS :=
  t_bound_of_1
def f_bound_of : FC := fnC 4 b_bound_of
theorem e_bound_of (w0 w1 w2 : W) (G : GH) : f_bound_of [w0, w1, w2] G = ((b_bound_of [some w0, some w1, some w2, none] G).fin).calm := rfl
def t_sameness_by_1 : FS :=
  (gRet (gC .non))
def t_sameness_by_2 : FS :=
  (gSeq (gIfS (gOrT (gAndT (gTest (gOp (fIsN true) (gVar 6) (gC .non))) (gTest (gOp fLt (gVar 6) (gVar 5)))) (gAndT (gTest (gOp (fIsN true) (gVar 7) (gC .non))) (gTest (gOp fLt (gVar 7) (gOp fSub (gC (.int 0)) (gVar 5))))))
  (gRet (gC (.bl false)))
  gNext)
  t_sameness_by_1)
def t_sameness_by_3 : FS :=
  (gSeq (gPar 6 7 (gCons (gCall (cFn 3 f_bound_of) (gCons (gVar 0) (gCons (gVar 3) (gCons (gVar 4) gNil)))) (gCons (gCall (cFn 3 f_bound_of) (gCons (gVar 0) (gCons (gVar 4) (gCons (gVar 3) gNil)))) gNil)))
  t_sameness_by_2)
def t_sameness_by_4 : FS :=
  (gSeq (gIfS (gTru (gCall (cFn 2 f_known_like) (gCons (gVar 0) (gCons (gCall (cFn 1 f_contrary) (gCons (gVar 1) gNil)) gNil))))
  (gRet (gC (.bl false)))
  gNext)
  t_sameness_by_3)
def t_sameness_by_5 : FS :=
  (gSeq (gIfS (gTru (gCall (cFn 2 f_known_like) (gCons (gVar 0) (gCons (gVar 1) gNil))))
  (gRet (gC (.bl true)))
  gNext)
  t_sameness_by_4)
def t_sameness_by_6 : FS :=
  (gSeq (gAsg (gVar 1) (tgTup 4 (tgCons (tgName 2) (tgCons (tgName 3) (tgCons (tgName 4) (tgCons (tgName 5) tgNil))))))
  t_sameness_by_5)
def b_sameness_by : FS :=
  t_sameness_by_6
def f_sameness_by : FC := fnC 8 b_sameness_by
theorem e_sameness_by (w0 w1 : W) (G : GH) : f_sameness_by [w0, w1] G = ((b_sameness_by [some w0, some w1, none, none, none, none, none, none] G).fin).calm := rfl
def t_difference_by_1 : FS :=
  (gRet (gIf (gAndT (gTest (gOp (fIsN true) (gVar 3) (gC .non))) (gTest (gOp fLe (gVar 3) (gOp fSub (gOp fSub (gC (.int 0)) (gVar 7)) (gC (.int 1)))))) (gC (.bl false)) (gC .non)))
def t_difference_by_2 : FS :=
  (gSeq (gAsg (gCall (cFn 3 f_bound_of) (gCons (gVar 0) (gCons (gVar 6) (gCons (gVar 5) gNil)))) (tgName 3))
  t_difference_by_1)
def t_difference_by_3 : FS :=
  (gSeq (gIfS (gAndT (gTest (gOp (fIsN true) (gVar 2) (gC .non))) (gTest (gOp fLe (gVar 2) (gVar 7))))
  (gRet (gC (.bl true)))
  gNext)
  t_difference_by_2)
def t_difference_by_4 : FS :=
  (gSeq (gAsg (gCall (cFn 3 f_bound_of) (gCons (gVar 0) (gCons (gVar 5) (gCons (gVar 6) gNil)))) (tgName 2))
  t_difference_by_3)
def t_difference_by_5 : FS :=
  (gSeq (gAsg (gVar 1) (tgTup 4 (tgCons (tgName 4) (tgCons (tgName 5) (tgCons (tgName 6) (tgCons (tgName 7) tgNil))))))
  t_difference_by_4)
def b_difference_by : FS :=
  t_difference_by_5
def f_difference_by : FC := fnC 8 b_difference_by
theorem e_difference_by (w0 w1 : W) (G : GH) : f_difference_by [w0, w1] G = ((b_difference_by [some w0, some w1, none, none, none, none, none, none] G).fin).calm := rfl
def t_settled_by_1 : FS :=
  (gRet (gNot (gVar 2)))
def t_settled_by_2 : FS :=
  (gSeq (gIfS (gOrT (gTest (gOp (fIsN false) (gVar 2) (gC .non))) (gTest (gOp fEq (gOp fIx (gVar 1) (gC (.int 0))) (gC (.str "same")))))
  (gRet (gVar 2))
  gNext)
  t_settled_by_1)
def t_settled_by_3 : FS :=
  (gSeq (gAsg (gCall (cFn 2 f_sameness_by) (gCons (gVar 0) (gCons (gOp (fAddL false) (gTup (gCons (gC (.str "same")) gNil)) (gSl false (gVar 1) (gPart (gC (.int 1))) gNoPart)) gNil))) (tgName 2))
  t_settled_by_2)
def t_settled_by_4 : FS :=
  (gSeq (gIfS (gTest (gOp fEq (gOp fIx (gVar 1) (gC (.int 0))) (gC (.str "diff"))))
  (gRet (gCall (cFn 2 f_difference_by) (gCons (gVar 0) (gCons (gVar 1) gNil))))
  gNext)
  t_settled_by_3)
def b_settled_by : FS :=
  t_settled_by_4
def f_settled_by : FC := fnC 3 b_settled_by
theorem e_settled_by (w0 w1 : W) (G : GH) : f_settled_by [w0, w1] G = ((b_settled_by [some w0, some w1, none] G).fin).calm := rfl
def t__law_contrary_1 : FS :=
  (gRet (gTup (gCons (gC (.str "same")) (gCons (gOp fIx (gVar 0) (gC (.int 1))) (gCons (gOp fIx (gVar 0) (gC (.int 2))) (gCons (gOp fIx (gVar 0) (gC (.int 3))) gNil))))))
def t__law_contrary_2 : FS :=
  (gSeq (gIfS (gTest (gOp fEq (gOp fIx (gVar 0) (gC (.int 0))) (gC (.str "same"))))
  (gRet (gTup (gCons (gC (.str "other")) (gCons (gOp fIx (gVar 0) (gC (.int 1))) (gCons (gOp fIx (gVar 0) (gC (.int 2))) (gCons (gOp fIx (gVar 0) (gC (.int 3))) gNil))))))
  gNext)
  t__law_contrary_1)
def t__law_contrary_3 : FS :=
  (gSeq (gIfS (gTest (gOp fEq (gOp fIx (gVar 0) (gC (.int 0))) (gC (.str "diff"))))
  (gRet (gTup (gCons (gC (.str "diff")) (gCons (gOp fIx (gVar 0) (gC (.int 2))) (gCons (gOp fIx (gVar 0) (gC (.int 1))) (gCons (gOp fSub (gNeg (gOp fIx (gVar 0) (gC (.int 3)))) (gC (.int 1))) gNil))))))
  gNext)
  t__law_contrary_2)
def b__law_contrary : FS :=
  t__law_contrary_3
def f__law_contrary : FC := fnC 1 b__law_contrary
theorem e__law_contrary (w0 : W) (G : GH) : f__law_contrary [w0] G = ((b__law_contrary [some w0] G).fin).calm := rfl
def t__law_asked_1 : FS :=
  (gDrop (gMt "list" mPop (gVar 4) gNil))
def t__law_asked_2 : FS :=
  (gSeq (gIfS (gAndT (gTest (gOp (fIsN false) (gVar 2) (gC .non))) (gNotT (gTru (gCall (cFn 2 f__law_same_answer) (gCons (gCall (cFn 2 f_settled_by) (gCons (gLst false gNil) (gCons (gVar 1) gNil))) (gCons (gC .non) gNil))))))
  (gRet (gC (.bl false)))
  gNext)
  t__law_asked_1)
def t__law_asked_3 : FS :=
  (gSeq (gDrop (gMt "list" mAppend (gVar 4) (gCons (gVar 1) gNil)))
  t__law_asked_2)
def t__law_asked_4 : FS :=
  (gSeq (gIfS (gOrT (gNotT (gTru (gCall (cFn 2 f__law_same_answer) (gCons (gCall (cFn 2 f_settled_by) (gCons (gVar 4) (gCons (gVar 1) gNil))) (gCons (gVar 2) gNil))))) (gTest (gOp fNe (gVar 4) (gVar 0))))
  (gRet (gC (.bl false)))
  gNext)
  t__law_asked_3)
def t__law_asked_5 : FS :=
  (gRet (gAnd (gCall (cFn 2 f__law_same_answer) (gCons (gCall (cFn 2 f_settled_by) (gCons (gVar 3) (gCons (gVar 6) gNil))) (gCons (gVar 2) gNil))) (gCall (cFn 2 f__law_same_answer) (gCons (gCall (cFn 2 f_settled_by) (gCons (gVar 4) (gCons (gVar 6) gNil))) (gCons (gVar 2) gNil)))))
def t__law_asked_6 : FS :=
  (gSeq (gIfS (gTest (gOp (fIsN true) (gVar 2) (gC .non)))
  (gAsg (gNot (gVar 2)) (tgName 2))
  gNext)
  t__law_asked_5)
def t__law_asked_7 : FS :=
  (gSeq (gIfS (gOrT (gNotT (gTru (gCall cIsa (gCons (gVar 6) (gCons (gC (.op (.ty "tuple"))) gNil))))) (gTest (gOp fNe (gVar 6) (gCall (cFn 1 f__law_contrary) (gCons (gVar 1) gNil)))))
  (gRet (gC (.bl false)))
  gNext)
  t__law_asked_6)
def t__law_asked_8 : FS :=
  (gSeq (gAsg (gCall (cFn 1 f_contrary) (gCons (gVar 1) gNil)) (tgName 6))
  t__law_asked_7)
def t__law_asked_9 : FS :=
  (gSeq (gIfS (gNotT (gTru (gCall (cFn 2 f__law_same_answer) (gCons (gCall (cFn 2 f_settled_by) (gCons (gVar 3) (gCons (gVar 1) gNil))) (gCons (gVar 2) gNil)))))
  (gRet (gC (.bl false)))
  gNext)
  t__law_asked_8)
def t__law_asked_10 : FS :=
  (gSeq (gFor (iRng asRng1 (gCons (gC (.int 2)) gNil)) (tgName 5)
  t__law_asked_4)
  t__law_asked_9)
def t__law_asked_11 : FS :=
  (gSeq (gAsg (gCall (cList true) (gCons (gVar 0) gNil)) (tgName 4))
  t__law_asked_10)
def t__law_asked_12 : FS :=
  (gSeq (gDrop (gMt "list" mReverse (gVar 3) gNil))
  t__law_asked_11)
def t__law_asked_13 : FS :=
  (gSeq (gAsg (gCall (cList true) (gCons (gVar 0) gNil)) (tgName 3))
  t__law_asked_12)
def t__law_asked_14 : FS :=
  (gSeq (gAsg (gCall (cFn 2 f__law_settled) (gCons (gVar 0) (gCons (gVar 1) gNil))) (tgName 2))
  t__law_asked_13)
def b__law_asked : FS :=
  t__law_asked_14
def f__law_asked : FC := fnC 7 b__law_asked
theorem e__law_asked (w0 w1 : W) (G : GH) : f__law_asked [w0, w1] G = ((b__law_asked [some w0, some w1, none, none, none, none, none] G).fin).calm := rfl
def t_law_1 : FS :=
  (gIfS (gTest (gOp fEq (gCall (cFn 2 f__law_draw) (gCons (gVar 1) (gCons (gC (.int 6)) gNil))) (gC (.int 0))))
  (gSet (gCall (cFn 2 f__law_draw) (gCons (gVar 1) (gCons (gOp fPow (gC (.int 10)) (gC (.int 20))) gNil))) (gVar 3) (gVar 4))
  gNext)
def t_law_2 : FS :=
  (gSeq (gDrop (gMt "list" mAppend (gVar 3) (gCons (gOp fSub (gCall (cFn 2 f__law_draw) (gCons (gVar 1) (gCons (gC (.int 9)) gNil))) (gC (.int 4))) gNil)))
  t_law_1)
def t_law_3 : FS :=
  (gSeq (gDrop (gMt "list" mAppend (gVar 2) (gCons (gVar 7) gNil)))
  t_law_2)
def t_law_4 : FS :=
  (gSeq (gIfS (gTest (gOp (fIn false) (gVar 7) (gVar 2)))
  (gAsg (gTup (gCons (gC (.str "given")) (gCons (gOp (fAddL false) (gC (.int 10)) (gVar 4)) gNil))) (tgName 7))
  gNext)
  t_law_3)
def t_law_5 : FS :=
  (gSeq (gAsg (gCall (cFn 2 (f__law_base 3)) (gCons (gVar 1) (gCons (gC (.int 1)) gNil))) (tgName 7))
  t_law_4)
def t_law_6 : FS :=
  (gIfS (gNotT (gTru (gCall (cFn 2 f__law_asked) (gCons (gVar 5) (gCons (gTup (gCons (gVar 11) (gCons (gOp fIx (gVar 2) (gVar 8)) (gCons (gOp fIx (gVar 2) (gVar 9)) (gCons (gVar 10) gNil))))) gNil)))))
  (gRet (gC (.bl false)))
  gNext)
def t_law_7 : FS :=
  (gSeq (gAsg (gOp fIx (gLst false (gCons (gC (.str "diff")) (gCons (gC (.str "same")) (gCons (gC (.str "other")) gNil)))) (gCall (cFn 2 f__law_draw) (gCons (gVar 1) (gCons (gC (.int 3)) gNil)))) (tgName 11))
  t_law_6)
def t_law_8 : FS :=
  (gSeq (gAsg (gOp fSub (gOp (fAddL false) (gOp fSub (gOp fIx (gVar 3) (gVar 8)) (gOp fIx (gVar 3) (gVar 9))) (gCall (cFn 2 f__law_draw) (gCons (gVar 1) (gCons (gC (.int 7)) gNil)))) (gC (.int 3))) (tgName 10))
  t_law_7)
def t_law_9 : FS :=
  (gSeq (gAsg (gOp fMod (gCall cInt (gCons (gOp (fAddL false) (gOp (fAddL false) (gVar 8) (gC (.int 1))) (gCall (cFn 2 f__law_draw) (gCons (gVar 1) (gCons (gOp fSub (gCall cLen (gCons (gVar 2) gNil)) (gC (.int 1))) gNil)))) gNil)) (gCall cLen (gCons (gVar 2) gNil))) (tgName 9))
  t_law_8)
def t_law_10 : FS :=
  (gSeq (gAsg (gCall (cFn 2 f__law_draw) (gCons (gVar 1) (gCons (gCall cLen (gCons (gVar 2) gNil)) gNil))) (tgName 8))
  t_law_9)
def t_law_11 : FS :=
  (gRet (gC (.bl true)))
def t_law_12 : FS :=
  (gSeq (gFor (iRng asRng1 (gCons (gC (.int 4)) gNil)) (tgName 6)
  t_law_10)
  t_law_11)
def t_law_13 : FS :=
  (gSeq (gAsg (gFrz (gCall (cFn 3 f__law_known) (gCons (gVar 1) (gCons (gVar 2) (gCons (gVar 3) gNil))))) (tgName 5))
  t_law_12)
def t_law_14 : FS :=
  (gSeq (gFor (iRng asRng1 (gCons (gOp (fAddL false) (gC (.int 2)) (gCall (cFn 2 f__law_draw) (gCons (gVar 1) (gCons (gC (.int 3)) gNil)))) gNil)) (tgName 4)
  t_law_5)
  t_law_13)
def t_law_15 : FS :=
  (gSeq (gAsg (gLst true gNil) (tgName 3))
  t_law_14)
def t_law_16 : FS :=
  (gSeq (gAsg (gLst true gNil) (tgName 2))
  t_law_15)
def t_law_17 : FS :=
  (gSeq (gAsg (gCall (cFn 1 f__law_deck) (gCons (gVar 0) gNil)) (tgName 1))
  t_law_16)
def b_law : FS :=
  t_law_17
def f_law : FC := fnC 12 b_law
theorem e_law (w0 : W) (G : GH) : f_law [w0] G = ((b_law [some w0, none, none, none, none, none, none, none, none, none, none, none] G).fin).calm := rfl

structure Tx (K : PySem.W.Frag) (mg : Str → Option Value) where
  a__law_deck : Addr
  d__law_deck : FuncData
  F__law_deck : Fun K "_law_deck" "_law_deck" s__law_deck a__law_deck d__law_deck
  g__law_deck : mg "_law_deck" = some (.ref a__law_deck)
  b__law_deck : Binds K d__law_deck ["script"] []
  a__law_draw : Addr
  d__law_draw : FuncData
  F__law_draw : Fun K "_law_draw" "_law_draw" s__law_draw a__law_draw d__law_draw
  g__law_draw : mg "_law_draw" = some (.ref a__law_draw)
  b__law_draw : Binds K d__law_draw ["deck", "many"] []
  a__law_known : Addr
  d__law_known : FuncData
  F__law_known : Fun K "_law_known" "_law_known" s__law_known a__law_known d__law_known
  g__law_known : mg "_law_known" = some (.ref a__law_known)
  b__law_known : Binds K d__law_known ["deck", "bases", "worth"] []
  a__law_base : Addr
  d__law_base : FuncData
  F__law_base : Fun K "_law_base" "_law_base" s__law_base a__law_base d__law_base
  g__law_base : mg "_law_base" = some (.ref a__law_base)
  b__law_base : Binds K d__law_base ["deck", "depth"] []
  a__law_settled : Addr
  d__law_settled : FuncData
  F__law_settled : Fun K "_law_settled" "_law_settled" s__law_settled a__law_settled d__law_settled
  g__law_settled : mg "_law_settled" = some (.ref a__law_settled)
  b__law_settled : Binds K d__law_settled ["known", "told"] []
  a_contrary : Addr
  d_contrary : FuncData
  F_contrary : Fun K "contrary" "contrary" s_contrary a_contrary d_contrary
  g_contrary : mg "contrary" = some (.ref a_contrary)
  b_contrary : Binds K d_contrary ["told"] []
  a__law_same_answer : Addr
  d__law_same_answer : FuncData
  F__law_same_answer : Fun K "_law_same_answer" "_law_same_answer" s__law_same_answer a__law_same_answer d__law_same_answer
  g__law_same_answer : mg "_law_same_answer" = some (.ref a__law_same_answer)
  b__law_same_answer : Binds K d__law_same_answer ["actual", "due"] []
  a_turned : Addr
  d_turned : FuncData
  F_turned : Fun K "turned" "turned" s_turned a_turned d_turned
  g_turned : mg "turned" = some (.ref a_turned)
  b_turned : Binds K d_turned ["told"] []
  a_like : Addr
  d_like : FuncData
  F_like : Fun K "like" "like" s_like a_like d_like
  g_like : mg "like" = some (.ref a_like)
  b_like : Binds K d_like ["one", "other"] []
  a_known_like : Addr
  d_known_like : FuncData
  F_known_like : Fun K "known_like" "known_like" s_known_like a_known_like d_known_like
  g_known_like : mg "known_like" = some (.ref a_known_like)
  b_known_like : Binds K d_known_like ["known", "told"] []
  a_bound_of : Addr
  d_bound_of : FuncData
  F_bound_of : Fun K "bound_of" "bound_of" s_bound_of a_bound_of d_bound_of
  g_bound_of : mg "bound_of" = some (.ref a_bound_of)
  b_bound_of : Binds K d_bound_of ["known", "u", "v"] []
  a_sameness_by : Addr
  d_sameness_by : FuncData
  F_sameness_by : Fun K "sameness_by" "sameness_by" s_sameness_by a_sameness_by d_sameness_by
  g_sameness_by : mg "sameness_by" = some (.ref a_sameness_by)
  b_sameness_by : Binds K d_sameness_by ["known", "told"] []
  a_difference_by : Addr
  d_difference_by : FuncData
  F_difference_by : Fun K "difference_by" "difference_by" s_difference_by a_difference_by d_difference_by
  g_difference_by : mg "difference_by" = some (.ref a_difference_by)
  b_difference_by : Binds K d_difference_by ["known", "told"] []
  a_settled_by : Addr
  d_settled_by : FuncData
  F_settled_by : Fun K "settled_by" "settled_by" s_settled_by a_settled_by d_settled_by
  g_settled_by : mg "settled_by" = some (.ref a_settled_by)
  b_settled_by : Binds K d_settled_by ["known", "told"] []
  a__law_contrary : Addr
  d__law_contrary : FuncData
  F__law_contrary : Fun K "_law_contrary" "_law_contrary" s__law_contrary a__law_contrary d__law_contrary
  g__law_contrary : mg "_law_contrary" = some (.ref a__law_contrary)
  b__law_contrary : Binds K d__law_contrary ["told"] []
  a__law_asked : Addr
  d__law_asked : FuncData
  F__law_asked : Fun K "_law_asked" "_law_asked" s__law_asked a__law_asked d__law_asked
  g__law_asked : mg "_law_asked" = some (.ref a__law_asked)
  b__law_asked : Binds K d__law_asked ["known", "told"] []
  a_law : Addr
  d_law : FuncData
  F_law : Fun K "law" "law" s_law a_law d_law
  g_law : mg "law" = some (.ref a_law)
  b_law : Binds K d_law ["script"] []
  z_any : mg "any" = none
  z_int : mg "int" = none
  z_isinstance : mg "isinstance" = none
  z_len : mg "len" = none
  z_list : mg "list" = none
  z_min : mg "min" = none
  z_range : mg "range" = none
  z_tuple : mg "tuple" = none
section
variable {P : Program} {w : World} {K : PySem.W.Frag} {mg : Str → Option Value} {base : Heap} {cls : Nat → Addr} (T : Tx K mg)
theorem ok__law_deck : FnOk P w K mg base CX0 1 T.a__law_deck T.d__law_deck ["script"] (absF ⟨K, cls⟩ 1 f__law_deck) :=
  @fn0 ⟨K, cls⟩ P w mg base "_law_deck" "_law_deck" s__law_deck T.a__law_deck T.d__law_deck names__law_deck ["script"] 0 b__law_deck T.F__law_deck sc__law_deck fun cdv A outer s H E hr => ((fss_one (fs_ret (fe_lst (own := true) (fa_cons (fe_lc (own := false) (onames := [("cell", 1)]) rfl sc__law_deck.nd (fi_seq (fe_sl (own := false) (fe_var (pv 0)) fo_none (fo_some fe_int))) (blkOk_by (N := names__law_deck) (sc := defScope s__law_deck) (by decide +kernel)) (fun _ _ _ _ _ => (fg_name (pg_name (i := 1) sc__law_deck.nd rfl (by first | exact .inl rfl | exact .inr rfl)))) (fun _ _ _ _ _ => fts_nil) (fun _ _ _ _ _ => (fe_callTy cf_int (by rfl) T.z_int PyProof.Rows.boot_int (fa_cons (fe_var (pv 1)) fa_nil)))) (fa_cons fe_int (fa_cons fe_int (fa_cons fe_int fa_nil))))))))
theorem ok__law_draw : FnOk P w K mg base CX0 1 T.a__law_draw T.d__law_draw ["deck", "many"] (absF ⟨K, cls⟩ 2 f__law_draw) :=
  @fn0 ⟨K, cls⟩ P w mg base "_law_draw" "_law_draw" s__law_draw T.a__law_draw T.d__law_draw names__law_draw ["deck", "many"] 0 b__law_draw T.F__law_draw sc__law_draw fun cdv A outer s H E hr => ((fss_cons (fs_set (fe_op (of_add (own := false)) (fe_ix (fe_var (pv 0)) fe_int) fe_int) (fe_var (pv 0)) fe_int)
  (fss_cons (fs_if (ft_cmp of_ge (fe_ix (fe_var (pv 0)) fe_int) (fe_var (pv 1)) (by rfl))
  (fss_cons (fs_asg (fe_op of_mod (fe_callTy cf_int (by rfl) T.z_int PyProof.Rows.boot_int (fa_cons (fe_ix (fe_var (pv 0)) fe_int) fa_nil)) (fe_var (pv 1))) (fg_name (pg_name (i := 6) sc__law_draw.nd rfl (by first | exact .inl rfl | exact .inr rfl))))
  (fss_cons (fs_set (fe_op of_div (fe_ix (fe_var (pv 0)) fe_int) (fe_var (pv 1))) (fe_var (pv 0)) fe_int)
  (fss_one (fs_ret (fe_var (pv 6))))))
  fss_nil)
  (fss_cons (fs_asg fe_int (fg_name (pg_name (i := 2) sc__law_draw.nd rfl (by first | exact .inl rfl | exact .inr rfl))))
  (fss_cons (fs_if (ft_tru (fe_ix (fe_var (pv 0)) fe_int))
  (fss_one (fs_asg (fe_ix (fe_ix (fe_var (pv 0)) fe_int) (fe_op of_mod (fe_callTy cf_int (by rfl) T.z_int PyProof.Rows.boot_int (fa_cons (fe_ix (fe_var (pv 0)) fe_int) fa_nil)) (fe_callB cf_len (by rfl) T.z_len PySem.boot_len (fa_cons (fe_ix (fe_var (pv 0)) fe_int) fa_nil)))) (fg_name (pg_name (i := 2) sc__law_draw.nd rfl (by first | exact .inl rfl | exact .inr rfl)))))
  fss_nil)
  (fss_cons (fs_set (fe_op (of_add (own := false)) (fe_ix (fe_var (pv 0)) fe_int) fe_int) (fe_var (pv 0)) fe_int)
  (fss_cons (fs_if ((fw_and (ft_cmp of_le (fe_ix (fe_var (pv 0)) fe_int) (fe_callB cf_len (by rfl) T.z_len PySem.boot_len (fa_cons (fe_ix (fe_var (pv 0)) fe_int) fa_nil)) (by rfl)) (fw_and1 (ft_cmp of_ge (fe_var (pv 2)) (fe_op of_pow fe_int fe_int) (by rfl))))).pt
  (fss_cons (fs_set (fe_op of_div (fe_var (pv 2)) (fe_var (pv 1))) (fe_var (pv 0)) fe_int)
  (fss_one (fs_ret (fe_op of_mod (fe_callTy cf_int (by rfl) T.z_int PyProof.Rows.boot_int (fa_cons (fe_var (pv 2)) fa_nil)) (fe_var (pv 1))))))
  fss_nil)
  (fss_cons (fs_asg (fe_op of_mod (fe_callTy cf_int (by rfl) T.z_int PyProof.Rows.boot_int (fa_cons (fe_op (of_add (own := false)) (fe_var (pv 2)) (fe_op of_mul fe_int (fe_ix (fe_var (pv 0)) fe_int))) fa_nil)) fe_int) (fg_name (pg_name (i := 3) sc__law_draw.nd rfl (by first | exact .inl rfl | exact .inr rfl))))
  (fss_cons (fs_asg (fe_op of_mod (fe_callTy cf_int (by rfl) T.z_int PyProof.Rows.boot_int (fa_cons (fe_op (of_add (own := false)) (fe_op (of_add (own := false)) (fe_op of_mul (fe_var (pv 3)) (fe_var (pv 3))) (fe_op of_mul fe_int (fe_var (pv 3)))) (fe_ix (fe_var (pv 0)) fe_int)) fa_nil)) fe_int) (fg_name (pg_name (i := 4) sc__law_draw.nd rfl (by first | exact .inl rfl | exact .inr rfl))))
  (fss_cons (fs_asg (fe_op of_mod (fe_callTy cf_int (by rfl) T.z_int PyProof.Rows.boot_int (fa_cons (fe_op (of_add (own := false)) (fe_op (of_add (own := false)) (fe_op of_mul (fe_op of_div (fe_var (pv 4)) fe_int) fe_int) (fe_op of_mul (fe_var (pv 4)) fe_int)) (fe_var (pv 3))) fa_nil)) fe_int) (fg_name (pg_name (i := 5) sc__law_draw.nd rfl (by first | exact .inl rfl | exact .inr rfl))))
  (fss_one (fs_ret (fe_op of_mod (fe_callTy cf_int (by rfl) T.z_int PyProof.Rows.boot_int (fa_cons (fe_op of_div (fe_var (pv 5)) fe_int) fa_nil)) (fe_var (pv 1)))))))))))))))
theorem ok__law_known : FnOk P w K mg base CX0 2 T.a__law_known T.d__law_known ["deck", "bases", "worth"] (absF ⟨K, cls⟩ 3 f__law_known) :=
  @fn0 ⟨K, cls⟩ P w mg base "_law_known" "_law_known" s__law_known T.a__law_known T.d__law_known names__law_known ["deck", "bases", "worth"] 1 b__law_known T.F__law_known sc__law_known fun cdv A outer s H E hr => ((fss_cons (fs_asg (fe_lst (own := true) fa_nil) (fg_name (pg_name (i := 3) sc__law_known.nd rfl (by first | exact .inl rfl | exact .inr rfl))))
  (fss_cons (fs_for PassesOwn.never rfl (fi_rng1 (by rfl) T.z_range (fa_cons (fe_call (ok__law_draw T) (hr.mono (by decide)) (by rfl) T.g__law_draw T.F__law_draw.kp T.b__law_draw (fa_cons (fe_var (pv 0)) (fa_cons fe_int fa_nil))) fa_nil)) (fg_name (pg_name (i := 4) sc__law_known.nd rfl (by first | exact .inl rfl | exact .inr rfl)))
  (fss_cons (fs_asg (fe_call (ok__law_draw T) (hr.mono (by decide)) (by rfl) T.g__law_draw T.F__law_draw.kp T.b__law_draw (fa_cons (fe_var (pv 0)) (fa_cons (fe_callB cf_len (by rfl) T.z_len PySem.boot_len (fa_cons (fe_var (pv 1)) fa_nil)) fa_nil))) (fg_name (pg_name (i := 5) sc__law_known.nd rfl (by first | exact .inl rfl | exact .inr rfl))))
  (fss_cons (fs_asg (fe_op of_mod (fe_callTy cf_int (by rfl) T.z_int PyProof.Rows.boot_int (fa_cons (fe_op (of_add (own := false)) (fe_op (of_add (own := false)) (fe_var (pv 5)) fe_int) (fe_call (ok__law_draw T) (hr.mono (by decide)) (by rfl) T.g__law_draw T.F__law_draw.kp T.b__law_draw (fa_cons (fe_var (pv 0)) (fa_cons (fe_op of_sub (fe_callB cf_len (by rfl) T.z_len PySem.boot_len (fa_cons (fe_var (pv 1)) fa_nil)) fe_int) fa_nil)))) fa_nil)) (fe_callB cf_len (by rfl) T.z_len PySem.boot_len (fa_cons (fe_var (pv 1)) fa_nil))) (fg_name (pg_name (i := 6) sc__law_known.nd rfl (by first | exact .inl rfl | exact .inr rfl))))
  (fss_cons (fs_asg (fe_op of_sub (fe_ix (fe_var (pv 2)) (fe_var (pv 5))) (fe_ix (fe_var (pv 2)) (fe_var (pv 6)))) (fg_name (pg_name (i := 7) sc__law_known.nd rfl (by first | exact .inl rfl | exact .inr rfl))))
  (fss_cons (fs_asg (fe_call (ok__law_draw T) (hr.mono (by decide)) (by rfl) T.g__law_draw T.F__law_draw.kp T.b__law_draw (fa_cons (fe_var (pv 0)) (fa_cons fe_int fa_nil))) (fg_name (pg_name (i := 8) sc__law_known.nd rfl (by first | exact .inl rfl | exact .inr rfl))))
  (fss_cons (fs_asg (fe_call (ok__law_draw T) (hr.mono (by decide)) (by rfl) T.g__law_draw T.F__law_draw.kp T.b__law_draw (fa_cons (fe_var (pv 0)) (fa_cons (fe_op (of_add (own := false)) (fe_callB cf_len (by rfl) T.z_len PySem.boot_len (fa_cons (fe_var (pv 3)) fa_nil)) fe_int) fa_nil))) (fg_name (pg_name (i := 9) sc__law_known.nd rfl (by first | exact .inl rfl | exact .inr rfl))))
  (fss_one (fs_if (ft_cmp of_lt (fe_var (pv 8)) fe_int (by rfl))
  (fss_one (fs_expr (fe_mt PySem.F.plainAttrs_list PySem.F.slot_list_insert PySem.F.type_list_insert mf_insert (fe_var (pv 3)) (fa_cons (fe_var (pv 9)) (fa_cons (fe_tup (fa_cons fe_str (fa_cons (fe_ix (fe_var (pv 1)) (fe_var (pv 5))) (fa_cons (fe_ix (fe_var (pv 1)) (fe_var (pv 6))) (fa_cons (fe_op (of_add (own := false)) (fe_var (pv 7)) (fe_call (ok__law_draw T) (hr.mono (by decide)) (by rfl) T.g__law_draw T.F__law_draw.kp T.b__law_draw (fa_cons (fe_var (pv 0)) (fa_cons fe_int fa_nil)))) fa_nil))))) fa_nil)))))
  (fss_one (fs_if (ft_cmp (of_eq hr.units) (fe_var (pv 8)) fe_int (by rfl))
  (fss_one (fs_expr (fe_mt PySem.F.plainAttrs_list PySem.F.slot_list_insert PySem.F.type_list_insert mf_insert (fe_var (pv 3)) (fa_cons (fe_var (pv 9)) (fa_cons (fe_tup (fa_cons fe_str (fa_cons (fe_ix (fe_var (pv 1)) (fe_var (pv 5))) (fa_cons (fe_ix (fe_var (pv 1)) (fe_var (pv 6))) (fa_cons (fe_op (of_add (own := false)) (fe_var (pv 7)) (fe_ix (fe_lst (own := false) (fa_cons (fe_neg fe_int) (fa_cons (fe_neg fe_int) (fa_cons fe_int (fa_cons fe_int fa_nil))))) (fe_call (ok__law_draw T) (hr.mono (by decide)) (by rfl) T.g__law_draw T.F__law_draw.kp T.b__law_draw (fa_cons (fe_var (pv 0)) (fa_cons fe_int fa_nil))))) fa_nil))))) fa_nil)))))
  (fss_cons (fs_expr (fe_mt PySem.F.plainAttrs_list PySem.F.slot_list_insert PySem.F.type_list_insert mf_insert (fe_var (pv 3)) (fa_cons (fe_var (pv 9)) (fa_cons (fe_tup (fa_cons fe_str (fa_cons (fe_ix (fe_var (pv 1)) (fe_var (pv 5))) (fa_cons (fe_ix (fe_var (pv 1)) (fe_var (pv 6))) (fa_cons (fe_var (pv 7)) fa_nil))))) fa_nil))))
  (fss_cons (fs_expr (fe_mt PySem.F.plainAttrs_list PySem.F.slot_list_append PySem.F.type_list_append mf_append (fe_var (pv 3)) (fa_cons (fe_tup (fa_cons fe_str (fa_cons (fe_ix (fe_var (pv 1)) (fe_var (pv 5))) (fa_cons (fe_ix (fe_var (pv 1)) (fe_var (pv 6))) (fa_cons (fe_var (pv 7)) fa_nil))))) fa_nil)))
  (fss_one (fs_expr (fe_mt PySem.F.plainAttrs_list PySem.F.slot_list_insert PySem.F.type_list_insert mf_insert (fe_var (pv 3)) (fa_cons (fe_call (ok__law_draw T) (hr.mono (by decide)) (by rfl) T.g__law_draw T.F__law_draw.kp T.b__law_draw (fa_cons (fe_var (pv 0)) (fa_cons (fe_op (of_add (own := false)) (fe_var (pv 9)) fe_int) fa_nil))) (fa_cons (fe_tup (fa_cons fe_str (fa_cons (fe_ix (fe_var (pv 1)) (fe_var (pv 6))) (fa_cons (fe_ix (fe_var (pv 1)) (fe_var (pv 5))) (fa_cons (fe_neg (fe_var (pv 7))) fa_nil))))) fa_nil)))))))))))))))))
  (fss_one (fs_ret (fe_var (pv 3)))))))
theorem ok__law_base : ∀ d : Nat, FnOk P w K mg base CX0 (1 + d) T.a__law_base T.d__law_base ["deck", "depth"] (absF ⟨K, cls⟩ 2 (f__law_base d))
  | 0 => ⟨fun vs H Q E h => h.1, fun A outer s H args us vs Q E hr e0 hb rv hsp => by
    obtain ⟨_, c, ws, _, _, _, th⟩ := hsp
    exact th.elim⟩
  | d + 1 => by
    have ih : FnOk P w K mg base CX0 (1 + d) T.a__law_base T.d__law_base ["deck", "depth"] (absF ⟨K, cls⟩ 2 (f__law_base d)) := ok__law_base d
    exact @fn0 ⟨K, cls⟩ P w mg base "_law_base" "_law_base" s__law_base T.a__law_base T.d__law_base names__law_base ["deck", "depth"] (1 + d) (b__law_base (f__law_base d)) T.F__law_base sc__law_base fun cdv A outer s H E hr => ((fss_cons (fs_asg (fe_call (ok__law_draw T) (hr.mono (by omega)) (by rfl) T.g__law_draw T.F__law_draw.kp T.b__law_draw (fa_cons (fe_var (pv 0)) (fa_cons fe_int fa_nil))) (fg_name (pg_name (i := 2) sc__law_base.nd rfl (by first | exact .inl rfl | exact .inr rfl))))
  (fss_cons (fs_if (ft_cmp (of_eq hr.units) (fe_var (pv 2)) fe_int (by rfl))
  (fss_one (fs_ret fe_non))
  fss_nil)
  (fss_cons (fs_if (ft_cmp (of_eq hr.units) (fe_var (pv 2)) fe_int (by rfl))
  (fss_one (fs_ret (fe_tup (fa_cons fe_str (fa_cons (fe_call (ok__law_draw T) (hr.mono (by omega)) (by rfl) T.g__law_draw T.F__law_draw.kp T.b__law_draw (fa_cons (fe_var (pv 0)) (fa_cons fe_int fa_nil))) fa_nil)))))
  fss_nil)
  (fss_cons (fs_if (ft_cmp (of_eq hr.units) (fe_var (pv 2)) fe_int (by rfl))
  (fss_one (fs_ret (fe_tup (fa_cons (fe_ix (fe_lst (own := false) (fa_cons fe_str (fa_cons fe_str fa_nil))) (fe_call (ok__law_draw T) (hr.mono (by omega)) (by rfl) T.g__law_draw T.F__law_draw.kp T.b__law_draw (fa_cons (fe_var (pv 0)) (fa_cons fe_int fa_nil)))) (fa_cons (fe_call (ok__law_draw T) (hr.mono (by omega)) (by rfl) T.g__law_draw T.F__law_draw.kp T.b__law_draw (fa_cons (fe_var (pv 0)) (fa_cons fe_int fa_nil))) fa_nil)))))
  fss_nil)
  (fss_cons (fs_if ((fw_or (ft_cmp of_lt (fe_var (pv 2)) fe_int (by rfl)) (fw_or1 (ft_cmp (of_eq hr.units) (fe_var (pv 1)) fe_int (by rfl))))).pt
  (fss_one (fs_ret (fe_tup (fa_cons fe_str (fa_cons (fe_call (ok__law_draw T) (hr.mono (by omega)) (by rfl) T.g__law_draw T.F__law_draw.kp T.b__law_draw (fa_cons (fe_var (pv 0)) (fa_cons fe_int fa_nil))) (fa_cons (fe_call (ok__law_draw T) (hr.mono (by omega)) (by rfl) T.g__law_draw T.F__law_draw.kp T.b__law_draw (fa_cons (fe_var (pv 0)) (fa_cons fe_int fa_nil))) fa_nil))))))
  fss_nil)
  (fss_one (fs_ret (fe_tup (fa_cons fe_str (fa_cons (fe_call (ok__law_draw T) (hr.mono (by omega)) (by rfl) T.g__law_draw T.F__law_draw.kp T.b__law_draw (fa_cons (fe_var (pv 0)) (fa_cons fe_int fa_nil))) (fa_cons (fe_call (ok__law_draw T) (hr.mono (by omega)) (by rfl) T.g__law_draw T.F__law_draw.kp T.b__law_draw (fa_cons (fe_var (pv 0)) (fa_cons fe_int fa_nil))) (fa_cons (fe_tup (fa_cons (fe_call ih hr (by rfl) T.g__law_base T.F__law_base.kp T.b__law_base (fa_cons (fe_var (pv 0)) (fa_cons (fe_op of_sub (fe_var (pv 1)) fe_int) fa_nil))) (fa_cons (fe_op of_sub (fe_call (ok__law_draw T) (hr.mono (by omega)) (by rfl) T.g__law_draw T.F__law_draw.kp T.b__law_draw (fa_cons (fe_var (pv 0)) (fa_cons fe_int fa_nil))) fe_int) fa_nil))) fa_nil)))))))))))))
theorem ok__law_settled : FnOk P w K mg base CX0 1 T.a__law_settled T.d__law_settled ["known", "told"] (absF ⟨K, cls⟩ 2 f__law_settled) :=
  @fn0 ⟨K, cls⟩ P w mg base "_law_settled" "_law_settled" s__law_settled T.a__law_settled T.d__law_settled names__law_settled ["known", "told"] 0 b__law_settled T.F__law_settled sc__law_settled fun cdv A outer s H E hr => ((fss_cons (fs_asg (fe_ix (fe_var (pv 1)) fe_int) (fg_name (pg_name (i := 2) sc__law_settled.nd rfl (by first | exact .inl rfl | exact .inr rfl))))
  (fss_cons (fs_asg (fe_ix (fe_var (pv 1)) fe_int) (fg_name (pg_name (i := 3) sc__law_settled.nd rfl (by first | exact .inl rfl | exact .inr rfl))))
  (fss_cons (fs_asg (fe_ix (fe_var (pv 1)) fe_int) (fg_name (pg_name (i := 4) sc__law_settled.nd rfl (by first | exact .inl rfl | exact .inr rfl))))
  (fss_cons (fs_for PassesOwn.never rfl (fi_seq (fe_var (pv 0))) (fg_name (pg_name (i := 5) sc__law_settled.nd rfl (by first | exact .inl rfl | exact .inr rfl)))
  (fss_cons (fs_asg (fe_and (fe_cmp (of_eq hr.units) (fe_ix (fe_var (pv 5)) fe_int) (fe_var (pv 2)) (by rfl)) (fe_one (fe_cmp (of_eq hr.units) (fe_ix (fe_var (pv 5)) fe_int) (fe_var (pv 3)) (by rfl)))) (fg_name (pg_name (i := 6) sc__law_settled.nd rfl (by first | exact .inl rfl | exact .inr rfl))))
  (fss_cons (fs_asg (fe_and (fe_cmp (of_eq hr.units) (fe_ix (fe_var (pv 5)) fe_int) (fe_var (pv 3)) (by rfl)) (fe_one (fe_cmp (of_eq hr.units) (fe_ix (fe_var (pv 5)) fe_int) (fe_var (pv 2)) (by rfl)))) (fg_name (pg_name (i := 7) sc__law_settled.nd rfl (by first | exact .inl rfl | exact .inr rfl))))
  (fss_cons (fs_if ((fw_and (ft_cmp (of_eq hr.units) (fe_ix (fe_var (pv 1)) fe_int) fe_str (by rfl)) (fw_and1 (ft_cmp (of_eq hr.units) (fe_ix (fe_var (pv 5)) fe_int) fe_str (by rfl))))).pt
  (fss_cons (fs_if ((fw_and (ft_tru (fe_var (pv 6))) (fw_and1 (ft_cmp of_le (fe_ix (fe_var (pv 5)) fe_int) (fe_var (pv 4)) (by rfl))))).pt
  (fss_one (fs_ret fe_bl))
  fss_nil)
  (fss_one (fs_if ((fw_and (ft_tru (fe_var (pv 7))) (fw_and1 (ft_cmp of_le (fe_ix (fe_var (pv 5)) fe_int) (fe_op of_sub (fe_neg (fe_var (pv 4))) fe_int) (by rfl))))).pt
  (fss_one (fs_ret fe_bl))
  fss_nil)))
  fss_nil)
  (fss_cons (fs_if ((fw_and (ft_cmp (of_ne hr.units) (fe_ix (fe_var (pv 1)) fe_int) fe_str (by rfl)) (fw_and1 (ft_cmp (of_eq hr.units) (fe_ix (fe_var (pv 5)) fe_int) fe_str (by rfl))))).pt
  (fss_one (fs_if ((fw_or ((fw_and (ft_tru (fe_var (pv 6))) (fw_and1 (ft_cmp of_lt (fe_ix (fe_var (pv 5)) fe_int) (fe_var (pv 4)) (by rfl))))).pt (fw_or1 ((fw_and (ft_tru (fe_var (pv 7))) (fw_and1 (ft_cmp of_lt (fe_ix (fe_var (pv 5)) fe_int) (fe_neg (fe_var (pv 4))) (by rfl))))).pt))).pt
  (fss_one (fs_ret (fe_cmp (of_eq hr.units) (fe_ix (fe_var (pv 1)) fe_int) fe_str (by rfl))))
  fss_nil))
  fss_nil)
  (fss_one (fs_if ((fw_and (ft_cmp (of_ne hr.units) (fe_ix (fe_var (pv 1)) fe_int) fe_str (by rfl)) (fw_and1 (ft_cmp (of_ne hr.units) (fe_ix (fe_var (pv 5)) fe_int) fe_str (by rfl))))).pt
  (fss_one (fs_if ((fw_or ((fw_and (ft_tru (fe_var (pv 6))) (fw_and1 (ft_cmp (of_eq hr.units) (fe_ix (fe_var (pv 5)) fe_int) (fe_var (pv 4)) (by rfl))))).pt (fw_or1 ((fw_and (ft_tru (fe_var (pv 7))) (fw_and1 (ft_cmp (of_eq hr.units) (fe_ix (fe_var (pv 5)) fe_int) (fe_neg (fe_var (pv 4))) (by rfl))))).pt))).pt
  (fss_one (fs_ret (fe_cmp (of_eq hr.units) (fe_ix (fe_var (pv 1)) fe_int) (fe_ix (fe_var (pv 5)) fe_int) (by rfl))))
  fss_nil))
  fss_nil)))))))
  (fss_one (fs_ret fe_non)))))))
theorem ok_contrary : FnOk P w K mg base CX0 1 T.a_contrary T.d_contrary ["told"] (absF ⟨K, cls⟩ 1 f_contrary) :=
  @fn0 ⟨K, cls⟩ P w mg base "contrary" "contrary" s_contrary T.a_contrary T.d_contrary names_contrary ["told"] 0 b_contrary T.F_contrary sc_contrary fun cdv A outer s H E hr => ((fss_cons (fs_asg (fe_var (pv 0)) (fg_tup rfl (fgs_cons (fg_name (pg_name (i := 1) sc_contrary.nd rfl (by first | exact .inl rfl | exact .inr rfl))) (fgs_cons (fg_name (pg_name (i := 2) sc_contrary.nd rfl (by first | exact .inl rfl | exact .inr rfl))) (fgs_cons (fg_name (pg_name (i := 3) sc_contrary.nd rfl (by first | exact .inl rfl | exact .inr rfl))) (fgs_cons (fg_name (pg_name (i := 4) sc_contrary.nd rfl (by first | exact .inl rfl | exact .inr rfl))) fgs_nil))))))
  (fss_cons (fs_if (ft_cmp (of_eq hr.units) (fe_var (pv 1)) fe_str (by rfl))
  (fss_one (fs_ret (fe_tup (fa_cons fe_str (fa_cons (fe_var (pv 3)) (fa_cons (fe_var (pv 2)) (fa_cons (fe_op of_sub (fe_op of_sub fe_int (fe_var (pv 4))) fe_int) fa_nil)))))))
  fss_nil)
  (fss_one (fs_ret (fe_tup (fa_cons (fe_if (ft_cmp (of_eq hr.units) (fe_var (pv 1)) fe_str (by rfl)) fe_str fe_str) (fa_cons (fe_var (pv 2)) (fa_cons (fe_var (pv 3)) (fa_cons (fe_var (pv 4)) fa_nil))))))))))
theorem ok__law_same_answer : FnOk P w K mg base CX0 1 T.a__law_same_answer T.d__law_same_answer ["actual", "due"] (absF ⟨K, cls⟩ 2 f__law_same_answer) :=
  @fn0 ⟨K, cls⟩ P w mg base "_law_same_answer" "_law_same_answer" s__law_same_answer T.a__law_same_answer T.d__law_same_answer names__law_same_answer ["actual", "due"] 0 b__law_same_answer T.F__law_same_answer sc__law_same_answer fun cdv A outer s H E hr => ((fss_cons (fs_if (ft_cmp of_is (fe_var (pv 1)) fe_non (by rfl))
  (fss_one (fs_ret (fe_cmp of_is (fe_var (pv 0)) fe_non (by rfl))))
  fss_nil)
  (fss_cons (fs_if (ft_tru (fe_var (pv 1)))
  (fss_one (fs_ret (fe_cmp of_isB (fe_var (pv 0)) fe_bl (by rfl))))
  fss_nil)
  (fss_one (fs_ret (fe_cmp of_isB (fe_var (pv 0)) fe_bl (by rfl)))))))
theorem ok_turned : FnOk P w K mg base CX0 1 T.a_turned T.d_turned ["told"] (absF ⟨K, cls⟩ 1 f_turned) :=
  @fn0 ⟨K, cls⟩ P w mg base "turned" "turned" s_turned T.a_turned T.d_turned names_turned ["told"] 0 b_turned T.F_turned sc_turned fun cdv A outer s H E hr => ((fss_cons (fs_asg (fe_var (pv 0)) (fg_tup rfl (fgs_cons (fg_name (pg_name (i := 1) sc_turned.nd rfl (by first | exact .inl rfl | exact .inr rfl))) (fgs_cons (fg_name (pg_name (i := 2) sc_turned.nd rfl (by first | exact .inl rfl | exact .inr rfl))) (fgs_cons (fg_name (pg_name (i := 3) sc_turned.nd rfl (by first | exact .inl rfl | exact .inr rfl))) (fgs_cons (fg_name (pg_name (i := 4) sc_turned.nd rfl (by first | exact .inl rfl | exact .inr rfl))) fgs_nil))))))
  (fss_one (fs_ret (fe_if (ft_cmp (of_eq hr.units) (fe_var (pv 1)) fe_str (by rfl)) (fe_var (pv 0)) (fe_tup (fa_cons (fe_var (pv 1)) (fa_cons (fe_var (pv 3)) (fa_cons (fe_var (pv 2)) (fa_cons (fe_op of_sub fe_int (fe_var (pv 4))) fa_nil))))))))))
theorem ok_like : FnOk P w K mg base CX0 2 T.a_like T.d_like ["one", "other"] (absF ⟨K, cls⟩ 2 f_like) :=
  @fn0 ⟨K, cls⟩ P w mg base "like" "like" s_like T.a_like T.d_like names_like ["one", "other"] 1 b_like T.F_like sc_like fun cdv A outer s H E hr => ((fss_one (fs_ret (fe_or (fe_cmp (of_eq hr.units) (fe_var (pv 0)) (fe_var (pv 1)) (by rfl)) (fe_one (fe_cmp (of_eq hr.units) (fe_var (pv 0)) (fe_call (ok_turned T) (hr.mono (by decide)) (by rfl) T.g_turned T.F_turned.kp T.b_turned (fa_cons (fe_var (pv 1)) fa_nil)) (by rfl)))))))
theorem ok_known_like : FnOk P w K mg base CX0 3 T.a_known_like T.d_known_like ["known", "told"] (absF ⟨K, cls⟩ 2 f_known_like) :=
  @fn0 ⟨K, cls⟩ P w mg base "known_like" "known_like" s_known_like T.a_known_like T.d_known_like names_known_like ["known", "told"] 2 b_known_like T.F_known_like sc_known_like fun cdv A outer s H E hr => ((fss_one (fs_ret (fe_callB (cf_any rfl) (by rfl) T.z_any PyProof.Rows.boot_any (fa_cons (fe_lc (own := false) (onames := [("one", 2)]) rfl sc_known_like.nd (fi_seq (fe_var (pv 0))) (blkOk_by (N := names_known_like) (sc := defScope s_known_like) (by decide +kernel)) (fun _ _ _ _ _ => (fg_name (pg_name (i := 2) sc_known_like.nd rfl (by first | exact .inl rfl | exact .inr rfl)))) (fun _ _ _ _ _ => fts_nil) (fun _ _ _ _ _ => (fe_call (ok_like T) (hr.mono (by decide)) (by rfl) T.g_like T.F_like.kp T.b_like (fa_cons (fe_var (pv 2)) (fa_cons (fe_var (pv 1)) fa_nil))))) fa_nil)))))
theorem ok_bound_of : FnOk P w K mg base CX0 1 T.a_bound_of T.d_bound_of ["known", "u", "v"] (absF ⟨K, cls⟩ 3 f_bound_of) :=
  @fn0 ⟨K, cls⟩ P w mg base "bound_of" "bound_of" s_bound_of T.a_bound_of T.d_bound_of names_bound_of ["known", "u", "v"] 0 b_bound_of T.F_bound_of sc_bound_of fun cdv A outer s H E hr => ((fss_one (fs_ret (fe_callK (cf_minD rfl hr.units) (by rfl) T.z_min PyProof.Rows.boot_min (fa_cons (fe_lc (own := false) (onames := [("one", 3)]) rfl sc_bound_of.nd (fi_seq (fe_var (pv 0))) (blkOk_by (N := names_bound_of) (sc := defScope s_bound_of) (by decide +kernel)) (fun _ _ _ _ _ => (fg_name (pg_name (i := 3) sc_bound_of.nd rfl (by first | exact .inl rfl | exact .inr rfl)))) (fun _ _ _ _ _ => (fts_one (ft_cmp (of_eq hr.units) (fe_sl (own := false) (fe_var (pv 3)) fo_none (fo_some fe_int)) (fe_tup (fa_cons fe_str (fa_cons (fe_var (pv 1)) (fa_cons (fe_var (pv 2)) fa_nil)))) (by rfl)))) (fun _ _ _ _ _ => (fe_ix (fe_var (pv 3)) fe_int))) fa_nil) (fk_cons fe_non fk_nil)))))
theorem ok_sameness_by : FnOk P w K mg base CX0 4 T.a_sameness_by T.d_sameness_by ["known", "told"] (absF ⟨K, cls⟩ 2 f_sameness_by) :=
  @fn0 ⟨K, cls⟩ P w mg base "sameness_by" "sameness_by" s_sameness_by T.a_sameness_by T.d_sameness_by names_sameness_by ["known", "told"] 3 b_sameness_by T.F_sameness_by sc_sameness_by fun cdv A outer s H E hr => ((fss_cons (fs_asg (fe_var (pv 1)) (fg_tup rfl (fgs_cons (fg_name (pg_name (i := 2) sc_sameness_by.nd rfl (by first | exact .inl rfl | exact .inr rfl))) (fgs_cons (fg_name (pg_name (i := 3) sc_sameness_by.nd rfl (by first | exact .inl rfl | exact .inr rfl))) (fgs_cons (fg_name (pg_name (i := 4) sc_sameness_by.nd rfl (by first | exact .inl rfl | exact .inr rfl))) (fgs_cons (fg_name (pg_name (i := 5) sc_sameness_by.nd rfl (by first | exact .inl rfl | exact .inr rfl))) fgs_nil))))))
  (fss_cons (fs_if (ft_tru (fe_call (ok_known_like T) (hr.mono (by decide)) (by rfl) T.g_known_like T.F_known_like.kp T.b_known_like (fa_cons (fe_var (pv 0)) (fa_cons (fe_var (pv 1)) fa_nil))))
  (fss_one (fs_ret fe_bl))
  fss_nil)
  (fss_cons (fs_if (ft_tru (fe_call (ok_known_like T) (hr.mono (by decide)) (by rfl) T.g_known_like T.F_known_like.kp T.b_known_like (fa_cons (fe_var (pv 0)) (fa_cons (fe_call (ok_contrary T) (hr.mono (by decide)) (by rfl) T.g_contrary T.F_contrary.kp T.b_contrary (fa_cons (fe_var (pv 1)) fa_nil)) fa_nil))))
  (fss_one (fs_ret fe_bl))
  fss_nil)
  (fss_cons (fs_par (i := 6) (j := 7) rfl sc_sameness_by.nd rfl rfl (by decide) rfl rfl (fa_cons (fe_call (ok_bound_of T) (hr.mono (by decide)) (by rfl) T.g_bound_of T.F_bound_of.kp T.b_bound_of (fa_cons (fe_var (pv 0)) (fa_cons (fe_var (pv 3)) (fa_cons (fe_var (pv 4)) fa_nil)))) (fa_cons (fe_call (ok_bound_of T) (hr.mono (by decide)) (by rfl) T.g_bound_of T.F_bound_of.kp T.b_bound_of (fa_cons (fe_var (pv 0)) (fa_cons (fe_var (pv 4)) (fa_cons (fe_var (pv 3)) fa_nil)))) fa_nil)) (by rfl))
  (fss_cons (fs_if ((fw_or ((fw_and (ft_cmp of_isnot (fe_var (pv 6)) fe_non (by rfl)) (fw_and1 (ft_cmp of_lt (fe_var (pv 6)) (fe_var (pv 5)) (by rfl))))).pt (fw_or1 ((fw_and (ft_cmp of_isnot (fe_var (pv 7)) fe_non (by rfl)) (fw_and1 (ft_cmp of_lt (fe_var (pv 7)) (fe_op of_sub fe_int (fe_var (pv 5))) (by rfl))))).pt))).pt
  (fss_one (fs_ret fe_bl))
  fss_nil)
  (fss_one (fs_ret fe_non))))))))
theorem ok_difference_by : FnOk P w K mg base CX0 2 T.a_difference_by T.d_difference_by ["known", "told"] (absF ⟨K, cls⟩ 2 f_difference_by) :=
  @fn0 ⟨K, cls⟩ P w mg base "difference_by" "difference_by" s_difference_by T.a_difference_by T.d_difference_by names_difference_by ["known", "told"] 1 b_difference_by T.F_difference_by sc_difference_by fun cdv A outer s H E hr => ((fss_cons (fs_asg (fe_var (pv 1)) (fg_tup rfl (fgs_cons (fg_name (pg_name (i := 4) sc_difference_by.nd rfl (by first | exact .inl rfl | exact .inr rfl))) (fgs_cons (fg_name (pg_name (i := 5) sc_difference_by.nd rfl (by first | exact .inl rfl | exact .inr rfl))) (fgs_cons (fg_name (pg_name (i := 6) sc_difference_by.nd rfl (by first | exact .inl rfl | exact .inr rfl))) (fgs_cons (fg_name (pg_name (i := 7) sc_difference_by.nd rfl (by first | exact .inl rfl | exact .inr rfl))) fgs_nil))))))
  (fss_cons (fs_asg (fe_call (ok_bound_of T) (hr.mono (by decide)) (by rfl) T.g_bound_of T.F_bound_of.kp T.b_bound_of (fa_cons (fe_var (pv 0)) (fa_cons (fe_var (pv 5)) (fa_cons (fe_var (pv 6)) fa_nil)))) (fg_name (pg_name (i := 2) sc_difference_by.nd rfl (by first | exact .inl rfl | exact .inr rfl))))
  (fss_cons (fs_if ((fw_and (ft_cmp of_isnot (fe_var (pv 2)) fe_non (by rfl)) (fw_and1 (ft_cmp of_le (fe_var (pv 2)) (fe_var (pv 7)) (by rfl))))).pt
  (fss_one (fs_ret fe_bl))
  fss_nil)
  (fss_cons (fs_asg (fe_call (ok_bound_of T) (hr.mono (by decide)) (by rfl) T.g_bound_of T.F_bound_of.kp T.b_bound_of (fa_cons (fe_var (pv 0)) (fa_cons (fe_var (pv 6)) (fa_cons (fe_var (pv 5)) fa_nil)))) (fg_name (pg_name (i := 3) sc_difference_by.nd rfl (by first | exact .inl rfl | exact .inr rfl))))
  (fss_one (fs_ret (fe_if ((fw_and (ft_cmp of_isnot (fe_var (pv 3)) fe_non (by rfl)) (fw_and1 (ft_cmp of_le (fe_var (pv 3)) (fe_op of_sub (fe_op of_sub fe_int (fe_var (pv 7))) fe_int) (by rfl))))).pt fe_bl fe_non))))))))
theorem ok_settled_by : FnOk P w K mg base CX0 5 T.a_settled_by T.d_settled_by ["known", "told"] (absF ⟨K, cls⟩ 2 f_settled_by) :=
  @fn0 ⟨K, cls⟩ P w mg base "settled_by" "settled_by" s_settled_by T.a_settled_by T.d_settled_by names_settled_by ["known", "told"] 4 b_settled_by T.F_settled_by sc_settled_by fun cdv A outer s H E hr => ((fss_cons (fs_if (ft_cmp (of_eq hr.units) (fe_ix (fe_var (pv 1)) fe_int) fe_str (by rfl))
  (fss_one (fs_ret (fe_call (ok_difference_by T) (hr.mono (by decide)) (by rfl) T.g_difference_by T.F_difference_by.kp T.b_difference_by (fa_cons (fe_var (pv 0)) (fa_cons (fe_var (pv 1)) fa_nil)))))
  fss_nil)
  (fss_cons (fs_asg (fe_call (ok_sameness_by T) (hr.mono (by decide)) (by rfl) T.g_sameness_by T.F_sameness_by.kp T.b_sameness_by (fa_cons (fe_var (pv 0)) (fa_cons (fe_op (of_add (own := false)) (fe_tup (fa_cons fe_str fa_nil)) (fe_sl (own := false) (fe_var (pv 1)) (fo_some fe_int) fo_none)) fa_nil))) (fg_name (pg_name (i := 2) sc_settled_by.nd rfl (by first | exact .inl rfl | exact .inr rfl))))
  (fss_cons (fs_if ((fw_or (ft_cmp of_is (fe_var (pv 2)) fe_non (by rfl)) (fw_or1 (ft_cmp (of_eq hr.units) (fe_ix (fe_var (pv 1)) fe_int) fe_str (by rfl))))).pt
  (fss_one (fs_ret (fe_var (pv 2))))
  fss_nil)
  (fss_one (fs_ret (fe_not (fe_var (pv 2)))))))))
theorem ok__law_contrary : FnOk P w K mg base CX0 1 T.a__law_contrary T.d__law_contrary ["told"] (absF ⟨K, cls⟩ 1 f__law_contrary) :=
  @fn0 ⟨K, cls⟩ P w mg base "_law_contrary" "_law_contrary" s__law_contrary T.a__law_contrary T.d__law_contrary names__law_contrary ["told"] 0 b__law_contrary T.F__law_contrary sc__law_contrary fun cdv A outer s H E hr => ((fss_cons (fs_if (ft_cmp (of_eq hr.units) (fe_ix (fe_var (pv 0)) fe_int) fe_str (by rfl))
  (fss_one (fs_ret (fe_tup (fa_cons fe_str (fa_cons (fe_ix (fe_var (pv 0)) fe_int) (fa_cons (fe_ix (fe_var (pv 0)) fe_int) (fa_cons (fe_op of_sub (fe_neg (fe_ix (fe_var (pv 0)) fe_int)) fe_int) fa_nil)))))))
  fss_nil)
  (fss_cons (fs_if (ft_cmp (of_eq hr.units) (fe_ix (fe_var (pv 0)) fe_int) fe_str (by rfl))
  (fss_one (fs_ret (fe_tup (fa_cons fe_str (fa_cons (fe_ix (fe_var (pv 0)) fe_int) (fa_cons (fe_ix (fe_var (pv 0)) fe_int) (fa_cons (fe_ix (fe_var (pv 0)) fe_int) fa_nil)))))))
  fss_nil)
  (fss_one (fs_ret (fe_tup (fa_cons fe_str (fa_cons (fe_ix (fe_var (pv 0)) fe_int) (fa_cons (fe_ix (fe_var (pv 0)) fe_int) (fa_cons (fe_ix (fe_var (pv 0)) fe_int) fa_nil))))))))))
theorem ok__law_asked : FnOk P w K mg base CX0 6 T.a__law_asked T.d__law_asked ["known", "told"] (absF ⟨K, cls⟩ 2 f__law_asked) :=
  @fn0 ⟨K, cls⟩ P w mg base "_law_asked" "_law_asked" s__law_asked T.a__law_asked T.d__law_asked names__law_asked ["known", "told"] 5 b__law_asked T.F__law_asked sc__law_asked fun cdv A outer s H E hr => ((fss_cons (fs_asg (fe_call (ok__law_settled T) (hr.mono (by decide)) (by rfl) T.g__law_settled T.F__law_settled.kp T.b__law_settled (fa_cons (fe_var (pv 0)) (fa_cons (fe_var (pv 1)) fa_nil))) (fg_name (pg_name (i := 2) sc__law_asked.nd rfl (by first | exact .inl rfl | exact .inr rfl))))
  (fss_cons (fs_asg (fe_callTy (cf_list (own := true)) (by rfl) T.z_list PyProof.Rows.boot_list (fa_cons (fe_var (pv 0)) fa_nil)) (fg_name (pg_name (i := 3) sc__law_asked.nd rfl (by first | exact .inl rfl | exact .inr rfl))))
  (fss_cons (fs_expr (fe_mt0 PySem.F.plainAttrs_list PySem.F.slot_list_reverse PySem.F.type_list_reverse mf_reverse (fe_var (pv 3))))
  (fss_cons (fs_asg (fe_callTy (cf_list (own := true)) (by rfl) T.z_list PyProof.Rows.boot_list (fa_cons (fe_var (pv 0)) fa_nil)) (fg_name (pg_name (i := 4) sc__law_asked.nd rfl (by first | exact .inl rfl | exact .inr rfl))))
  (fss_cons (fs_for PassesOwn.never rfl (fi_rng1 (by rfl) T.z_range (fa_cons fe_int fa_nil)) (fg_name (pg_name (i := 5) sc__law_asked.nd rfl (by first | exact .inl rfl | exact .inr rfl)))
  (fss_cons (fs_if ((fw_or (ft_not (ft_tru (fe_call (ok__law_same_answer T) (hr.mono (by decide)) (by rfl) T.g__law_same_answer T.F__law_same_answer.kp T.b__law_same_answer (fa_cons (fe_call (ok_settled_by T) (hr.mono (by decide)) (by rfl) T.g_settled_by T.F_settled_by.kp T.b_settled_by (fa_cons (fe_var (pv 4)) (fa_cons (fe_var (pv 1)) fa_nil))) (fa_cons (fe_var (pv 2)) fa_nil))))) (fw_or1 (ft_cmp (of_ne hr.units) (fe_var (pv 4)) (fe_var (pv 0)) (by rfl))))).pt
  (fss_one (fs_ret fe_bl))
  fss_nil)
  (fss_cons (fs_expr (fe_mt PySem.F.plainAttrs_list PySem.F.slot_list_append PySem.F.type_list_append mf_append (fe_var (pv 4)) (fa_cons (fe_var (pv 1)) fa_nil)))
  (fss_cons (fs_if ((fw_and (ft_cmp of_is (fe_var (pv 2)) fe_non (by rfl)) (fw_and1 (ft_not (ft_tru (fe_call (ok__law_same_answer T) (hr.mono (by decide)) (by rfl) T.g__law_same_answer T.F__law_same_answer.kp T.b__law_same_answer (fa_cons (fe_call (ok_settled_by T) (hr.mono (by decide)) (by rfl) T.g_settled_by T.F_settled_by.kp T.b_settled_by (fa_cons (fe_lst (own := false) fa_nil) (fa_cons (fe_var (pv 1)) fa_nil))) (fa_cons fe_non fa_nil)))))))).pt
  (fss_one (fs_ret fe_bl))
  fss_nil)
  (fss_one (fs_expr (fe_mt0 PySem.F.plainAttrs_list PySem.F.slot_list_pop PySem.F.type_list_pop mf_pop (fe_var (pv 4)))))))))
  (fss_cons (fs_if (ft_not (ft_tru (fe_call (ok__law_same_answer T) (hr.mono (by decide)) (by rfl) T.g__law_same_answer T.F__law_same_answer.kp T.b__law_same_answer (fa_cons (fe_call (ok_settled_by T) (hr.mono (by decide)) (by rfl) T.g_settled_by T.F_settled_by.kp T.b_settled_by (fa_cons (fe_var (pv 3)) (fa_cons (fe_var (pv 1)) fa_nil))) (fa_cons (fe_var (pv 2)) fa_nil)))))
  (fss_one (fs_ret fe_bl))
  fss_nil)
  (fss_cons (fs_asg (fe_call (ok_contrary T) (hr.mono (by decide)) (by rfl) T.g_contrary T.F_contrary.kp T.b_contrary (fa_cons (fe_var (pv 1)) fa_nil)) (fg_name (pg_name (i := 6) sc__law_asked.nd rfl (by first | exact .inl rfl | exact .inr rfl))))
  (fss_cons (fs_if ((fw_or (ft_not (ft_tru (fe_callB cf_isa (by rfl) T.z_isinstance PyProof.Rows.boot_isinstance (fa_cons (fe_var (pv 6)) (fa_cons (fe_ty (by rfl) T.z_tuple PyProof.Rows.boot_tuple) fa_nil))))) (fw_or1 (ft_cmp (of_ne hr.units) (fe_var (pv 6)) (fe_call (ok__law_contrary T) (hr.mono (by decide)) (by rfl) T.g__law_contrary T.F__law_contrary.kp T.b__law_contrary (fa_cons (fe_var (pv 1)) fa_nil)) (by rfl))))).pt
  (fss_one (fs_ret fe_bl))
  fss_nil)
  (fss_cons (fs_if (ft_cmp of_isnot (fe_var (pv 2)) fe_non (by rfl))
  (fss_one (fs_asg (fe_not (fe_var (pv 2))) (fg_name (pg_name (i := 2) sc__law_asked.nd rfl (by first | exact .inl rfl | exact .inr rfl)))))
  fss_nil)
  (fss_one (fs_ret (fe_and (fe_call (ok__law_same_answer T) (hr.mono (by decide)) (by rfl) T.g__law_same_answer T.F__law_same_answer.kp T.b__law_same_answer (fa_cons (fe_call (ok_settled_by T) (hr.mono (by decide)) (by rfl) T.g_settled_by T.F_settled_by.kp T.b_settled_by (fa_cons (fe_var (pv 3)) (fa_cons (fe_var (pv 6)) fa_nil))) (fa_cons (fe_var (pv 2)) fa_nil))) (fe_one (fe_call (ok__law_same_answer T) (hr.mono (by decide)) (by rfl) T.g__law_same_answer T.F__law_same_answer.kp T.b__law_same_answer (fa_cons (fe_call (ok_settled_by T) (hr.mono (by decide)) (by rfl) T.g_settled_by T.F_settled_by.kp T.b_settled_by (fa_cons (fe_var (pv 4)) (fa_cons (fe_var (pv 6)) fa_nil))) (fa_cons (fe_var (pv 2)) fa_nil)))))))))))))))))
theorem ok_law : FnOk P w K mg base CX0 7 T.a_law T.d_law ["script"] (absF ⟨K, cls⟩ 1 f_law) :=
  @fn0 ⟨K, cls⟩ P w mg base "law" "law" s_law T.a_law T.d_law names_law ["script"] 6 b_law T.F_law sc_law fun cdv A outer s H E hr => ((fss_cons (fs_asg (fe_call (ok__law_deck T) (hr.mono (by decide)) (by rfl) T.g__law_deck T.F__law_deck.kp T.b__law_deck (fa_cons (fe_var (pv 0)) fa_nil)) (fg_name (pg_name (i := 1) sc_law.nd rfl (by first | exact .inl rfl | exact .inr rfl))))
  (fss_cons (fs_asg (fe_lst (own := true) fa_nil) (fg_name (pg_name (i := 2) sc_law.nd rfl (by first | exact .inl rfl | exact .inr rfl))))
  (fss_cons (fs_asg (fe_lst (own := true) fa_nil) (fg_name (pg_name (i := 3) sc_law.nd rfl (by first | exact .inl rfl | exact .inr rfl))))
  (fss_cons (fs_for PassesOwn.never rfl (fi_rng1 (by rfl) T.z_range (fa_cons (fe_op (of_add (own := false)) fe_int (fe_call (ok__law_draw T) (hr.mono (by decide)) (by rfl) T.g__law_draw T.F__law_draw.kp T.b__law_draw (fa_cons (fe_var (pv 1)) (fa_cons fe_int fa_nil)))) fa_nil)) (fg_name (pg_name (i := 4) sc_law.nd rfl (by first | exact .inl rfl | exact .inr rfl)))
  (fss_cons (fs_asg (fe_call (ok__law_base T 3) (hr.mono (by decide)) (by rfl) T.g__law_base T.F__law_base.kp T.b__law_base (fa_cons (fe_var (pv 1)) (fa_cons fe_int fa_nil))) (fg_name (pg_name (i := 7) sc_law.nd rfl (by first | exact .inl rfl | exact .inr rfl))))
  (fss_cons (fs_if (ft_cmp (of_in hr.units) (fe_var (pv 7)) (fe_var (pv 2)) (by rfl))
  (fss_one (fs_asg (fe_tup (fa_cons fe_str (fa_cons (fe_op (of_add (own := false)) fe_int (fe_var (pv 4))) fa_nil))) (fg_name (pg_name (i := 7) sc_law.nd rfl (by first | exact .inl rfl | exact .inr rfl)))))
  fss_nil)
  (fss_cons (fs_expr (fe_mt PySem.F.plainAttrs_list PySem.F.slot_list_append PySem.F.type_list_append mf_append (fe_var (pv 2)) (fa_cons (fe_var (pv 7)) fa_nil)))
  (fss_cons (fs_expr (fe_mt PySem.F.plainAttrs_list PySem.F.slot_list_append PySem.F.type_list_append mf_append (fe_var (pv 3)) (fa_cons (fe_op of_sub (fe_call (ok__law_draw T) (hr.mono (by decide)) (by rfl) T.g__law_draw T.F__law_draw.kp T.b__law_draw (fa_cons (fe_var (pv 1)) (fa_cons fe_int fa_nil))) fe_int) fa_nil)))
  (fss_one (fs_if (ft_cmp (of_eq hr.units) (fe_call (ok__law_draw T) (hr.mono (by decide)) (by rfl) T.g__law_draw T.F__law_draw.kp T.b__law_draw (fa_cons (fe_var (pv 1)) (fa_cons fe_int fa_nil))) fe_int (by rfl))
  (fss_one (fs_set (fe_call (ok__law_draw T) (hr.mono (by decide)) (by rfl) T.g__law_draw T.F__law_draw.kp T.b__law_draw (fa_cons (fe_var (pv 1)) (fa_cons (fe_op of_pow fe_int fe_int) fa_nil))) (fe_var (pv 3)) (fe_var (pv 4))))
  fss_nil)))))))
  (fss_cons (fs_asg (fe_frz (fe_call (ok__law_known T) (hr.mono (by decide)) (by rfl) T.g__law_known T.F__law_known.kp T.b__law_known (fa_cons (fe_var (pv 1)) (fa_cons (fe_var (pv 2)) (fa_cons (fe_var (pv 3)) fa_nil))))) (fg_name (pg_name (i := 5) sc_law.nd rfl (by first | exact .inl rfl | exact .inr rfl))))
  (fss_cons (fs_for PassesOwn.never rfl (fi_rng1 (by rfl) T.z_range (fa_cons fe_int fa_nil)) (fg_name (pg_name (i := 6) sc_law.nd rfl (by first | exact .inl rfl | exact .inr rfl)))
  (fss_cons (fs_asg (fe_call (ok__law_draw T) (hr.mono (by decide)) (by rfl) T.g__law_draw T.F__law_draw.kp T.b__law_draw (fa_cons (fe_var (pv 1)) (fa_cons (fe_callB cf_len (by rfl) T.z_len PySem.boot_len (fa_cons (fe_var (pv 2)) fa_nil)) fa_nil))) (fg_name (pg_name (i := 8) sc_law.nd rfl (by first | exact .inl rfl | exact .inr rfl))))
  (fss_cons (fs_asg (fe_op of_mod (fe_callTy cf_int (by rfl) T.z_int PyProof.Rows.boot_int (fa_cons (fe_op (of_add (own := false)) (fe_op (of_add (own := false)) (fe_var (pv 8)) fe_int) (fe_call (ok__law_draw T) (hr.mono (by decide)) (by rfl) T.g__law_draw T.F__law_draw.kp T.b__law_draw (fa_cons (fe_var (pv 1)) (fa_cons (fe_op of_sub (fe_callB cf_len (by rfl) T.z_len PySem.boot_len (fa_cons (fe_var (pv 2)) fa_nil)) fe_int) fa_nil)))) fa_nil)) (fe_callB cf_len (by rfl) T.z_len PySem.boot_len (fa_cons (fe_var (pv 2)) fa_nil))) (fg_name (pg_name (i := 9) sc_law.nd rfl (by first | exact .inl rfl | exact .inr rfl))))
  (fss_cons (fs_asg (fe_op of_sub (fe_op (of_add (own := false)) (fe_op of_sub (fe_ix (fe_var (pv 3)) (fe_var (pv 8))) (fe_ix (fe_var (pv 3)) (fe_var (pv 9)))) (fe_call (ok__law_draw T) (hr.mono (by decide)) (by rfl) T.g__law_draw T.F__law_draw.kp T.b__law_draw (fa_cons (fe_var (pv 1)) (fa_cons fe_int fa_nil)))) fe_int) (fg_name (pg_name (i := 10) sc_law.nd rfl (by first | exact .inl rfl | exact .inr rfl))))
  (fss_cons (fs_asg (fe_ix (fe_lst (own := false) (fa_cons fe_str (fa_cons fe_str (fa_cons fe_str fa_nil)))) (fe_call (ok__law_draw T) (hr.mono (by decide)) (by rfl) T.g__law_draw T.F__law_draw.kp T.b__law_draw (fa_cons (fe_var (pv 1)) (fa_cons fe_int fa_nil)))) (fg_name (pg_name (i := 11) sc_law.nd rfl (by first | exact .inl rfl | exact .inr rfl))))
  (fss_one (fs_if (ft_not (ft_tru (fe_call (ok__law_asked T) (hr.mono (by decide)) (by rfl) T.g__law_asked T.F__law_asked.kp T.b__law_asked (fa_cons (fe_var (pv 5)) (fa_cons (fe_tup (fa_cons (fe_var (pv 11)) (fa_cons (fe_ix (fe_var (pv 2)) (fe_var (pv 8))) (fa_cons (fe_ix (fe_var (pv 2)) (fe_var (pv 9))) (fa_cons (fe_var (pv 10)) fa_nil))))) fa_nil)))))
  (fss_one (fs_ret fe_bl))
  fss_nil)))))))
  (fss_one (fs_ret fe_bl)))))))))
end
theorem all_mk {K : PySem.W.Frag} {h : Heap} {mg : Str → Option Value} {fa : Addr} (X : K.In h) (G : h.Ns mainGlobals mg) (hfa : mg "law" = some (.ref fa))
    {f0 : Addr} {od0 an0 : Option Addr} {sl0 : Array (Option Value)} {oc0 kV0 dc0 pm0 cd0 ct0 : Value}
    (a0 : PySem.W.nsIn K mainGlobals "_law_deck" = some (some (.ref f0))) (l0 : K.lookup f0 = some ⟨oc0, od0, .func (PySem.W.fnOf "_law_deck" "_law_deck" (defArgs s__law_deck) (defBody s__law_deck) (defScope s__law_deck) .none kV0 dc0 pm0 an0 cd0 ct0), sl0⟩) (c0 : PySem.W.codeIn K cd0 "_law_deck" = true) (k0 : PySem.W.keepIn K (.ref f0) = true)
    {f1 : Addr} {od1 an1 : Option Addr} {sl1 : Array (Option Value)} {oc1 kV1 dc1 pm1 cd1 ct1 : Value}
    (a1 : PySem.W.nsIn K mainGlobals "_law_draw" = some (some (.ref f1))) (l1 : K.lookup f1 = some ⟨oc1, od1, .func (PySem.W.fnOf "_law_draw" "_law_draw" (defArgs s__law_draw) (defBody s__law_draw) (defScope s__law_draw) .none kV1 dc1 pm1 an1 cd1 ct1), sl1⟩) (c1 : PySem.W.codeIn K cd1 "_law_draw" = true) (k1 : PySem.W.keepIn K (.ref f1) = true)
    {f2 : Addr} {od2 an2 : Option Addr} {sl2 : Array (Option Value)} {oc2 kV2 dc2 pm2 cd2 ct2 : Value}
    (a2 : PySem.W.nsIn K mainGlobals "_law_known" = some (some (.ref f2))) (l2 : K.lookup f2 = some ⟨oc2, od2, .func (PySem.W.fnOf "_law_known" "_law_known" (defArgs s__law_known) (defBody s__law_known) (defScope s__law_known) .none kV2 dc2 pm2 an2 cd2 ct2), sl2⟩) (c2 : PySem.W.codeIn K cd2 "_law_known" = true) (k2 : PySem.W.keepIn K (.ref f2) = true)
    {f3 : Addr} {od3 an3 : Option Addr} {sl3 : Array (Option Value)} {oc3 kV3 dc3 pm3 cd3 ct3 : Value}
    (a3 : PySem.W.nsIn K mainGlobals "_law_base" = some (some (.ref f3))) (l3 : K.lookup f3 = some ⟨oc3, od3, .func (PySem.W.fnOf "_law_base" "_law_base" (defArgs s__law_base) (defBody s__law_base) (defScope s__law_base) .none kV3 dc3 pm3 an3 cd3 ct3), sl3⟩) (c3 : PySem.W.codeIn K cd3 "_law_base" = true) (k3 : PySem.W.keepIn K (.ref f3) = true)
    {f4 : Addr} {od4 an4 : Option Addr} {sl4 : Array (Option Value)} {oc4 kV4 dc4 pm4 cd4 ct4 : Value}
    (a4 : PySem.W.nsIn K mainGlobals "_law_settled" = some (some (.ref f4))) (l4 : K.lookup f4 = some ⟨oc4, od4, .func (PySem.W.fnOf "_law_settled" "_law_settled" (defArgs s__law_settled) (defBody s__law_settled) (defScope s__law_settled) .none kV4 dc4 pm4 an4 cd4 ct4), sl4⟩) (c4 : PySem.W.codeIn K cd4 "_law_settled" = true) (k4 : PySem.W.keepIn K (.ref f4) = true)
    {f5 : Addr} {od5 an5 : Option Addr} {sl5 : Array (Option Value)} {oc5 kV5 dc5 pm5 cd5 ct5 : Value}
    (a5 : PySem.W.nsIn K mainGlobals "contrary" = some (some (.ref f5))) (l5 : K.lookup f5 = some ⟨oc5, od5, .func (PySem.W.fnOf "contrary" "contrary" (defArgs s_contrary) (defBody s_contrary) (defScope s_contrary) .none kV5 dc5 pm5 an5 cd5 ct5), sl5⟩) (c5 : PySem.W.codeIn K cd5 "contrary" = true) (k5 : PySem.W.keepIn K (.ref f5) = true)
    {f6 : Addr} {od6 an6 : Option Addr} {sl6 : Array (Option Value)} {oc6 kV6 dc6 pm6 cd6 ct6 : Value}
    (a6 : PySem.W.nsIn K mainGlobals "_law_same_answer" = some (some (.ref f6))) (l6 : K.lookup f6 = some ⟨oc6, od6, .func (PySem.W.fnOf "_law_same_answer" "_law_same_answer" (defArgs s__law_same_answer) (defBody s__law_same_answer) (defScope s__law_same_answer) .none kV6 dc6 pm6 an6 cd6 ct6), sl6⟩) (c6 : PySem.W.codeIn K cd6 "_law_same_answer" = true) (k6 : PySem.W.keepIn K (.ref f6) = true)
    {f7 : Addr} {od7 an7 : Option Addr} {sl7 : Array (Option Value)} {oc7 kV7 dc7 pm7 cd7 ct7 : Value}
    (a7 : PySem.W.nsIn K mainGlobals "turned" = some (some (.ref f7))) (l7 : K.lookup f7 = some ⟨oc7, od7, .func (PySem.W.fnOf "turned" "turned" (defArgs s_turned) (defBody s_turned) (defScope s_turned) .none kV7 dc7 pm7 an7 cd7 ct7), sl7⟩) (c7 : PySem.W.codeIn K cd7 "turned" = true) (k7 : PySem.W.keepIn K (.ref f7) = true)
    {f8 : Addr} {od8 an8 : Option Addr} {sl8 : Array (Option Value)} {oc8 kV8 dc8 pm8 cd8 ct8 : Value}
    (a8 : PySem.W.nsIn K mainGlobals "like" = some (some (.ref f8))) (l8 : K.lookup f8 = some ⟨oc8, od8, .func (PySem.W.fnOf "like" "like" (defArgs s_like) (defBody s_like) (defScope s_like) .none kV8 dc8 pm8 an8 cd8 ct8), sl8⟩) (c8 : PySem.W.codeIn K cd8 "like" = true) (k8 : PySem.W.keepIn K (.ref f8) = true)
    {f9 : Addr} {od9 an9 : Option Addr} {sl9 : Array (Option Value)} {oc9 kV9 dc9 pm9 cd9 ct9 : Value}
    (a9 : PySem.W.nsIn K mainGlobals "known_like" = some (some (.ref f9))) (l9 : K.lookup f9 = some ⟨oc9, od9, .func (PySem.W.fnOf "known_like" "known_like" (defArgs s_known_like) (defBody s_known_like) (defScope s_known_like) .none kV9 dc9 pm9 an9 cd9 ct9), sl9⟩) (c9 : PySem.W.codeIn K cd9 "known_like" = true) (k9 : PySem.W.keepIn K (.ref f9) = true)
    {f10 : Addr} {od10 an10 : Option Addr} {sl10 : Array (Option Value)} {oc10 kV10 dc10 pm10 cd10 ct10 : Value}
    (a10 : PySem.W.nsIn K mainGlobals "bound_of" = some (some (.ref f10))) (l10 : K.lookup f10 = some ⟨oc10, od10, .func (PySem.W.fnOf "bound_of" "bound_of" (defArgs s_bound_of) (defBody s_bound_of) (defScope s_bound_of) .none kV10 dc10 pm10 an10 cd10 ct10), sl10⟩) (c10 : PySem.W.codeIn K cd10 "bound_of" = true) (k10 : PySem.W.keepIn K (.ref f10) = true)
    {f11 : Addr} {od11 an11 : Option Addr} {sl11 : Array (Option Value)} {oc11 kV11 dc11 pm11 cd11 ct11 : Value}
    (a11 : PySem.W.nsIn K mainGlobals "sameness_by" = some (some (.ref f11))) (l11 : K.lookup f11 = some ⟨oc11, od11, .func (PySem.W.fnOf "sameness_by" "sameness_by" (defArgs s_sameness_by) (defBody s_sameness_by) (defScope s_sameness_by) .none kV11 dc11 pm11 an11 cd11 ct11), sl11⟩) (c11 : PySem.W.codeIn K cd11 "sameness_by" = true) (k11 : PySem.W.keepIn K (.ref f11) = true)
    {f12 : Addr} {od12 an12 : Option Addr} {sl12 : Array (Option Value)} {oc12 kV12 dc12 pm12 cd12 ct12 : Value}
    (a12 : PySem.W.nsIn K mainGlobals "difference_by" = some (some (.ref f12))) (l12 : K.lookup f12 = some ⟨oc12, od12, .func (PySem.W.fnOf "difference_by" "difference_by" (defArgs s_difference_by) (defBody s_difference_by) (defScope s_difference_by) .none kV12 dc12 pm12 an12 cd12 ct12), sl12⟩) (c12 : PySem.W.codeIn K cd12 "difference_by" = true) (k12 : PySem.W.keepIn K (.ref f12) = true)
    {f13 : Addr} {od13 an13 : Option Addr} {sl13 : Array (Option Value)} {oc13 kV13 dc13 pm13 cd13 ct13 : Value}
    (a13 : PySem.W.nsIn K mainGlobals "settled_by" = some (some (.ref f13))) (l13 : K.lookup f13 = some ⟨oc13, od13, .func (PySem.W.fnOf "settled_by" "settled_by" (defArgs s_settled_by) (defBody s_settled_by) (defScope s_settled_by) .none kV13 dc13 pm13 an13 cd13 ct13), sl13⟩) (c13 : PySem.W.codeIn K cd13 "settled_by" = true) (k13 : PySem.W.keepIn K (.ref f13) = true)
    {f14 : Addr} {od14 an14 : Option Addr} {sl14 : Array (Option Value)} {oc14 kV14 dc14 pm14 cd14 ct14 : Value}
    (a14 : PySem.W.nsIn K mainGlobals "_law_contrary" = some (some (.ref f14))) (l14 : K.lookup f14 = some ⟨oc14, od14, .func (PySem.W.fnOf "_law_contrary" "_law_contrary" (defArgs s__law_contrary) (defBody s__law_contrary) (defScope s__law_contrary) .none kV14 dc14 pm14 an14 cd14 ct14), sl14⟩) (c14 : PySem.W.codeIn K cd14 "_law_contrary" = true) (k14 : PySem.W.keepIn K (.ref f14) = true)
    {f15 : Addr} {od15 an15 : Option Addr} {sl15 : Array (Option Value)} {oc15 kV15 dc15 pm15 cd15 ct15 : Value}
    (a15 : PySem.W.nsIn K mainGlobals "_law_asked" = some (some (.ref f15))) (l15 : K.lookup f15 = some ⟨oc15, od15, .func (PySem.W.fnOf "_law_asked" "_law_asked" (defArgs s__law_asked) (defBody s__law_asked) (defScope s__law_asked) .none kV15 dc15 pm15 an15 cd15 ct15), sl15⟩) (c15 : PySem.W.codeIn K cd15 "_law_asked" = true) (k15 : PySem.W.keepIn K (.ref f15) = true)
    {f16 : Addr} {od16 an16 : Option Addr} {sl16 : Array (Option Value)} {oc16 kV16 dc16 pm16 cd16 ct16 : Value}
    (a16 : PySem.W.nsIn K mainGlobals "law" = some (some (.ref f16))) (l16 : K.lookup f16 = some ⟨oc16, od16, .func (PySem.W.fnOf "law" "law" (defArgs s_law) (defBody s_law) (defScope s_law) .none kV16 dc16 pm16 an16 cd16 ct16), sl16⟩) (c16 : PySem.W.codeIn K cd16 "law" = true) (k16 : PySem.W.keepIn K (.ref f16) = true)
    (z0 : PySem.W.nsIn K mainGlobals "any" = some none)
    (z1 : PySem.W.nsIn K mainGlobals "int" = some none)
    (z2 : PySem.W.nsIn K mainGlobals "isinstance" = some none)
    (z3 : PySem.W.nsIn K mainGlobals "len" = some none)
    (z4 : PySem.W.nsIn K mainGlobals "list" = some none)
    (z5 : PySem.W.nsIn K mainGlobals "min" = some none)
    (z6 : PySem.W.nsIn K mainGlobals "range" = some none)
    (z7 : PySem.W.nsIn K mainGlobals "tuple" = some none)
    : ∃ (T : Tx K mg), T.a_law = fa := by
  have F0 := fun_mk (st := s__law_deck) l0 c0 k0
  have b0 := F0.binds (ps := ["script"]) fun _ _ _ _ _ _ us hl => match us, hl with | [_], _ => rfl
  have F1 := fun_mk (st := s__law_draw) l1 c1 k1
  have b1 := F1.binds (ps := ["deck", "many"]) fun _ _ _ _ _ _ us hl => match us, hl with | [_, _], _ => rfl
  have F2 := fun_mk (st := s__law_known) l2 c2 k2
  have b2 := F2.binds (ps := ["deck", "bases", "worth"]) fun _ _ _ _ _ _ us hl => match us, hl with | [_, _, _], _ => rfl
  have F3 := fun_mk (st := s__law_base) l3 c3 k3
  have b3 := F3.binds (ps := ["deck", "depth"]) fun _ _ _ _ _ _ us hl => match us, hl with | [_, _], _ => rfl
  have F4 := fun_mk (st := s__law_settled) l4 c4 k4
  have b4 := F4.binds (ps := ["known", "told"]) fun _ _ _ _ _ _ us hl => match us, hl with | [_, _], _ => rfl
  have F5 := fun_mk (st := s_contrary) l5 c5 k5
  have b5 := F5.binds (ps := ["told"]) fun _ _ _ _ _ _ us hl => match us, hl with | [_], _ => rfl
  have F6 := fun_mk (st := s__law_same_answer) l6 c6 k6
  have b6 := F6.binds (ps := ["actual", "due"]) fun _ _ _ _ _ _ us hl => match us, hl with | [_, _], _ => rfl
  have F7 := fun_mk (st := s_turned) l7 c7 k7
  have b7 := F7.binds (ps := ["told"]) fun _ _ _ _ _ _ us hl => match us, hl with | [_], _ => rfl
  have F8 := fun_mk (st := s_like) l8 c8 k8
  have b8 := F8.binds (ps := ["one", "other"]) fun _ _ _ _ _ _ us hl => match us, hl with | [_, _], _ => rfl
  have F9 := fun_mk (st := s_known_like) l9 c9 k9
  have b9 := F9.binds (ps := ["known", "told"]) fun _ _ _ _ _ _ us hl => match us, hl with | [_, _], _ => rfl
  have F10 := fun_mk (st := s_bound_of) l10 c10 k10
  have b10 := F10.binds (ps := ["known", "u", "v"]) fun _ _ _ _ _ _ us hl => match us, hl with | [_, _, _], _ => rfl
  have F11 := fun_mk (st := s_sameness_by) l11 c11 k11
  have b11 := F11.binds (ps := ["known", "told"]) fun _ _ _ _ _ _ us hl => match us, hl with | [_, _], _ => rfl
  have F12 := fun_mk (st := s_difference_by) l12 c12 k12
  have b12 := F12.binds (ps := ["known", "told"]) fun _ _ _ _ _ _ us hl => match us, hl with | [_, _], _ => rfl
  have F13 := fun_mk (st := s_settled_by) l13 c13 k13
  have b13 := F13.binds (ps := ["known", "told"]) fun _ _ _ _ _ _ us hl => match us, hl with | [_, _], _ => rfl
  have F14 := fun_mk (st := s__law_contrary) l14 c14 k14
  have b14 := F14.binds (ps := ["told"]) fun _ _ _ _ _ _ us hl => match us, hl with | [_], _ => rfl
  have F15 := fun_mk (st := s__law_asked) l15 c15 k15
  have b15 := F15.binds (ps := ["known", "told"]) fun _ _ _ _ _ _ us hl => match us, hl with | [_, _], _ => rfl
  have F16 := fun_mk (st := s_law) l16 c16 k16
  have b16 := F16.binds (ps := ["script"]) fun _ _ _ _ _ _ us hl => match us, hl with | [_], _ => rfl
  have e := hfa.symm.trans (PySem.W.mg_of X G a16)
  cases e
  exact ⟨{ a__law_deck := f0, d__law_deck := _, F__law_deck := F0, g__law_deck := PySem.W.mg_of X G a0, b__law_deck := b0, a__law_draw := f1, d__law_draw := _, F__law_draw := F1, g__law_draw := PySem.W.mg_of X G a1, b__law_draw := b1, a__law_known := f2, d__law_known := _, F__law_known := F2, g__law_known := PySem.W.mg_of X G a2, b__law_known := b2, a__law_base := f3, d__law_base := _, F__law_base := F3, g__law_base := PySem.W.mg_of X G a3, b__law_base := b3, a__law_settled := f4, d__law_settled := _, F__law_settled := F4, g__law_settled := PySem.W.mg_of X G a4, b__law_settled := b4, a_contrary := f5, d_contrary := _, F_contrary := F5, g_contrary := PySem.W.mg_of X G a5, b_contrary := b5, a__law_same_answer := f6, d__law_same_answer := _, F__law_same_answer := F6, g__law_same_answer := PySem.W.mg_of X G a6, b__law_same_answer := b6, a_turned := f7, d_turned := _, F_turned := F7, g_turned := PySem.W.mg_of X G a7, b_turned := b7, a_like := f8, d_like := _, F_like := F8, g_like := PySem.W.mg_of X G a8, b_like := b8, a_known_like := f9, d_known_like := _, F_known_like := F9, g_known_like := PySem.W.mg_of X G a9, b_known_like := b9, a_bound_of := f10, d_bound_of := _, F_bound_of := F10, g_bound_of := PySem.W.mg_of X G a10, b_bound_of := b10, a_sameness_by := f11, d_sameness_by := _, F_sameness_by := F11, g_sameness_by := PySem.W.mg_of X G a11, b_sameness_by := b11, a_difference_by := f12, d_difference_by := _, F_difference_by := F12, g_difference_by := PySem.W.mg_of X G a12, b_difference_by := b12, a_settled_by := f13, d_settled_by := _, F_settled_by := F13, g_settled_by := PySem.W.mg_of X G a13, b_settled_by := b13, a__law_contrary := f14, d__law_contrary := _, F__law_contrary := F14, g__law_contrary := PySem.W.mg_of X G a14, b__law_contrary := b14, a__law_asked := f15, d__law_asked := _, F__law_asked := F15, g__law_asked := PySem.W.mg_of X G a15, b__law_asked := b15, a_law := fa, d_law := _, F_law := F16, g_law := PySem.W.mg_of X G a16, b_law := b16, z_any := PySem.W.mg_none_of X G z0, z_int := PySem.W.mg_none_of X G z1, z_isinstance := PySem.W.mg_none_of X G z2, z_len := PySem.W.mg_none_of X G z3, z_list := PySem.W.mg_none_of X G z4, z_min := PySem.W.mg_none_of X G z5, z_range := PySem.W.mg_none_of X G z6, z_tuple := PySem.W.mg_none_of X G z7 }, rfl⟩
end Lw

set_option Elab.async false
set_option linter.all false
set_option maxRecDepth 100000
namespace Lw
open PySem PySem.Spec PyProof.Rows L2 Fn
/-! ### the deck -/
/-- the deck at n -/
def Deck (G : GH) (n : Nat) : Prop := ∃ (cells : List Int) (a b t : Int), cells.length ≤ 63 ∧ 0 ≤ a ∧ G.at_ n = some (.lst [.lst (cells.map .int), .int a, .int b, .int t])
/-- the same but for the deck -/
def Drawn (n : Nat) (G G' : GH) : Prop := G'.n = G.n ∧ (∀ m, m ≠ n → G'.at_ m = G.at_ m) ∧ Deck G' n
theorem Drawn.refl {n : Nat} {G : GH} (h : Deck G n) : Drawn n G G := ⟨rfl, fun _ _ => rfl, h⟩
theorem Drawn.trans {n : Nat} {G G1 G2 : GH} (a : Drawn n G G1) (b : Drawn n G1 G2) : Drawn n G G2 := ⟨b.1.trans a.1, fun m h => (b.2.1 m h).trans (a.2.1 m h), b.2.2⟩
theorem Drawn.deck {n : Nat} {G G1 : GH} (a : Drawn n G G1) : Deck G1 n := a.2.2
theorem atI_ints {cells : List Int} {i : Int} (h0 : 0 ≤ i) (h : i < cells.length) : ∃ c : Int, L2.atI (cells.map W.int) i = some (.int c) :=
  ⟨cells[i.toNat]'(by omega), atI_at h0 (by rw [List.getElem?_map, List.getElem?_eq_getElem (by omega)]; rfl)⟩
theorem draw_tail {G : GH} {n : Nat} {m : Int} (h0 : 0 < m) (h1 : m.natAbs.log2 < 9000) {cells : List Int} {a b t c : Int} (hl : cells.length ≤ 63) (ha : 0 ≤ a) (hG : G.at_ n = some (.lst [.lst (cells.map .int), .int a, .int b, .int t])) :
    ∃ (d : Int) (G' : GH), (t__law_draw_6 [some (W.ref n), some (W.int m), some (W.int c), none, none, none, none] G).fin.calm = .ok (.int d) G' ∧ 0 ≤ d ∧ d < m ∧ Drawn n G G' := by
  unfold t__law_draw_6 t__law_draw_5
  by_cases hc : a + 1 ≤ cells.length ∧ (1000000000000000000 : Int) ≤ c
  · simp [hG, hc.1, hc.2, fMod_i h0, fDiv_i h0 h1]
    exact ⟨_, _, ⟨rfl, rfl⟩, Int.emod_nonneg _ (by omega), Int.emod_lt_of_pos _ h0, rfl, fun k hk => set_ne hk, cells, a + 1, c / m, t, hl, by omega, by simp⟩
  · have hk : ∀ ρ : En, ∀ G1 : GH, ∃ (d : Int) (G' : GH), (t__law_draw_4 [some (W.ref n), some (W.int m), some (W.int c), none, none, none, none] (G.set n (.lst [.lst (cells.map .int), .int (a + 1), .int b, .int t]))).fin.calm = .ok (.int d) G' ∧ 0 ≤ d ∧ d < m ∧ Drawn n G G' := fun ρ G1 => by
      unfold t__law_draw_4
      simp [fMul_i (i := 7919) (j := t) (.inl (by decide)), fMod_i (j := 2147483647) (by decide)]
      have f0 := Int.emod_nonneg (c + 7919 * t) (show (2147483647 : Int) ≠ 0 by decide)
      have f1 := Int.emod_lt_of_pos (c + 7919 * t) (show (0 : Int) < 2147483647 by decide)
      generalize (c + 7919 * t) % 2147483647 = x at f0 f1 ⊢
      unfold t__law_draw_3
      simp [fMul_i (i := x) (j := x) (.inl (by omega)), fMul_i (i := 48271) (j := x) (.inl (by decide)), fMod_i (j := 2147483629) (by decide)]
      have g0 := Int.emod_nonneg (x * x + 48271 * x + t) (show (2147483629 : Int) ≠ 0 by decide)
      have g1 := Int.emod_lt_of_pos (x * x + 48271 * x + t) (show (0 : Int) < 2147483629 by decide)
      generalize (x * x + 48271 * x + t) % 2147483629 = y at g0 g1 ⊢
      unfold t__law_draw_2
      simp [fDiv_i (i := y) (j := 65536) (by decide) (by decide), fMul_i (i := y / 65536) (j := 40503) (.inr (by decide)), fMul_i (i := y) (j := 31) (.inr (by decide)), fMod_i (j := 1073741789) (by decide)]
      generalize (y / 65536 * 40503 + y * 31 + x) % 1073741789 = z
      unfold t__law_draw_1
      simp [fDiv_i (i := z) (j := 7) (by decide) (by decide), fMod_i h0]
      exact ⟨_, _, ⟨rfl, rfl⟩, Int.emod_nonneg _ (by omega), Int.emod_lt_of_pos _ h0, rfl, fun k hk => set_ne hk, cells, a + 1, b, t, hl, by omega, by simp⟩
    by_cases hc1 : a + 1 ≤ cells.length
    · simp [hG, hc1, show ¬ (1000000000000000000 : Int) ≤ c from fun z => hc ⟨hc1, z⟩]
      exact hk [] G
    · simp [hG, hc1]
      exact hk [] G
theorem draw_ok {G : GH} {n : Nat} {m : Int} (h : Deck G n) (h0 : 0 < m) (h1 : m.natAbs.log2 < 9000) : ∃ (d : Int) (G' : GH), f__law_draw [.ref n, .int m] G = .ok (.int d) G' ∧ 0 ≤ d ∧ d < m ∧ Drawn n G G' := by
  obtain ⟨cells, a, b, t, hl, ha, hG⟩ := h
  rw [e__law_draw]
  unfold b__law_draw t__law_draw_10 t__law_draw_9
  by_cases hb : m ≤ b
  · simp [hG, hb, fMod_i h0, fDiv_i h0 h1]
    exact ⟨_, _, ⟨rfl, rfl⟩, Int.emod_nonneg _ (by omega), Int.emod_lt_of_pos _ h0, rfl, fun k hk => set_ne hk, cells, a, b / m, t + 1, hl, ha, by simp⟩
  · have step : ∀ G1 : GH, Drawn n (G.set n (.lst [.lst (cells.map .int), .int a, .int b, .int (t + 1)])) G1 → Drawn n G G1 := fun G1 ⟨z1, z2, z3⟩ => ⟨z1, fun k hk => (z2 k hk).trans (set_ne hk), z3⟩
    unfold t__law_draw_8 t__law_draw_7
    cases cells with
    | nil =>
      simp [hG, hb]
      obtain ⟨d, G', e, d0, d1, dr⟩ := draw_tail (c := 0) h0 h1 hl ha (set_same (G := G) (n := n) (o := .lst [.lst (([] : List Int).map .int), .int a, .int b, .int (t + 1)]))
      exact ⟨d, G', e, d0, d1, step G' dr⟩
    | cons c0 cs =>
      have hlen : (0 : Int) < ((c0 :: cs).length : Int) := by simp
      obtain ⟨c, ec⟩ := atI_ints (cells := c0 :: cs) (i := a % ((c0 :: cs).length : Int)) (Int.emod_nonneg _ (by omega)) (Int.emod_lt_of_pos _ hlen)
      have em := fMod_i (G := G.set n (.lst [.lst ((c0 :: cs).map .int), .int a, .int b, .int (t + 1)])) (i := a) hlen
      obtain ⟨d, G', e, d0, d1, dr⟩ := draw_tail (c := c) h0 h1 hl ha (set_same (G := G) (n := n) (o := .lst [.lst ((c0 :: cs).map .int), .int a, .int b, .int (t + 1)]))
      simp at em ec e
      simp [hG, hb, em, ec, e]
      exact ⟨d, G', ⟨rfl, rfl⟩, d0, d1, step G' (by simpa using dr)⟩

theorem log2_of {m : Int} (h : m.natAbs < 2 ^ 200 := by decide) : m.natAbs.log2 < 9000 := by
  by_cases h0 : m.natAbs = 0
  · rw [h0]; decide
  · have := (Nat.log2_lt h0).mpr h
    omega
/-- a draw, for a written number -/
theorem drawn {G : GH} {n : Nat} (m : Int) (h : Deck G n) (h0 : 0 < m := by decide) (h1 : m.natAbs < 2 ^ 200 := by decide) : ∃ (d : Int) (G' : GH), f__law_draw [.ref n, .int m] G = .ok (.int d) G' ∧ 0 ≤ d ∧ d < m ∧ Drawn n G G' := draw_ok h h0 (log2_of h1)
theorem base_ok {n : Nat} : ∀ (d dep : Nat) (G : GH), dep < d → Deck G n → ∃ (w : W) (G' : GH), f__law_base d [.ref n, .int dep] G = .ok w G' ∧ w.nb = true ∧ w.dep ≤ 2 * dep + 1 ∧ (∀ j : Int, 10 ≤ j → w ≠ .tup [.str "given", .int j]) ∧ Drawn n G G'
  | 0, _, _, h, _ => absurd h (by omega)
  | d + 1, dep, G, hd, hG => by
    rw [e__law_base]
    unfold b__law_base t__law_base_6 t__law_base_5
    obtain ⟨p, G1, e1, p0, p1, d1⟩ := drawn 7 hG
    simp [e1]
    by_cases hp0 : p = 0
    · subst hp0
      simp
      exact ⟨_, _, ⟨rfl, rfl⟩, rfl, Nat.zero_le _, fun _ _ => by simp, d1⟩
    simp [hp0]
    unfold t__law_base_4
    simp
    by_cases hp1 : p = 1
    · subst hp1
      obtain ⟨a, G2, e2, a0, a1, d2⟩ := drawn 3 d1.deck
      simp [e2, lens]
      exact ⟨_, _, ⟨rfl, rfl⟩, rfl, by simp [W.dep, W.deps], fun _ _ => by simp, d1.trans d2⟩
    simp [hp1]
    unfold t__law_base_3
    simp
    by_cases hp2 : p = 2
    · subst hp2
      obtain ⟨a, G2, e2, a0, a1, d2⟩ := drawn 2 d1.deck
      obtain ⟨b, G3, e3, b0, b1, d3⟩ := drawn 3 d2.deck
      have ha : a = 0 ∨ a = 1 := by omega
      rcases ha with rfl | rfl <;> simp [e2, e3, lens] <;> exact ⟨_, _, ⟨rfl, rfl⟩, rfl, by simp [W.dep, W.deps], (fun _ _ => by simp <;> omega), (d1.trans d2).trans d3⟩
    simp [hp2]
    unfold t__law_base_2
    simp
    have spot : ∃ (w : W) (G' : GH), ((((f__law_draw [W.ref n, W.int 2] G1).calm.bind fun w G1 =>
                                  ((f__law_draw [W.ref n, W.int 4] G1).calm.bind fun w G1 => R.ok [w] G1).bind
                                    fun ws G2 => R.ok (w :: ws) G2).bind
                              fun ws G2 => R.ok (W.str (Str.ofString "spot") :: ws) G2).bind
                          fun ws G1 => if ws.length ≤ sizeLine then R.ok (W.tup ws) G1 else R.no) = .ok w G' ∧ w.nb = true ∧ w.dep ≤ 2 * dep + 1 ∧ (∀ j : Int, 10 ≤ j → w ≠ .tup [.str "given", .int j]) ∧ Drawn n G G' := by
      obtain ⟨a, G2, e2, a0, a1, d2⟩ := drawn 2 d1.deck
      obtain ⟨b, G3, e3, b0, b1, d3⟩ := drawn 4 d2.deck
      simp [e2, e3, lens]
      exact ⟨_, _, ⟨rfl, rfl⟩, rfl, by simp [W.dep, W.deps], (fun _ _ => by simp <;> omega), (d1.trans d2).trans d3⟩
    obtain ⟨ws, Gs, es, s1, s2, s4, s3⟩ := spot
    by_cases hp5 : p < 5
    · simp [hp5, es]
      exact ⟨_, _, ⟨rfl, rfl⟩, s1, s2, s4, s3⟩
    cases dep with
    | zero =>
      simp [hp5, es]
      exact ⟨_, _, ⟨rfl, rfl⟩, s1, s2, s4, s3⟩
    | succ dep =>
      unfold t__law_base_1
      obtain ⟨a, G2, e2, a0, a1, d2⟩ := drawn 3 d1.deck
      obtain ⟨b, G3, e3, b0, b1, d3⟩ := drawn 3 d2.deck
      obtain ⟨u, G4, e4, u1, u2, _, d4⟩ := base_ok d dep G3 (by omega) d3.deck
      obtain ⟨z, G5, e5, z0, z1, d5⟩ := drawn 7 d4.deck
      have ed : (dep : Int) + 1 - 1 = (dep : Int) := by omega
      have ne : ¬ (dep : Int) + 1 = 0 := by omega
      simp [hp5, e2, e3, e4, e5, lens, ed, ne]
      exact ⟨_, _, ⟨rfl, rfl⟩, by simp [W.nb, W.nbs, u1], by simp [W.dep, W.deps]; omega, fun _ _ => by simp, (((d1.trans d2).trans d3).trans d4).trans d5⟩
theorem deck_ok {ns : List Int} {G : GH} (h : ns.length ≤ 63) : f__law_deck [.lst (ns.map W.int)] G = .ok (.ref G.n) (G.push (.lst [.lst (ns.map .int), .int 0, .int 0, .int 0])) := by
  rw [e__law_deck]
  unfold b__law_deck t__law_deck_1
  have e := lc_map (t := tgName 1) (te := gCall cInt (gCons (gVar 1) gNil)) (ρw := [some (W.lst (ns.map W.int)), none]) (G := G) id (ns.map W.int) (fun w m => by
    obtain ⟨i, _, rfl⟩ := List.mem_map.mp m
    exact ⟨_, rfl, by simp⟩)
  have ec : cutW (ns.map W.int) none (some 63) = ns.map W.int := cut_all (by simpa using h)
  have l1 : ns.length ≤ sizeLine := len_le _ (by omega)
  have ew : wipeW [some (W.lst (ns.map W.int)), none] [1] = [some (W.lst (ns.map W.int)), none] := rfl
  rw [List.map_id] at e
  simp [ec, ew, e, l1, lens]
theorem deck_at {ns : List Int} {G : GH} (h : ns.length ≤ 63) : Deck (G.push (.lst [.lst (ns.map .int), .int 0, .int 0, .int 0])) G.n := ⟨ns, 0, 0, 0, h, Int.le_refl _, push_same⟩
end Lw

set_option Elab.async false
set_option linter.all false
set_option maxRecDepth 100000
namespace Lw
open PySem PySem.Spec PyProof.Rows L2 Fn
/-! ### what is known -/
structure Ft where
  k : Str
  u : W
  v : W
  n : Int
def Ft.w (f : Ft) : W := .tup [.str f.k, f.u, f.v, .int f.n]
structure Ft.Ok (f : Ft) : Prop where
  k : f.k = "diff" ∨ f.k = "same" ∨ f.k = "other"
  u : f.u.nb = true
  v : f.v.nb = true
  du : f.u.dep ≤ 10
  dv : f.v.dep ≤ 10
  ne : f.u ≠ f.v
def sat (h : W → Int) (f : Ft) : Bool := if f.k = "diff" then decide (h f.u - h f.v ≤ f.n) else if f.k = "same" then decide (h f.u - h f.v = f.n) else !decide (h f.u - h f.v = f.n)
def Settles (f t : Ft) : Prop :=
  if t.k = "diff" then f.k = "diff" ∧ ((f.u = t.u ∧ f.v = t.v ∧ f.n ≤ t.n) ∨ (f.u = t.v ∧ f.v = t.u ∧ f.n ≤ -t.n - 1))
  else if f.k = "diff" then (f.u = t.u ∧ f.v = t.v ∧ f.n < t.n) ∨ (f.u = t.v ∧ f.v = t.u ∧ f.n < -t.n)
  else (f.u = t.u ∧ f.v = t.v ∧ f.n = t.n) ∨ (f.u = t.v ∧ f.v = t.u ∧ f.n = -t.n)
/-- what is answered -/
def Ans (h : W → Int) (fs : List Ft) (t : Ft) (w : W) : Prop := ((∃ f ∈ fs, Settles f t) ∧ w = .bl (sat h t)) ∨ ((∀ f ∈ fs, ¬ Settles f t) ∧ w = .non)
theorem Ans.eq {h : W → Int} {fs : List Ft} {t : Ft} {w z : W} (a : Ans h fs t w) (b : Ans h fs t z) : w = z := by
  rcases a with ⟨⟨f, m, s⟩, rfl⟩ | ⟨n, rfl⟩ <;> rcases b with ⟨⟨g, m', s'⟩, rfl⟩ | ⟨n', rfl⟩
  · rfl
  · exact absurd s (n' f m)
  · exact absurd s' (n g m')
  · rfl
theorem Ans.of_mem {h : W → Int} {fs gs : List Ft} {t : Ft} {w : W} (e : ∀ f, f ∈ fs ↔ f ∈ gs) (a : Ans h fs t w) : Ans h gs t w := by
  unfold Ans at a ⊢
  simpa only [e] using a
section
variable {ρ : En} {G : GH}
theorem gAnd_bb {a b : FE} {x y : Bool} (ha : a ρ G = .ok (.bl x) G) (hb : b ρ G = .ok (.bl y) G) : gAnd a b ρ G = .ok (.bl (x && y)) G := by
  rw [gAnd_ev, ha]; cases x <;> simp [hb]
theorem gOr_bb {a b : FE} {x y : Bool} (ha : a ρ G = .ok (.bl x) G) (hb : b ρ G = .ok (.bl y) G) : gOr a b ρ G = .ok (.bl (x || y)) G := by
  rw [gOr_ev, ha]; cases x <;> simp [hb]
variable {h : W → Int} {f t : Ft} {kn x5 x6 x7 : Option W}
theorem turn_ok (hf : f.Ok) (ht : t.Ok) (sf : sat h f = true) :
    (Settles f t ∧ t__law_settled_5 [kn, some t.w, some t.u, some t.v, some (.int t.n), some f.w, x6, x7] G = .rt (.bl (sat h t)) G) ∨
    (¬ Settles f t ∧ ∃ y6 y7, t__law_settled_5 [kn, some t.w, some t.u, some t.v, some (.int t.n), some f.w, x6, x7] G = .nx [kn, some t.w, some t.u, some t.v, some (.int t.n), some f.w, y6, y7] G) := by
  obtain ⟨k, u, v, n⟩ := f
  obtain ⟨k', u', v', n'⟩ := t
  obtain ⟨hk, hu, hv, du, dv, ne⟩ := hf
  obtain ⟨hk', hu', hv', du', dv', ne'⟩ := ht
  simp only at hk hu hv du dv ne hk' hu' hv' du' dv' ne'
  have q1 := fEq_nb (G := G) hu hu' (by omega)
  have q2 := fEq_nb (G := G) hv hv' (by omega)
  have q3 := fEq_nb (G := G) hu hv' (by omega)
  have q4 := fEq_nb (G := G) hv hu' (by omega)
  have i1 := eqW_iff u u' hu hu'
  have i2 := eqW_iff v v' hv hv'
  have i3 := eqW_iff u v' hu hv'
  have i4 := eqW_iff v u' hv hu'
  have ea : (eqW u u' && eqW v v') = true ↔ u = u' ∧ v = v' := by rw [Bool.and_eq_true, i1, i2]
  have eb : (eqW u v' && eqW v u') = true ↔ u = v' ∧ v = u' := by rw [Bool.and_eq_true, i3, i4]
  have nab : ¬ ((u = u' ∧ v = v') ∧ (u = v' ∧ v = u')) := fun ⟨⟨a, b⟩, c, d⟩ => ne' (a.symm.trans c)
  have s6 : gAnd (gOp fEq (gOp fIx (gVar 5) (gC (.int 1))) (gVar 2)) (gOp fEq (gOp fIx (gVar 5) (gC (.int 2))) (gVar 3)) [kn, some (Ft.mk k' u' v' n').w, some u', some v', some (.int n'), some (Ft.mk k u v n).w, x6, x7] G = .ok (.bl (eqW u u' && eqW v v')) G := gAnd_bb (by simp [Ft.w, q1]) (by simp [Ft.w, q2])
  have s7 : ∀ x6, gAnd (gOp fEq (gOp fIx (gVar 5) (gC (.int 1))) (gVar 3)) (gOp fEq (gOp fIx (gVar 5) (gC (.int 2))) (gVar 2)) [kn, some (Ft.mk k' u' v' n').w, some u', some v', some (.int n'), some (Ft.mk k u v n).w, x6, x7] G = .ok (.bl (eqW u v' && eqW v u')) G := fun x6 => gAnd_bb (by simp [Ft.w, q3]) (by simp [Ft.w, q4])
  unfold t__law_settled_5 t__law_settled_4
  rw [gSeq_ev, gAsg_ev, s6]
  simp only [thn_ok, tgName_ev, List.set, seq_nx]
  rw [gSeq_ev, gAsg_ev, s7]
  simp only [thn_ok, tgName_ev, List.set, seq_nx]
  clear s6 s7
  generalize (eqW u u' && eqW v v') = A at ea ⊢
  generalize (eqW u v' && eqW v u') = B at eb ⊢
  unfold t__law_settled_3 t__law_settled_2 t__law_settled_1
  unfold sat at sf ⊢
  unfold Settles
  cases A <;> cases B
  · have h1 : ¬ (u = u' ∧ v = v') := fun z => by simpa using ea.mpr z
    have h2 : ¬ (u = v' ∧ v = u') := fun z => by simpa using eb.mpr z
    refine .inr ⟨?_, ?_⟩
    · simp only
      intro z
      split at z
      · rcases z.2 with z | z
        · exact h1 ⟨z.1, z.2.1⟩
        · exact h2 ⟨z.1, z.2.1⟩
      · split at z
        · rcases z with z | z
          · exact h1 ⟨z.1, z.2.1⟩
          · exact h2 ⟨z.1, z.2.1⟩
        · rcases z with z | z
          · exact h1 ⟨z.1, z.2.1⟩
          · exact h2 ⟨z.1, z.2.1⟩
    · rcases hk with rfl | rfl | rfl <;> rcases hk' with rfl | rfl | rfl <;> simp [Ft.w]
  · obtain ⟨rfl, rfl⟩ := eb.mp rfl
    rcases hk with rfl | rfl | rfl <;> rcases hk' with rfl | rfl | rfl <;> simp [Ft.w, ne, Ne.symm ne] at sf ⊢ <;> (first | done | (split <;> first | omega | (simp <;> omega)) | omega | skip)
  · obtain ⟨rfl, rfl⟩ := ea.mp rfl
    rcases hk with rfl | rfl | rfl <;> rcases hk' with rfl | rfl | rfl <;> simp [Ft.w, ne, Ne.symm ne] at sf ⊢ <;> (first | done | (split <;> first | omega | (simp <;> omega)) | omega | skip)
  · exact absurd ⟨ea.mp rfl, eb.mp rfl⟩ nab
theorem loop_ok {t : Ft} (ht : t.Ok) : ∀ fs : List Ft, (∀ f ∈ fs, f.Ok ∧ sat h f = true) → ∀ x5 x6 x7,
    ((∃ f ∈ fs, Settles f t) ∧ forF (tgName 5) t__law_settled_5 (fs.map Ft.w) [kn, some t.w, some t.u, some t.v, some (.int t.n), x5, x6, x7] G = .rt (.bl (sat h t)) G) ∨
    ((∀ f ∈ fs, ¬ Settles f t) ∧ ∃ y5 y6 y7, forF (tgName 5) t__law_settled_5 (fs.map Ft.w) [kn, some t.w, some t.u, some t.v, some (.int t.n), x5, x6, x7] G = .nx [kn, some t.w, some t.u, some t.v, some (.int t.n), y5, y6, y7] G)
  | [], _, x5, x6, x7 => .inr ⟨fun f m => absurd m (by simp), _, _, _, rfl⟩
  | f :: fs, hf, x5, x6, x7 => by
    obtain ⟨h1, h2⟩ := hf f List.mem_cons_self
    rcases turn_ok (G := G) (kn := kn) (x6 := x6) (x7 := x7) h1 ht h2 with ⟨s1, e1⟩ | ⟨s1, y6, y7, e1⟩
    · exact .inl ⟨⟨f, List.mem_cons_self, s1⟩, by rw [List.map_cons]; exact forF_rt rfl e1⟩
    · rw [List.map_cons, forF_nx (w := f.w) (ρ := [kn, some t.w, some t.u, some t.v, some (.int t.n), x5, x6, x7]) (G := G) rfl e1]
      rcases loop_ok ht fs (fun g m => hf g (List.mem_cons_of_mem _ m)) (some f.w) y6 y7 with ⟨⟨g, m, s2⟩, e2⟩ | ⟨s2, e2⟩
      · exact .inl ⟨⟨g, List.mem_cons_of_mem _ m, s2⟩, e2⟩
      · exact .inr ⟨fun g m => by
          rcases List.mem_cons.mp m with rfl | m
          · exact s1
          · exact s2 g m, e2⟩
theorem settled_ok {t : Ft} {fs : List Ft} (ht : t.Ok) (hf : ∀ f ∈ fs, f.Ok ∧ sat h f = true) : ∃ w, f__law_settled [.lst (fs.map Ft.w), t.w] G = .ok w G ∧ Ans h fs t w := by
  rw [e__law_settled]
  unfold b__law_settled t__law_settled_10 t__law_settled_9 t__law_settled_8 t__law_settled_7 t__law_settled_6
  rcases loop_ok (G := G) (kn := some (.lst (fs.map Ft.w))) ht fs hf none none none with ⟨s1, e1⟩ | ⟨s1, y5, y6, y7, e1⟩
  · unfold Ft.w at e1 ⊢
    exact ⟨_, by simp [e1], .inl ⟨s1, rfl⟩⟩
  · unfold Ft.w at e1 ⊢
    exact ⟨_, by simp [e1], .inr ⟨s1, rfl⟩⟩
/-! ### the program's -/
theorem Ft.w_nb {f : Ft} (hf : f.Ok) : f.w.nb = true := by simp [Ft.w, W.nb, W.nbs, hf.u, hf.v]
theorem Ft.w_dep {f : Ft} (hf : f.Ok) : f.w.dep ≤ 20 := by
  have := hf.du
  have := hf.dv
  simp [Ft.w, W.dep, W.deps]; omega
theorem Ft.w_inj {f g : Ft} (e : f.w = g.w) : f = g := by
  obtain ⟨k, u, v, n⟩ := f
  obtain ⟨k', u', v', n'⟩ := g
  simpa [Ft.w] using e
def Ft.turn (t : Ft) : Ft := if t.k = "diff" then t else ⟨t.k, t.v, t.u, 0 - t.n⟩
theorem Ft.turn_ok {t : Ft} (ht : t.Ok) : t.turn.Ok := by
  unfold Ft.turn
  split
  · exact ht
  · exact ⟨ht.k, ht.v, ht.u, ht.dv, ht.du, ht.ne.symm⟩
def Ft.con (t : Ft) : Ft := if t.k = "diff" then ⟨"diff", t.v, t.u, 0 - t.n - 1⟩ else if t.k = "same" then ⟨"other", t.u, t.v, t.n⟩ else ⟨"same", t.u, t.v, t.n⟩
theorem Ft.con_ok {t : Ft} (ht : t.Ok) : t.con.Ok := by
  unfold Ft.con
  split
  · exact ⟨.inl rfl, ht.v, ht.u, ht.dv, ht.du, ht.ne.symm⟩
  · split
    · exact ⟨.inr (.inr rfl), ht.u, ht.v, ht.du, ht.dv, ht.ne⟩
    · exact ⟨.inr (.inl rfl), ht.u, ht.v, ht.du, ht.dv, ht.ne⟩
theorem turned_ok {t : Ft} : f_turned [t.w] G = .ok t.turn.w G := by
  rw [e_turned]
  unfold b_turned t_turned_2 t_turned_1 Ft.turn
  by_cases hk : t.k = "diff"
  · simp [Ft.w, hk, lens]
  · simp [Ft.w, hk, lens]
theorem con_eq {t : Ft} : f_contrary [t.w] G = .ok t.con.w G := by
  rw [e_contrary]
  unfold b_contrary t_contrary_3 t_contrary_2 t_contrary_1 Ft.con
  by_cases hk : t.k = "diff"
  · simp [Ft.w, hk, lens]
  · by_cases hs : t.k = "same"
    · simp [Ft.w, hs, lens]
    · simp [Ft.w, hk, hs, lens]
theorem lcon_eq {t : Ft} (ht : t.Ok) : f__law_contrary [t.w] G = .ok t.con.w G := by
  rw [e__law_contrary]
  unfold b__law_contrary t__law_contrary_3 t__law_contrary_2 t__law_contrary_1 Ft.con
  by_cases hk : t.k = "diff"
  · simp [Ft.w, hk, lens]
  · by_cases hs : t.k = "same"
    · simp [Ft.w, hs, lens]
    · simp [Ft.w, hk, hs, lens]
theorem like_ok {f t : Ft} (hf : f.Ok) (ht : t.Ok) : f_like [f.w, t.w] G = .ok (.bl (eqW f.w t.w || eqW f.w t.turn.w)) G := by
  rw [e_like]
  unfold b_like t_like_1
  have d1 := Ft.w_dep hf
  have e1 := fEq_nb (G := G) (Ft.w_nb hf) (Ft.w_nb ht) (by omega)
  have e2 := fEq_nb (G := G) (Ft.w_nb hf) (Ft.w_nb (Ft.turn_ok ht)) (by omega)
  have s : gOr (gOp fEq (gVar 0) (gVar 1)) (gOp fEq (gVar 0) (gCall (cFn 1 f_turned) (gCons (gVar 1) gNil))) [some f.w, some t.w] G = .ok (.bl (eqW f.w t.w || eqW f.w t.turn.w)) G := gOr_bb (by simp [e1]) (by simp [turned_ok, e2])
  rw [gRet_ev, s]
  rfl
theorem lc_fm {α : Type} {t : FG1} {tt : FT} {te : FE} {ρw : En} (g : α → W) (p : α → Bool) (f : α → W) : ∀ xs : List α, (∀ x ∈ xs, ∃ ρ1, t (g x) ρw G = some (ρ1, G) ∧ tt ρ1 G = .ok (p x) G ∧ (p x = true → te ρ1 G = .ok (f x) G)) → lcF t tt te ρw (xs.map g) G = .ok ((xs.filter p).map f) G ∧ ∀ w ∈ xs.map g, ∃ o, lcTurn t tt te ρw w G = .ok o G
  | [], _ => ⟨rfl, fun w m => absurd m (by simp)⟩
  | x :: xs, st => by
    obtain ⟨ρ1, e1, e2, e3⟩ := st x List.mem_cons_self
    obtain ⟨ih, il⟩ := lc_fm g p f xs fun y m => st y (List.mem_cons_of_mem _ m)
    have h1 : lcTurn t tt te ρw (g x) G = .ok (if p x then some (f x) else none) G := by
      unfold lcTurn
      cases h : p x with
      | true => simp [e1, e2, e3 h, h]
      | false => simp [e1, e2, h]
    refine ⟨?_, fun w m => ?_⟩
    · rw [List.map_cons, lcF, h1]
      cases h : p x <;> simp [ih, addO, h]
    · rcases List.mem_cons.mp m with rfl | m
      · exact ⟨_, h1⟩
      · exact il w m
theorem lc_at {α : Type} {w : W} {t : FG1} {tt : FT} {te : FE} {ρw : En} {β : Type} {F : List W → GH → R β} (g : α → W) (p : α → Bool) (f : α → W) {xs : List α} (h : Sqs G w (xs.map g)) (st : ∀ x ∈ xs, ∃ ρ1, t (g x) ρw G = some (ρ1, G) ∧ tt ρ1 G = .ok (p x) G ∧ (p x = true → te ρ1 G = .ok (f x) G)) :
    ((asSeq w G).bind fun k G1 => (lcW t tt te ρw k G1).calm.bind F) = F ((xs.filter p).map f) G := by
  obtain ⟨e, l⟩ := lc_fm g p f xs st
  rw [lc_over h l, e]
  rfl
theorem known_like_ok {t : Ft} {fs : List Ft} {kw : W} (hk : Sqs G kw (fs.map Ft.w)) (ht : t.Ok) (hf : ∀ f ∈ fs, f.Ok) (hl : fs.length ≤ 1000) : ∃ b, f_known_like [kw, t.w] G = .ok (.bl b) G ∧ (b = true ↔ t ∈ fs ∨ t.turn ∈ fs) := by
  refine ⟨(fs.map fun f => (eqW f.w t.w || eqW f.w t.turn.w)).any id, ?_, ?_⟩
  · rw [e_known_like]
    unfold b_known_like t_known_like_1
    have e := lc_at (G := G) (w := kw) (t := tgName 2) (tt := gYes) (te := gCall (cFn 2 f_like) (gCons (gVar 2) (gCons (gVar 1) gNil))) (ρw := [some kw, some t.w, none]) (F := fun r G2 => if r.length ≤ sizeLine then mkL false r G2 else .no) Ft.w (fun _ => true) (fun f => .bl (eqW f.w t.w || eqW f.w t.turn.w)) hk (fun f m => ⟨_, rfl, rfl, fun _ => by simp [like_ok (hf f m) ht]⟩)
    have ef : (fs.filter fun _ => true) = fs := List.filter_eq_self.mpr fun _ _ => rfl
    have em : fs.map (fun f => W.bl (eqW f.w t.w || eqW f.w t.turn.w)) = (fs.map fun f => (eqW f.w t.w || eqW f.w t.turn.w)).map W.bl := by rw [List.map_map]; rfl
    rw [ef, em] at e
    have l1 : fs.length ≤ sizeLine := len_le _ (by omega)
    simp only [gRet_ev, gCall_ev, gCons_ev, gNil_ev, gLc_ev, iSeq_ev, wipeW, List.set, gVar_ev (i := 0) (ρ := [some kw, some t.w, none]) (G := G) rfl, bind_ok, e]
    rw [if_pos (by simpa using l1)]
    simp only [mkL_false, bind_ok, cAny_lst, thn_ok, fin_rt, calm_ok]
  · simp only [List.any_map, List.any_eq_true]
    constructor
    · rintro ⟨f, m, h⟩
      simp only [Function.comp, id, Bool.or_eq_true] at h
      rcases h with h | h
      · exact .inl (Ft.w_inj ((eqW_iff _ _ (Ft.w_nb (hf f m)) (Ft.w_nb ht)).mp h) ▸ m)
      · exact .inr (Ft.w_inj ((eqW_iff _ _ (Ft.w_nb (hf f m)) (Ft.w_nb (Ft.turn_ok ht))).mp h) ▸ m)
    · rintro (m | m)
      · exact ⟨t, m, by simp [eqW_self (Ft.w_nb ht)]⟩
      · exact ⟨t.turn, m, by simp [eqW_self (Ft.w_nb (Ft.turn_ok ht))]⟩
def optW : Option Int → W
  | none => .non
  | some m => .int m
theorem bound_ok {u v : W} {fs : List Ft} {kw : W} (hk : Sqs G kw (fs.map Ft.w)) (hu : u.nb = true) (hv : v.nb = true) (du : u.dep ≤ 10) (dv : v.dep ≤ 10) (hf : ∀ f ∈ fs, f.Ok) (hl : fs.length ≤ 1000) :
    ∃ o, f_bound_of [kw, u, v] G = .ok (optW o) G ∧ ∀ k : Int, (∃ m, o = some m ∧ m ≤ k) ↔ ∃ f ∈ fs, f.k = "diff" ∧ f.u = u ∧ f.v = v ∧ f.n ≤ k := by
  have e := lc_at (G := G) (w := kw) (t := tgName 3) (tt := gTest (gOp fEq (gSl false (gVar 3) gNoPart (gPart (gC (.int 3)))) (gTup (gCons (gC (.str "diff")) (gCons (gVar 1) (gCons (gVar 2) gNil)))))) (te := gOp fIx (gVar 3) (gC (.int 3))) (ρw := [some kw, some u, some v, none]) (F := fun r G2 => if r.length ≤ sizeLine then mkL false r G2 else .no) Ft.w (fun f => eqW (.tup [.str f.k, f.u, f.v]) (.tup [.str "diff", u, v])) (fun f => .int f.n) hk (fun f m => by
    have c : cutW [W.str f.k, f.u, f.v, W.int f.n] none (some 3) = [W.str f.k, f.u, f.v] := cut_at (k := 3)
    have q := fEq_nb (G := G) (a := .tup [.str f.k, f.u, f.v]) (b := .tup [.str "diff", u, v]) (by simp [W.nb, W.nbs, (hf f m).u, (hf f m).v]) (by simp [W.nb, W.nbs, hu, hv]) (by simp [W.dep, W.deps]; omega)
    refine ⟨_, rfl, ?_, ?_⟩
    · simp [Ft.w, c, lens, q]
    · intro _; simp [Ft.w])
  have hm : ∀ f ∈ fs, (eqW (.tup [.str f.k, f.u, f.v]) (.tup [.str "diff", u, v]) = true ↔ f.k = "diff" ∧ f.u = u ∧ f.v = v) := fun f m => by
    rw [eqW_iff _ _ (by simp [W.nb, W.nbs, (hf f m).u, (hf f m).v]) (by simp [W.nb, W.nbs, hu, hv])]
    simp
  generalize hp : (fun f : Ft => eqW (.tup [.str f.k, f.u, f.v]) (.tup [.str "diff", u, v])) = p at e
  have hm : ∀ f ∈ fs, (p f = true ↔ f.k = "diff" ∧ f.u = u ∧ f.v = v) := fun f m => by rw [← hp]; exact hm f m
  have l1 : (fs.filter p).length ≤ sizeLine := len_le _ (Nat.le_trans (List.length_filter_le _ _) (by omega))
  have em : (fs.filter p).map (fun f => W.int f.n) = ((fs.filter p).map Ft.n).map W.int := by rw [List.map_map]; rfl
  rw [em] at e
  refine ⟨match (fs.filter p).map Ft.n with | [] => none | n :: ns => some (ns.foldl min n), ?_, fun k => ?_⟩
  · rw [e_bound_of]
    unfold b_bound_of t_bound_of_1
    simp only [gRet_ev, gCallK_ev, gCons_ev, gNil_ev, gLc_ev, iSeq_ev, wipeW, List.set, gVar_ev (i := 0) (ρ := [some kw, some u, some v, none]) (G := G) rfl, bind_ok, e]
    rw [if_pos (by simpa using l1)]
    simp only [mkL_false, bind_ok, gC_ev, cBest_lst, thn_ok, fin_rt, calm_ok]
    cases (fs.filter p).map Ft.n <;> rfl
  · have base : (∃ f ∈ fs, f.k = "diff" ∧ f.u = u ∧ f.v = v ∧ f.n ≤ k) ↔ ∃ n ∈ (fs.filter p).map Ft.n, n ≤ k := by
      constructor
      · rintro ⟨f, m, a, b, c, d⟩
        exact ⟨f.n, List.mem_map.mpr ⟨f, List.mem_filter.mpr ⟨m, (hm f m).mpr ⟨a, b, c⟩⟩, rfl⟩, d⟩
      · rintro ⟨n, m0, d⟩
        obtain ⟨f, m1, rfl⟩ := List.mem_map.mp m0
        obtain ⟨m, q⟩ := List.mem_filter.mp m1
        obtain ⟨a, b, c⟩ := (hm f m).mp q
        exact ⟨f, m, a, b, c, d⟩
    rw [base]
    cases (fs.filter p).map Ft.n with
    | nil => simp
    | cons n ns =>
      simp only [Option.some.injEq, exists_eq_left']
      rw [min_le]
      constructor
      · rintro (h | ⟨x, m, h⟩)
        · exact ⟨n, List.mem_cons_self, h⟩
        · exact ⟨x, List.mem_cons_of_mem _ m, h⟩
      · rintro ⟨x, m, h⟩
        rcases List.mem_cons.mp m with rfl | m
        · exact .inl h
        · exact .inr ⟨x, m, h⟩
end
end Lw

set_option Elab.async false
set_option linter.all false
set_option maxRecDepth 100000
namespace Lw
open PySem PySem.Spec PyProof.Rows L2 Fn
section
variable {G : GH} {h : W → Int} {t : Ft} {fs : List Ft} {kw : W}
theorem diff_ok (hk : Sqs G kw (fs.map Ft.w)) (ht : t.Ok) (hd : t.k = "diff") (hf : ∀ f ∈ fs, f.Ok ∧ sat h f = true) (hl : fs.length ≤ 1000) : ∃ w, f_difference_by [kw, t.w] G = .ok w G ∧ Ans h fs t w := by
  obtain ⟨o1, e1, b1⟩ := bound_ok hk ht.u ht.v ht.du ht.dv (fun f m => (hf f m).1) hl
  obtain ⟨o2, e2, b2⟩ := bound_ok hk ht.v ht.u ht.dv ht.du (fun f m => (hf f m).1) hl
  have st : ∀ f, Settles f t ↔ f.k = "diff" ∧ ((f.u = t.u ∧ f.v = t.v ∧ f.n ≤ t.n) ∨ (f.u = t.v ∧ f.v = t.u ∧ f.n ≤ -t.n - 1)) := fun f => by unfold Settles; rw [if_pos hd]
  rw [e_difference_by]
  unfold b_difference_by t_difference_by_5 t_difference_by_4 t_difference_by_3 t_difference_by_2 t_difference_by_1
  by_cases c1 : ∃ m, o1 = some m ∧ m ≤ t.n
  · obtain ⟨f, m, a, b, c, d⟩ := (b1 t.n).mp c1
    obtain ⟨x, rfl, hx⟩ := c1
    have sf := (hf f m).2
    have sv : sat h t = true := by
      unfold sat at sf ⊢
      rw [if_pos a] at sf
      rw [if_pos hd]
      rw [b, c] at sf
      simp only [decide_eq_true_eq] at sf ⊢
      omega
    refine ⟨.bl true, ?_, .inl ⟨⟨f, m, (st f).mpr ⟨a, .inl ⟨b, c, d⟩⟩⟩, by rw [sv]⟩⟩
    simp [Ft.w, e1, optW, isNon_int, hx]
  · have n1 : ∀ f ∈ fs, ¬ (f.k = "diff" ∧ f.u = t.u ∧ f.v = t.v ∧ f.n ≤ t.n) := fun f m z => c1 ((b1 t.n).mpr ⟨f, m, z⟩)
    by_cases c2 : ∃ m, o2 = some m ∧ m ≤ -t.n - 1
    · obtain ⟨f, m, a, b, c, d⟩ := (b2 _).mp c2
      obtain ⟨x, rfl, hx⟩ := c2
      have sf := (hf f m).2
      have sv : sat h t = false := by
        unfold sat at sf ⊢
        rw [if_pos a] at sf
        rw [if_pos hd]
        rw [b, c] at sf
        simp only [decide_eq_true_eq, decide_eq_false_iff_not] at sf ⊢
        omega
      refine ⟨.bl false, ?_, .inl ⟨⟨f, m, (st f).mpr ⟨a, .inr ⟨b, c, d⟩⟩⟩, by rw [sv]⟩⟩
      have hx' : x ≤ 0 - t.n - 1 := by omega
      cases o1 with
      | none => simp [Ft.w, e1, e2, optW, isNon_int, isNon_non, hx]
      | some y =>
        have hy : ¬ y ≤ t.n := fun z => c1 ⟨y, rfl, z⟩
        simp [Ft.w, e1, e2, optW, isNon_int, hy, hx]
    · have n2 : ∀ f ∈ fs, ¬ (f.k = "diff" ∧ f.u = t.v ∧ f.v = t.u ∧ f.n ≤ -t.n - 1) := fun f m z => c2 ((b2 _).mpr ⟨f, m, z⟩)
      refine ⟨.non, ?_, .inr ⟨fun f m z => ?_, rfl⟩⟩
      · cases o1 with
        | none =>
          cases o2 with
          | none => simp [Ft.w, e1, e2, optW, isNon_non]
          | some z =>
            have hz : ¬ z ≤ -t.n - 1 := fun q => c2 ⟨z, rfl, q⟩
            simp [Ft.w, e1, e2, optW, isNon_int, isNon_non, hz]
        | some y =>
          have hy : ¬ y ≤ t.n := fun z => c1 ⟨y, rfl, z⟩
          cases o2 with
          | none => simp [Ft.w, e1, e2, optW, isNon_non, isNon_int, hy]
          | some z =>
            have hz : ¬ z ≤ -t.n - 1 := fun q => c2 ⟨z, rfl, q⟩
            simp [Ft.w, e1, e2, optW, isNon_int, hy, hz]
      · obtain ⟨a, b | b⟩ := (st f).mp z
        · exact n1 f m ⟨a, b⟩
        · exact n2 f m ⟨a, b⟩
theorem same_ok (hk : Sqs G kw (fs.map Ft.w)) (ht : t.Ok) (hd : t.k = "same") (hf : ∀ f ∈ fs, f.Ok ∧ sat h f = true) (hl : fs.length ≤ 1000) : ∃ w, f_sameness_by [kw, t.w] G = .ok w G ∧ Ans h fs t w := by
  obtain ⟨o1, e1, b1⟩ := bound_ok hk ht.u ht.v ht.du ht.dv (fun f m => (hf f m).1) hl
  obtain ⟨o2, e2, b2⟩ := bound_ok hk ht.v ht.u ht.dv ht.du (fun f m => (hf f m).1) hl
  obtain ⟨k1, e3, b3⟩ := known_like_ok hk ht (fun f m => (hf f m).1) hl
  obtain ⟨k2, e4, b4⟩ := known_like_ok hk (Ft.con_ok ht) (fun f m => (hf f m).1) hl
  obtain ⟨tk, u, v, n⟩ := t
  simp only at hd
  subst hd
  have c1 := con_eq (G := G) (t := ⟨"same", u, v, n⟩)
  unfold Ft.con at c1 e4 b4
  unfold Ft.turn at b3 b4
  simp at c1 e4 b3 b4 e1 e2 e3 b1 b2
  unfold Ft.w at e3 e4 c1 ⊢
  simp only at e3 e4 c1 ⊢
  rw [e_sameness_by]
  unfold b_sameness_by t_sameness_by_6 t_sameness_by_5 t_sameness_by_4 t_sameness_by_3 t_sameness_by_2 t_sameness_by_1
  unfold Ans Settles sat
  cases k1 with
  | true =>
    refine ⟨.bl true, by simp [e3], .inl ⟨?_, ?_⟩⟩
    · rcases b3.mp rfl with m | m
      · exact ⟨_, m, by simp⟩
      · exact ⟨_, m, by simp⟩
    · rcases b3.mp rfl with m | m
      · have := (hf _ m).2
        unfold sat at this
        simpa using this
      · have := (hf _ m).2
        unfold sat at this
        simp at this ⊢
        omega
  | false =>
    have n1 : ¬ (Ft.mk "same" u v n ∈ fs ∨ Ft.mk "same" v u (-n) ∈ fs) := fun z => by simpa using b3.mpr z
    cases k2 with
    | true =>
      refine ⟨.bl false, by simp [e3, e4, c1], .inl ⟨?_, ?_⟩⟩
      · rcases b4.mp rfl with m | m
        · exact ⟨_, m, by simp⟩
        · exact ⟨_, m, by simp⟩
      · rcases b4.mp rfl with m | m
        · have := (hf _ m).2
          unfold sat at this
          simpa using this
        · have := (hf _ m).2
          unfold sat at this
          simp at this ⊢
          omega
    | false =>
      have n2 : ¬ (Ft.mk "other" u v n ∈ fs ∨ Ft.mk "other" v u (-n) ∈ fs) := fun z => by simpa using b4.mpr z
      by_cases c3 : (∃ m, o1 = some m ∧ m ≤ n - 1) ∨ (∃ m, o2 = some m ∧ m ≤ -n - 1)
      · refine ⟨.bl false, ?_, .inl ⟨?_, ?_⟩⟩
        · rcases o1 with _ | y <;> rcases o2 with _ | z
          · simp at c3
          · have z1 : z < -n := by simp at c3; omega
            simp [e1, e2, e3, e4, c1, optW, gPar, z1]
          · have y1 : y < n := by simp at c3; omega
            simp [e1, e2, e3, e4, c1, optW, gPar, y1]
          · by_cases y1 : y < n
            · simp [e1, e2, e3, e4, c1, optW, gPar, y1]
            · have z1 : z < -n := by simp at c3; omega
              simp [e1, e2, e3, e4, c1, optW, gPar, y1, z1]
        · rcases c3 with c3 | c3
          · obtain ⟨f, m, a, b, c, d⟩ := (b1 _).mp c3
            exact ⟨f, m, by simp [a, b, c]; omega⟩
          · obtain ⟨f, m, a, b, c, d⟩ := (b2 _).mp c3
            exact ⟨f, m, by simp [a, b, c]; omega⟩
        · rcases c3 with c3 | c3
          · obtain ⟨f, m, a, b, c, d⟩ := (b1 _).mp c3
            have := (hf _ m).2
            unfold sat at this
            rw [if_pos a, b, c] at this
            simp at this ⊢
            omega
          · obtain ⟨f, m, a, b, c, d⟩ := (b2 _).mp c3
            have := (hf _ m).2
            unfold sat at this
            rw [if_pos a, b, c] at this
            simp at this ⊢
            omega
      · refine ⟨.non, ?_, .inr ⟨fun f m z => ?_, rfl⟩⟩
        · rcases o1 with _ | y <;> rcases o2 with _ | z
          · simp [e1, e2, e3, e4, c1, optW, gPar]
          · have z1 : ¬ z < -n := by simp at c3; omega
            simp [e1, e2, e3, e4, c1, optW, gPar, z1]
          · have y1 : ¬ y < n := by simp at c3; omega
            simp [e1, e2, e3, e4, c1, optW, gPar, y1]
          · have z1 : ¬ z < -n := by simp at c3; omega
            have y1 : ¬ y < n := by simp at c3; omega
            simp [e1, e2, e3, e4, c1, optW, gPar, y1, z1]
        · have q1 : ¬ ∃ m, o1 = some m ∧ m ≤ n - 1 := fun z => c3 (.inl z)
          have q2 : ¬ ∃ m, o2 = some m ∧ m ≤ -n - 1 := fun z => c3 (.inr z)
          obtain ⟨fk, fu, fv, fn⟩ := f
          have hk := (hf _ m).1.k
          simp at z
          simp only at hk
          rcases hk with rfl | rfl | rfl
          · simp at z
            rcases z with ⟨a, b, c⟩ | ⟨a, b, c⟩
            · exact q1 ((b1 _).mpr ⟨_, m, rfl, a, b, by simp; omega⟩)
            · exact q2 ((b2 _).mpr ⟨_, m, rfl, a, b, by simp; omega⟩)
          · simp at z
            rcases z with ⟨rfl, rfl, rfl⟩ | ⟨rfl, rfl, rfl⟩
            · exact n1 (.inl m)
            · exact n1 (.inr m)
          · simp at z
            rcases z with ⟨rfl, rfl, rfl⟩ | ⟨rfl, rfl, rfl⟩
            · exact n2 (.inl m)
            · exact n2 (.inr m)
end
end Lw

set_option Elab.async false
set_option linter.all false
set_option maxRecDepth 100000
namespace Lw
open PySem PySem.Spec PyProof.Rows L2 Fn
section
variable {G : GH} {h : W → Int} {t : Ft} {fs : List Ft} {kw : W}
theorem by_ok (hk : Sqs G kw (fs.map Ft.w)) (ht : t.Ok) (hf : ∀ f ∈ fs, f.Ok ∧ sat h f = true) (hl : fs.length ≤ 1000) : ∃ w, f_settled_by [kw, t.w] G = .ok w G ∧ Ans h fs t w := by
  rw [e_settled_by]
  unfold b_settled_by t_settled_by_4 t_settled_by_3 t_settled_by_2 t_settled_by_1
  by_cases hd : t.k = "diff"
  · obtain ⟨w, e, a⟩ := diff_ok hk ht hd hf hl
    refine ⟨w, ?_, a⟩
    unfold Ft.w at e ⊢
    rw [hd] at e ⊢
    simp [e]
  · have hts : (Ft.mk "same" t.u t.v t.n).Ok := ⟨.inr (.inl rfl), ht.u, ht.v, ht.du, ht.dv, ht.ne⟩
    obtain ⟨w, e, a⟩ := same_ok (t := ⟨"same", t.u, t.v, t.n⟩) hk hts rfl hf hl
    have c : cutW [W.str t.k, t.u, t.v, W.int t.n] (some 1) none = [t.u, t.v, W.int t.n] := cut_from (k := 1)
    have sAdd : fAddL false (W.tup [W.str "same"]) (W.tup [t.u, t.v, W.int t.n]) G = .ok (W.tup [W.str "same", t.u, t.v, W.int t.n]) G := by
      unfold fAddL
      simp only
      rw [if_pos (len_le _ (by simp))]; rfl
    have st : ∀ f, Settles f t ↔ Settles f ⟨"same", t.u, t.v, t.n⟩ := fun f => by
      unfold Settles
      simp [hd]
    unfold Ft.w at e ⊢
    simp only at e
    rcases ht.k with hk1 | hk1 | hk1
    · exact absurd hk1 hd
    · have et : t = ⟨"same", t.u, t.v, t.n⟩ := by rw [← hk1]
      rw [← et] at a
      refine ⟨w, ?_, a⟩
      rw [hk1] at c ⊢
      rcases a with ⟨_, rfl⟩ | ⟨_, rfl⟩ <;> simp [c, sAdd, e, lens]
    · have sv : sat h t = !sat h ⟨"same", t.u, t.v, t.n⟩ := by unfold sat; rw [hk1]; simp
      rw [hk1] at c ⊢
      rcases a with ⟨⟨f, m, s⟩, rfl⟩ | ⟨n, rfl⟩
      · exact ⟨.bl (sat h t), by simp [c, sAdd, e, lens, sv], .inl ⟨⟨f, m, (st f).mpr s⟩, rfl⟩⟩
      · exact ⟨.non, by simp [c, sAdd, e, lens], .inr ⟨fun f m z => n f m ((st f).mp z), rfl⟩⟩
theorem con_settles (ht : t.Ok) (f : Ft) : Settles f t.con ↔ Settles f t := by
  unfold Settles Ft.con
  rcases ht.k with h | h | h
  · rw [h]; simp; intro _
    constructor
    · rintro (⟨a, b, c⟩ | ⟨a, b, c⟩)
      · exact .inr ⟨a, b, by omega⟩
      · exact .inl ⟨a, b, by omega⟩
    · rintro (⟨a, b, c⟩ | ⟨a, b, c⟩)
      · exact .inr ⟨a, b, by omega⟩
      · exact .inl ⟨a, b, by omega⟩
  · rw [h]; simp
  · rw [h]; simp
theorem con_sat (ht : t.Ok) : sat h t.con = !sat h t := by
  unfold sat Ft.con
  rcases ht.k with h | h | h
  · rw [h]; simp; rw [← decide_not, decide_eq_decide]; omega
  · rw [h]; simp
  · rw [h]; simp
theorem same_non : f__law_same_answer [.non, .non] G = .ok (.bl true) G := by
  rw [e__law_same_answer]
  unfold b__law_same_answer t__law_same_answer_3 t__law_same_answer_2 t__law_same_answer_1
  simp
theorem same_bl (b : Bool) : f__law_same_answer [.bl b, .bl b] G = .ok (.bl true) G := by
  rw [e__law_same_answer]
  unfold b__law_same_answer t__law_same_answer_3 t__law_same_answer_2 t__law_same_answer_1
  cases b <;> simp [plB]
theorem same_self {w : W} (a : Ans h fs t w) : f__law_same_answer [w, w] G = .ok (.bl true) G := by
  rcases a with ⟨_, rfl⟩ | ⟨_, rfl⟩
  · exact same_bl _
  · exact same_non
theorem fs_nb : ∀ {fs : List Ft}, (∀ f ∈ fs, f.Ok) → W.nbs (fs.map Ft.w) = true
  | [], _ => rfl
  | f :: fs, hf => by
    simp only [List.map_cons, W.nbs, Ft.w_nb (hf f List.mem_cons_self), fs_nb fun g m => hf g (List.mem_cons_of_mem _ m), Bool.and_self]
theorem fs_dep : ∀ {fs : List Ft}, (∀ f ∈ fs, f.Ok) → W.deps (fs.map Ft.w) ≤ 20
  | [], _ => Nat.zero_le _
  | f :: fs, hf => by
    have := Ft.w_dep (hf f List.mem_cons_self)
    have := fs_dep fun g m => hf g (List.mem_cons_of_mem _ m)
    simp only [List.map_cons, W.deps]; omega
theorem rows_ne {n : Nat} (hG : G.at_ n = some (.lst (fs.map Ft.w))) (hf : ∀ f ∈ fs, f.Ok) : fNe (.ref n) (.lst (fs.map Ft.w)) G = .ok (.bl false) G := by
  have r : res G (.ref n) = .lst (fs.map Ft.w) := by unfold res; simp only [hG]
  have nb : (W.lst (fs.map Ft.w)).nb = true := fs_nb hf
  have e := fNe_nb (G := G) nb nb (by simp only [W.dep, Nat.min_self]; have := fs_dep hf; omega)
  rw [eqW_self nb] at e
  unfold fNe at e ⊢
  rw [r]
  exact e
theorem asked_ok (ht : t.Ok) (hf : ∀ f ∈ fs, f.Ok ∧ sat h f = true) (hl : fs.length ≤ 1000) : ∃ G', f__law_asked [.lst (fs.map Ft.w), t.w] G = .ok (.bl true) G' ∧ G'.n = G.n + 2 ∧ ∀ m, m < G.n → G'.at_ m = G.at_ m := by
  obtain ⟨due, e0, a0⟩ := settled_ok (G := G) (h := h) ht hf
  have hfo : ∀ f ∈ fs, f.Ok := fun f m => (hf f m).1
  rw [e__law_asked]
  unfold b__law_asked t__law_asked_14 t__law_asked_13 t__law_asked_12 t__law_asked_11 t__law_asked_10
  -- the heap behind the two copies
  let G1 := G.push (.lst (fs.map Ft.w))
  let G2 := G1.set G.n (.lst (fs.map Ft.w).reverse)
  let G3 := G2.push (.lst (fs.map Ft.w))
  have at1 : G1.at_ G.n = some (.lst (fs.map Ft.w)) := push_same
  have at3 : G3.at_ G.n = some (.lst (fs.reverse.map Ft.w)) := by
    show (G2.push _).at_ G.n = _
    rw [push_ne (by show G.n ≠ G.n + 1; omega)]
    rw [List.map_reverse]
    exact set_same
  have at4 : G3.at_ (G.n + 1) = some (.lst (fs.map Ft.w)) := push_same (G := G2)
  have hf' : ∀ f ∈ fs.reverse, f.Ok ∧ sat h f = true := fun f m => hf f (List.mem_reverse.mp m)
  have l1 : fs.length ≤ sizeLine := len_le _ (by omega)
  -- each asking
  have ask : ∀ (G : GH) (kw : W) (gs : List Ft), Sqs G kw (gs.map Ft.w) → (∀ f, f ∈ gs ↔ f ∈ fs) → gs.length = fs.length → f_settled_by [kw, t.w] G = .ok due G := fun G kw gs hs hm hl' => by
    obtain ⟨w, e, a⟩ := by_ok hs ht (fun f m => hf f ((hm f).mp m)) (by omega)
    rw [e, Ans.eq (a.of_mem hm) a0]
  have askc : ∀ (G : GH) (kw : W) (gs : List Ft) (w' : W), Sqs G kw (gs.map Ft.w) → (∀ f, f ∈ gs ↔ f ∈ fs) → gs.length = fs.length → Ans h fs t.con w' → f_settled_by [kw, t.con.w] G = .ok w' G := fun G kw gs w' hs hm hl' a' => by
    obtain ⟨w, e, a⟩ := by_ok hs (Ft.con_ok ht) (fun f m => hf f ((hm f).mp m)) (by omega)
    rw [e, Ans.eq (a.of_mem hm) a']
  have turn : ∀ x5 x6, t__law_asked_4 [some (.lst (fs.map Ft.w)), some t.w, some due, some (.ref G.n), some (.ref (G.n + 1)), x5, x6] G3 = .nx [some (.lst (fs.map Ft.w)), some t.w, some due, some (.ref G.n), some (.ref (G.n + 1)), x5, x6] G3 := fun x5 x6 => by
    unfold t__law_asked_4 t__law_asked_3 t__law_asked_2 t__law_asked_1
    have b1 := ask G3 (.ref (G.n + 1)) fs (.inr ⟨_, rfl, at4⟩) (fun _ => Iff.rfl) rfl
    have b2 : ∀ G, f_settled_by [.lst [], t.w] G = .ok .non G := fun G => by
      obtain ⟨w, e, a⟩ := by_ok (G := G) (kw := .lst []) (fs := []) (h := h) (.inl rfl) ht (fun f m => absurd m (by simp)) (by simp)
      rcases a with ⟨⟨f, m, _⟩, _⟩ | ⟨_, rfl⟩
      · exact absurd m (by simp)
      · exact e
    have ap := mAppend_at (w := t.w) at4 (by rw [List.length_map]; omega)
    have po := mPop_at (G := G3.set (G.n + 1) (.lst (fs.map Ft.w ++ [t.w]))) (n := G.n + 1) (us := fs.map Ft.w) (w := t.w) set_same
    have ty : isTy "list" (G3.set (G.n + 1) (.lst (fs.map Ft.w ++ [t.w]))) (.ref (G.n + 1)) = true := isTy_at set_same
    rw [set_set, set_self at4] at po
    rcases a0 with ⟨_, rfl⟩ | ⟨_, rfl⟩
    · simp [b1, same_bl, rows_ne at4 hfo, isTy_at at4, ap, ty, po]
    · simp [b1, same_non, rows_ne at4 hfo, isTy_at at4, ap, ty, po, b2, lens]
  have loop : ∀ x5 x6, ∃ y, forF (tgName 5) t__law_asked_4 (rngW 0 2) [some (.lst (fs.map Ft.w)), some t.w, some due, some (.ref G.n), some (.ref (G.n + 1)), x5, x6] G3 = .nx [some (.lst (fs.map Ft.w)), some t.w, some due, some (.ref G.n), some (.ref (G.n + 1)), y, x6] G3 := fun x5 x6 => by
    refine ⟨some (.int 1), ?_⟩
    show forF (tgName 5) t__law_asked_4 [.int 0, .int 1] _ _ = _
    rw [forF_nx (t := tgName 5) rfl (turn (some (.int 0)) x6), forF_nx (t := tgName 5) rfl (turn (some (.int 1)) x6)]
    rfl
  obtain ⟨y, el⟩ := loop none none
  have rv := mReverse_at at1
  have fin : (t__law_asked_9 [some (.lst (fs.map Ft.w)), some t.w, some due, some (.ref G.n), some (.ref (G.n + 1)), y, none] G3).fin.calm = .ok (.bl true) G3 := by
    unfold t__law_asked_9 t__law_asked_8 t__law_asked_7 t__law_asked_6 t__law_asked_5
    have b1 := ask G3 (.ref G.n) fs.reverse (.inr ⟨_, rfl, at3⟩) (fun _ => List.mem_reverse) List.length_reverse
    have i1 := cIsa_nb (G := G3) (T := "tuple") (w := t.con.w) (Ft.w_nb (Ft.con_ok ht)) rfl
    have n1 := fNe_nb (G := G3) (Ft.w_nb (Ft.con_ok ht)) (Ft.w_nb (Ft.con_ok ht)) (by have := Ft.w_dep (Ft.con_ok ht); omega)
    rw [eqW_self (Ft.w_nb (Ft.con_ok ht))] at n1
    rcases a0 with ⟨⟨f, m, s⟩, rfl⟩ | ⟨n, rfl⟩
    · have a' : Ans h fs t.con (.bl (!sat h t)) := .inl ⟨⟨f, m, (con_settles ht f).mpr s⟩, by rw [con_sat ht]⟩
      have c1 := askc G3 (.ref G.n) fs.reverse _ (.inr ⟨_, rfl, at3⟩) (fun _ => List.mem_reverse) List.length_reverse a'
      have c2 := askc G3 (.ref (G.n + 1)) fs _ (.inr ⟨_, rfl, at4⟩) (fun _ => Iff.rfl) rfl a'
      simp [b1, same_bl, con_eq, lcon_eq ht, i1, n1, c1, c2, PyData.isTuple]
    · have a' : Ans h fs t.con .non := .inr ⟨fun f m z => n f m ((con_settles ht f).mp z), rfl⟩
      have c1 := askc G3 (.ref G.n) fs.reverse _ (.inr ⟨_, rfl, at3⟩) (fun _ => List.mem_reverse) List.length_reverse a'
      have c2 := askc G3 (.ref (G.n + 1)) fs _ (.inr ⟨_, rfl, at4⟩) (fun _ => Iff.rfl) rfl a'
      simp [b1, same_non, con_eq, lcon_eq ht, i1, n1, c1, c2, PyData.isTuple]
  have sm : small62 2 = true := by decide
  refine ⟨G3, ?_, rfl, fun m hm => ?_⟩
  · have ty1 : isTy "list" (G.push (.lst (fs.map Ft.w))) (.ref G.n) = true := isTy_at at1
    have rv1 : mReverse (.ref G.n) [] (G.push (.lst (fs.map Ft.w))) = .ok .non G2 := rv
    have mk : ∀ (ws : List W) (n : Nat), G2.n = n → mkL true ws G2 = .ok (.ref n) (G2.push (.lst ws)) := fun ws n e => by rw [← e]; rfl
    simp [-mkL_true, e0, ty1, mkL_true (G := G)]
    simp [-mkL_true, ty1, rv1, mk _ (G.n + 1) rfl, sm]
    rw [show G2.push (.lst (fs.map Ft.w)) = G3 from rfl, el]
    exact fin
  · show (G2.push _).at_ m = _
    rw [push_ne (by show m ≠ G.n + 1; omega)]
    show (G1.set _ _).at_ m = _
    rw [set_ne (by omega)]
    exact push_ne (by omega)
end
end Lw

set_option Elab.async false
set_option linter.all false
set_option maxRecDepth 100000
namespace Lw
open PySem PySem.Spec PyProof.Rows L2 Fn
/-- bases, each of a worth -/
structure Wd (bs : List W) (ws : List Int) (h : W → Int) : Prop where
  l0 : 2 ≤ bs.length
  l1 : bs.length ≤ 4
  lw : ws.length = bs.length
  nd : ∀ i j (hi : i < bs.length) (hj : j < bs.length), i ≠ j → bs[i] ≠ bs[j]
  nb : ∀ w ∈ bs, w.nb = true
  dp : ∀ w ∈ bs, w.dep ≤ 10
  hh : ∀ i (hi : i < bs.length), h bs[i] = ws[i]'(by rw [lw]; exact hi)
def Gf (h : W → Int) (fs : List Ft) : Prop := ∀ f ∈ fs, f.Ok ∧ sat h f = true
theorem Gf.ins {h : W → Int} {fs : List Ft} {f : Ft} (g : Gf h fs) (hf : f.Ok) (hs : sat h f = true) (i : Nat) : Gf h (fs.take i ++ [f] ++ fs.drop i) := fun x m => by
  simp only [List.mem_append, List.mem_singleton] at m
  rcases m with (m | rfl) | m
  · exact g x (List.mem_of_mem_take m)
  · exact ⟨hf, hs⟩
  · exact g x (List.mem_of_mem_drop m)
theorem Gf.app {h : W → Int} {fs : List Ft} {f : Ft} (g : Gf h fs) (hf : f.Ok) (hs : sat h f = true) : Gf h (fs ++ [f]) := fun x m => by
  simp only [List.mem_append, List.mem_singleton] at m
  rcases m with m | rfl
  · exact g x m
  · exact ⟨hf, hs⟩
theorem w_mk (k : Str) (u v : W) (n : Int) : Ft.w ⟨k, u, v, n⟩ = .tup [.str k, u, v, .int n] := rfl
theorem ins_map (fs : List Ft) (f : Ft) (i : Nat) : (fs.map Ft.w).take i ++ [f.w] ++ (fs.map Ft.w).drop i = (fs.take i ++ [f] ++ fs.drop i).map Ft.w := by simp [List.map_take, List.map_drop]
theorem ins_len (fs : List Ft) (f : Ft) (i : Nat) : (fs.take i ++ [f] ++ fs.drop i).length = fs.length + 1 := by
  simp only [List.length_append, List.length_take, List.length_drop, List.length_singleton]; omega
section
variable {n nb nw nk : Nat} {bs : List W} {ws : List Int} {h : W → Int} {G : GH} {fs : List Ft}
structure Kn (n nb nw nk : Nat) (bs : List W) (ws : List Int) (G : GH) (fs : List Ft) : Prop where
  d : Deck G n
  a : n ≠ nb ∧ n ≠ nw ∧ n ≠ nk ∧ nb ≠ nk ∧ nw ≠ nk
  b : G.at_ nb = some (.lst bs)
  w : G.at_ nw = some (.lst (ws.map W.int))
  k : G.at_ nk = some (.lst (fs.map Ft.w))
theorem Kn.draw {G' : GH} (k : Kn n nb nw nk bs ws G fs) (d : Drawn n G G') : Kn n nb nw nk bs ws G' fs :=
  ⟨d.2.2, k.a, by rw [d.2.1 nb k.a.1.symm]; exact k.b, by rw [d.2.1 nw k.a.2.1.symm]; exact k.w, by rw [d.2.1 nk k.a.2.2.1.symm]; exact k.k⟩
theorem Kn.set (k : Kn n nb nw nk bs ws G fs) (gs : List Ft) : Kn n nb nw nk bs ws (G.set nk (.lst (gs.map Ft.w))) gs := by
  obtain ⟨⟨cs, a, b, t, hl, ha, e⟩, hn⟩ := k.d, k.a
  exact ⟨⟨cs, a, b, t, hl, ha, by rw [set_ne hn.2.2.1]; exact e⟩, k.a, by rw [set_ne hn.2.2.2.1]; exact k.b, by rw [set_ne hn.2.2.2.2]; exact k.w, set_same⟩
theorem at_bs {i : Int} (h0 : 0 ≤ i) (h1 : i < bs.length) : L2.atI bs i = some (bs[i.toNat]'(by omega)) := atI_at h0 (List.getElem?_eq_getElem _)
theorem at_ws {i : Int} (h0 : 0 ≤ i) (h1 : i < ws.length) : L2.atI (ws.map W.int) i = some (.int (ws[i.toNat]'(by omega))) := atI_at h0 (by rw [List.getElem?_map, List.getElem?_eq_getElem (by omega)]; rfl)
/-- two bases are drawn -/
theorem pair_ok (wd : Wd bs ws h) {a d : Int} (a0 : 0 ≤ a) (a1 : a < bs.length) (d0 : 0 ≤ d) (d1 : d < (bs.length : Int) - 1) : 0 ≤ (a + 1 + d) % (bs.length : Int) ∧ (a + 1 + d) % (bs.length : Int) < bs.length ∧ (a + 1 + d) % (bs.length : Int) ≠ a := by
  have l0 := wd.l0
  have l1 := wd.l1
  generalize bs.length = L at *
  have : L = 2 ∨ L = 3 ∨ L = 4 := by omega
  rcases this with rfl | rfl | rfl <;> simp at * <;> omega
theorem Wd.ft (wd : Wd bs ws h) {a b : Int} (a0 : 0 ≤ a) (a1 : a < bs.length) (b0 : 0 ≤ b) (b1 : b < bs.length) (ne : b ≠ a) (k : Str) (hk : k = "diff" ∨ k = "same" ∨ k = "other") (m : Int) :
    (Ft.mk k (bs[a.toNat]'(by omega)) (bs[b.toNat]'(by omega)) m).Ok :=
  ⟨hk, wd.nb _ (List.getElem_mem _), wd.nb _ (List.getElem_mem _), wd.dp _ (List.getElem_mem _), wd.dp _ (List.getElem_mem _), wd.nd _ _ _ _ (by omega)⟩
theorem known_turn (wd : Wd bs ws h) (kn : Kn n nb nw nk bs ws G fs) (g : Gf h fs) (hl : fs.length ≤ 100) {k xa xb xp xq xt : Option W} :
    ∃ G' fs' y5 y6 y7 y8 y9, t__law_known_6 [some (.ref n), some (.ref nb), some (.ref nw), some (.ref nk), k, xa, xb, xp, xq, xt] G = .nx [some (.ref n), some (.ref nb), some (.ref nw), some (.ref nk), k, y5, y6, y7, y8, y9] G' ∧
      Kn n nb nw nk bs ws G' fs' ∧ Gf h fs' ∧ fs'.length ≤ fs.length + 3 ∧ G'.n = G.n := by
  have l0 := wd.l0
  have l1 := wd.l1
  have lw := wd.lw
  obtain ⟨a, G1, e1, a0, a1, d1⟩ := draw_ok (m := (bs.length : Int)) kn.d (by omega) (log2_of (by rw [Int.natAbs_natCast]; exact Nat.lt_of_le_of_lt l1 (by decide)))
  have k1 := kn.draw d1
  obtain ⟨d, G2, e2, d0, d1', d2⟩ := draw_ok (m := (bs.length : Int) - 1) k1.d (by omega) (log2_of (by omega))
  have k2 := k1.draw d2
  obtain ⟨b0, b1, ne⟩ := pair_ok wd a0 a1 d0 d1'
  have em := fMod_i (G := G2) (i := a + 1 + d) (j := (bs.length : Int)) (by omega)
  generalize (a + 1 + d) % (bs.length : Int) = b at b0 b1 ne em
  obtain ⟨p, G3, e3, p0, p1, d3⟩ := drawn 4 k2.d
  have k3 := k2.draw d3
  obtain ⟨t, G4, e4, t0, t1, d4⟩ := draw_ok (m := (fs.length : Int) + 1) k3.d (by omega) (log2_of (by omega))
  have k4 := k3.draw d4
  have ln : G4.n = G.n := by rw [d4.1, d3.1, d2.1, d1.1]
  have ab := at_bs (bs := bs) a0 a1
  have bb := at_bs (bs := bs) b0 b1
  have aw := at_ws (ws := ws) a0 (by rw [lw]; exact a1)
  have bw := at_ws (ws := ws) b0 (by rw [lw]; exact b1)
  have ha := wd.hh a.toNat (by omega)
  have hb := wd.hh b.toNat (by omega)
  generalize ws[a.toNat]'(by omega) = wa at aw ha
  generalize ws[b.toNat]'(by omega) = wb at bw hb
  unfold t__law_known_6 t__law_known_5 t__law_known_4 t__law_known_3 t__law_known_2 t__law_known_1
  have c1 := cLen_at kn.b
  have c2 := cLen_at k1.b
  have c3 := cLen_at k2.b
  have c4 := cLen_at k3.k
  rw [List.length_map] at c4
  by_cases hp : p < 2
  · obtain ⟨r, G5, e5, r0, r1, d5⟩ := drawn 3 k4.d
    have k5 := k4.draw d5
    have fo := wd.ft a0 a1 b0 b1 ne "diff" (.inl rfl) (wa - wb + r)
    have so : sat h ⟨"diff", bs[a.toNat]'(by omega), bs[b.toNat]'(by omega), wa - wb + r⟩ = true := by unfold sat; simp [ha, hb]; omega
    have mi := mInsert_at (w := Ft.w ⟨"diff", bs[a.toNat]'(by omega), bs[b.toNat]'(by omega), wa - wb + r⟩) k5.k (by rw [List.length_map]; omega) t0 (by omega)
    rw [ins_map] at mi
    refine ⟨_, _, some (.int a), some (.int b), some (.int (wa - wb)), some (.int p), some (.int t), ?_, k5.set _, g.ins fo so t.toNat, by rw [ins_len]; omega, by show G5.n = _; rw [d5.1]; exact ln⟩
    simp [c1, e1, c2, c3, e2, em, k2.w, aw, bw, e3, c4, e4, hp, isTy_at k4.k, k4.b, ab, bb, e5, lens]
    unfold Ft.w at mi ⊢
    simp [mi]
  · by_cases hp2 : p = 2
    · obtain ⟨r, G5, e5, r0, r1, d5⟩ := drawn 4 k4.d
      have k5 := k4.draw d5
      have ob : ∃ z : Int, z ≠ 0 ∧ L2.atI [W.int (-2), .int (-1), .int 1, .int 2] r = some (.int z) := by
        have : r = 0 ∨ r = 1 ∨ r = 2 ∨ r = 3 := by omega
        rcases this with rfl | rfl | rfl | rfl
        · exact ⟨-2, by decide, by simp⟩
        · exact ⟨-1, by decide, by simp⟩
        · exact ⟨1, by decide, by simp⟩
        · exact ⟨2, by decide, by simp⟩
      obtain ⟨z, nz, ez⟩ := ob
      have fo := wd.ft a0 a1 b0 b1 ne "other" (.inr (.inr rfl)) (wa - wb + z)
      have so : sat h ⟨"other", bs[a.toNat]'(by omega), bs[b.toNat]'(by omega), wa - wb + z⟩ = true := by unfold sat; simp [ha, hb]; omega
      have mi := mInsert_at (w := Ft.w ⟨"other", bs[a.toNat]'(by omega), bs[b.toNat]'(by omega), wa - wb + z⟩) k5.k (by rw [List.length_map]; omega) t0 (by omega)
      rw [ins_map] at mi
      refine ⟨_, _, some (.int a), some (.int b), some (.int (wa - wb)), some (.int p), some (.int t), ?_, k5.set _, g.ins fo so t.toNat, by rw [ins_len]; omega, by show G5.n = _; rw [d5.1]; exact ln⟩
      subst hp2
      simp [c1, e1, c2, c3, e2, em, k2.w, aw, bw, e3, c4, e4, isTy_at k4.k, k4.b, ab, bb, e5, lens, ez]
      unfold Ft.w at mi ⊢
      simp [mi]
    · have f1 := wd.ft a0 a1 b0 b1 ne "same" (.inr (.inl rfl)) (wa - wb)
      have f2 := wd.ft a0 a1 b0 b1 ne "diff" (.inl rfl) (wa - wb)
      have f3 := wd.ft b0 b1 a0 a1 ne.symm "diff" (.inl rfl) (-(wa - wb))
      have s1 : sat h ⟨"same", bs[a.toNat]'(by omega), bs[b.toNat]'(by omega), wa - wb⟩ = true := by unfold sat; simp [ha, hb]
      have s2 : sat h ⟨"diff", bs[a.toNat]'(by omega), bs[b.toNat]'(by omega), wa - wb⟩ = true := by unfold sat; simp [ha, hb]
      have s3 : sat h ⟨"diff", bs[b.toNat]'(by omega), bs[a.toNat]'(by omega), -(wa - wb)⟩ = true := by unfold sat; simp [ha, hb]; omega
      have m1 := mInsert_at (w := Ft.w ⟨"same", bs[a.toNat]'(by omega), bs[b.toNat]'(by omega), wa - wb⟩) k4.k (by rw [List.length_map]; omega) t0 (by omega)
      rw [ins_map] at m1
      have k5 := k4.set (fs.take t.toNat ++ [⟨"same", bs[a.toNat]'(by omega), bs[b.toNat]'(by omega), wa - wb⟩] ++ fs.drop t.toNat)
      have g5 := g.ins f1 s1 t.toNat
      have l5 := ins_len fs ⟨"same", bs[a.toNat]'(by omega), bs[b.toNat]'(by omega), wa - wb⟩ t.toNat
      generalize fs.take t.toNat ++ [⟨"same", bs[a.toNat]'(by omega), bs[b.toNat]'(by omega), wa - wb⟩] ++ fs.drop t.toNat = fs5 at m1 k5 g5 l5
      have m2 := mAppend_at (w := Ft.w ⟨"diff", bs[a.toNat]'(by omega), bs[b.toNat]'(by omega), wa - wb⟩) k5.k (by rw [List.length_map]; omega)
      have em2 : fs5.map Ft.w ++ [Ft.w ⟨"diff", bs[a.toNat]'(by omega), bs[b.toNat]'(by omega), wa - wb⟩] = (fs5 ++ [Ft.mk "diff" (bs[a.toNat]'(by omega)) (bs[b.toNat]'(by omega)) (wa - wb)]).map Ft.w := by simp
      rw [em2, set_set] at m2
      have k6 := k4.set (fs5 ++ [⟨"diff", bs[a.toNat]'(by omega), bs[b.toNat]'(by omega), wa - wb⟩])
      have g6 := g5.app f2 s2
      have l6 : (fs5 ++ [Ft.mk "diff" (bs[a.toNat]'(by omega)) (bs[b.toNat]'(by omega)) (wa - wb)]).length = fs.length + 2 := by rw [List.length_append, l5]; rfl
      generalize fs5 ++ [⟨"diff", bs[a.toNat]'(by omega), bs[b.toNat]'(by omega), wa - wb⟩] = fs6 at m2 k6 g6 l6
      obtain ⟨r, G5, e5, r0, r1, d5⟩ := draw_ok (m := t + 1) k6.d (by omega) (log2_of (by omega))
      have k7 := k6.draw d5
      have m3 := mInsert_at (w := Ft.w ⟨"diff", bs[b.toNat]'(by omega), bs[a.toNat]'(by omega), -(wa - wb)⟩) k7.k (by rw [List.length_map]; omega) r0 (by omega)
      rw [ins_map] at m3
      refine ⟨_, _, some (.int a), some (.int b), some (.int (wa - wb)), some (.int p), some (.int t), ?_, k7.set _, g6.ins f3 s3 r.toNat, by rw [ins_len]; omega, by show G5.n = _; rw [d5.1]; exact ln⟩
      simp only [w_mk] at m1 m2 m3
      simp [c1, e1, c2, c3, e2, em, k2.w, aw, bw, e3, c4, e4, hp, hp2, isTy_at k4.k, k4.b, ab, bb, lens, m1, m2, isTy_at k5.k, isTy_at k6.k, k5.b, k6.b, e5, k7.b, m3, isTy_at k7.k]
end
end Lw

set_option Elab.async false
set_option linter.all false
set_option maxRecDepth 100000
namespace Lw
open PySem PySem.Spec PyProof.Rows L2 Fn
section
variable {n nb nw : Nat} {bs : List W} {ws : List Int} {h : W → Int} {G : GH}
/-- deck, bases and worths -/
structure Bs (n nb nw : Nat) (bs : List W) (ws : List Int) (G : GH) : Prop where
  d : Deck G n
  a : n ≠ nb ∧ n ≠ nw ∧ nb ≠ nw
  l : n < G.n ∧ nb < G.n ∧ nw < G.n
  b : G.at_ nb = some (.lst bs)
  w : G.at_ nw = some (.lst (ws.map W.int))
theorem Bs.draw {G' : GH} (k : Bs n nb nw bs ws G) (d : Drawn n G G') : Bs n nb nw bs ws G' :=
  ⟨d.2.2, k.a, by rw [d.1]; exact k.l, by rw [d.2.1 nb k.a.1.symm]; exact k.b, by rw [d.2.1 nw k.a.2.1.symm]; exact k.w⟩
theorem Bs.setB (k : Bs n nb nw bs ws G) (cs : List W) : Bs n nb nw cs ws (G.set nb (.lst cs)) := by
  obtain ⟨⟨xs, a, b, t, hl, ha, e⟩, h⟩ := k.d, k.a
  exact ⟨⟨xs, a, b, t, hl, ha, by rw [set_ne h.1]; exact e⟩, k.a, k.l, set_same, by rw [set_ne h.2.2.symm]; exact k.w⟩
theorem Bs.setW (k : Bs n nb nw bs ws G) (cs : List Int) : Bs n nb nw bs cs (G.set nw (.lst (cs.map W.int))) := by
  obtain ⟨⟨xs, a, b, t, hl, ha, e⟩, h⟩ := k.d, k.a
  exact ⟨⟨xs, a, b, t, hl, ha, by rw [set_ne h.2.1]; exact e⟩, k.a, k.l, by rw [set_ne h.2.2]; exact k.b, set_same⟩
theorem Bs.grow {G' : GH} (k : Bs n nb nw bs ws G) (hn : G.n ≤ G'.n) (ha : ∀ m, m < G.n → G'.at_ m = G.at_ m) : Bs n nb nw bs ws G' := by
  obtain ⟨⟨xs, a, b, t, hl, h0, e⟩, l⟩ := k.d, k.l
  exact ⟨⟨xs, a, b, t, hl, h0, by rw [ha n l.1]; exact e⟩, k.a, ⟨by omega, by omega, by omega⟩, by rw [ha nb l.2.1]; exact k.b, by rw [ha nw l.2.2]; exact k.w⟩
theorem known_ok (wd : Wd bs ws h) (b : Bs n nb nw bs ws G) : ∃ G' fs, f__law_known [.ref n, .ref nb, .ref nw] G = .ok (.ref G.n) G' ∧ G'.n = G.n + 1 ∧ Kn n nb nw G.n bs ws G' fs ∧ Gf h fs ∧ fs.length ≤ 1000 := by
  rw [e__law_known]
  unfold b__law_known t__law_known_9 t__law_known_8 t__law_known_7
  have l := b.l
  have k0 : Kn n nb nw G.n bs ws (G.push (.lst [])) [] := by
    obtain ⟨xs, a, b', t, hl, h0, e⟩ := b.d
    exact ⟨⟨xs, a, b', t, hl, h0, by rw [push_ne (by omega)]; exact e⟩, ⟨b.a.1, b.a.2.1, by omega, by omega, by omega⟩, by rw [push_ne (by omega)]; exact b.b, by rw [push_ne (by omega)]; exact b.w, push_same⟩
  obtain ⟨d, G1, e1, d0, d1, dr⟩ := drawn 6 k0.d
  have k1 := k0.draw dr
  have sm : small62 d = true := by unfold small62; simp; omega
  obtain ⟨ρ', G', e2, fs, y4, y5, y6, y7, y8, y9, rfl, kn, g, hl, hn⟩ := for_invN (t := tgName 4) (b := t__law_known_6) (fun i ρ G2 => ∃ fs y4 y5 y6 y7 y8 y9, ρ = [some (.ref n), some (.ref nb), some (.ref nw), some (.ref G.n), y4, y5, y6, y7, y8, y9] ∧ Kn n nb nw G.n bs ws G2 fs ∧ Gf h fs ∧ (i ≤ 5 → fs.length ≤ 3 * i) ∧ G2.n = G.n + 1) (rngW 0 d.toNat) 0
    (fun j w hj ρ G2 ⟨fs, y4, y5, y6, y7, y8, y9, e, kn, g, hl, hn⟩ => by
      have hj5 : j < 6 := by
        have := (List.getElem?_eq_some_iff.mp hj).1
        rw [rngW_length] at this
        omega
      subst e
      obtain ⟨G3, fs', z5, z6, z7, z8, z9, e3, kn', g', hl', hn'⟩ := known_turn wd kn g (by have := hl (by omega); omega) (k := some w) (xa := y5) (xb := y6) (xp := y7) (xq := y8) (xt := y9)
      exact ⟨_, _, _, _, rfl, .inl e3, fs', some w, z5, z6, z7, z8, z9, rfl, kn', g', fun q => by have := hl (by omega); omega, by rw [hn']; exact hn⟩)
    _ _ ⟨[], none, none, none, none, none, none, rfl, k1, fun f m => absurd m (by simp), fun _ => by simp, by rw [dr.1]; rfl⟩
  have hd : d.toNat ≤ 5 := by omega
  refine ⟨G', fs, ?_, hn, kn, g, ?_⟩
  · simp [lens, e1, sm, e2]
  · have := hl (by rw [rngW_length]; omega)
    rw [rngW_length] at this
    omega
/-- what a turn of the asking finds -/
theorem ask_turn (wd : Wd bs ws h) (b : Bs n nb nw bs ws G) {fs : List Ft} (g : Gf h fs) (hl : fs.length ≤ 1000) {sc k t x7 xa xb xp xw : Option W} :
    ∃ G' y8 y9 y10 y11, t_law_10 [sc, some (.ref n), some (.ref nb), some (.ref nw), k, some (.lst (fs.map Ft.w)), t, x7, xa, xb, xp, xw] G = .nx [sc, some (.ref n), some (.ref nb), some (.ref nw), k, some (.lst (fs.map Ft.w)), t, x7, y8, y9, y10, y11] G' ∧ Bs n nb nw bs ws G' := by
  have l0 := wd.l0
  have l1 := wd.l1
  have lw := wd.lw
  obtain ⟨a, G1, e1, a0, a1, d1⟩ := draw_ok (m := (bs.length : Int)) b.d (by omega) (log2_of (by rw [Int.natAbs_natCast]; exact Nat.lt_of_le_of_lt l1 (by decide)))
  have k1 := b.draw d1
  obtain ⟨d, G2, e2, d0, d1', d2⟩ := draw_ok (m := (bs.length : Int) - 1) k1.d (by omega) (log2_of (by omega))
  have k2 := k1.draw d2
  obtain ⟨b0, b1, ne⟩ := pair_ok wd a0 a1 d0 d1'
  have em := fMod_i (G := G2) (i := a + 1 + d) (j := (bs.length : Int)) (by omega)
  generalize (a + 1 + d) % (bs.length : Int) = c at b0 b1 ne em
  obtain ⟨p, G3, e3, p0, p1, d3⟩ := drawn 7 k2.d
  have k3 := k2.draw d3
  obtain ⟨q, G4, e4, q0, q1, d4⟩ := drawn 3 k3.d
  have k4 := k3.draw d4
  have ab := at_bs (bs := bs) a0 a1
  have bb := at_bs (bs := bs) b0 b1
  have aw := at_ws (ws := ws) a0 (by rw [lw]; exact a1)
  have bw := at_ws (ws := ws) b0 (by rw [lw]; exact b1)
  generalize ws[a.toNat]'(by omega) = wa at aw
  generalize ws[c.toNat]'(by omega) = wb at bw
  have ow : ∃ s : Str, (s = "diff" ∨ s = "same" ∨ s = "other") ∧ L2.atI [W.str "diff", .str "same", .str "other"] q = some (.str s) := by
    have : q = 0 ∨ q = 1 ∨ q = 2 := by omega
    rcases this with rfl | rfl | rfl
    · exact ⟨"diff", .inl rfl, by simp⟩
    · exact ⟨"same", .inr (.inl rfl), by simp⟩
    · exact ⟨"other", .inr (.inr rfl), by simp⟩
  obtain ⟨s, hs, es⟩ := ow
  have fo := wd.ft a0 a1 b0 b1 ne s hs (wa - wb + p - 3)
  obtain ⟨G5, e5, hn, ha⟩ := asked_ok (G := G4) fo g hl
  rw [w_mk] at e5
  have c1 := cLen_at b.b
  have c2 := cLen_at k1.b
  have c3 := cLen_at k2.b
  refine ⟨G5, some (.int a), some (.int c), some (.int (wa - wb + p - 3)), some (.str s), ?_, k4.grow (by omega) ha⟩
  unfold t_law_10 t_law_9 t_law_8 t_law_7 t_law_6
  simp [c1, e1, c2, c3, e2, em, k2.w, aw, bw, e3, e4, es, k4.b, ab, bb, lens, e5]
/-! ### the bases are made -/
theorem inWs_iff : ∀ {a : W} {bs : List W}, a.nb = true → (∀ w ∈ bs, w.nb = true) → (inWs a bs = true ↔ a ∈ bs)
  | a, [], _, _ => by simp [inWs]
  | a, b :: bs, ha, hb => by
    rw [inWs, Bool.or_eq_true, eqW_iff b a (hb b List.mem_cons_self) ha, inWs_iff ha fun w m => hb w (List.mem_cons_of_mem _ m), List.mem_cons]
    exact ⟨fun z => z.imp Eq.symm id, fun z => z.imp Eq.symm id⟩
theorem nbs_of : ∀ {bs : List W}, (∀ w ∈ bs, w.nb = true) → W.nbs bs = true
  | [], _ => rfl
  | b :: bs, h => by simp only [W.nbs, h b List.mem_cons_self, nbs_of fun w m => h w (List.mem_cons_of_mem _ m), Bool.and_self]
theorem fIn_at {a : W} (ha : a.nb = true) (da : a.dep ≤ 60) (hb : ∀ w ∈ bs, w.nb = true) (hG : G.at_ nb = some (.lst bs)) : fIn false a (.ref nb) G = .ok (.bl (inWs a bs)) G := by
  have r : res G (.ref nb) = .lst bs := by unfold res; simp only [hG]
  unfold fIn
  rw [r, res_nb ha, W.pl_of_nb a ha]
  unfold itemsD
  simp only [W.pls_of_nbs bs (nbs_of hb), Bool.true_and, decide_eq_true_eq]
  rw [if_pos (by omega)]
  rfl
/-- the bases so far -/
structure Mk (k : Nat) (bs : List W) (ws : List Int) : Prop where
  lb : bs.length = k
  lw : ws.length = k
  nd : bs.Nodup
  nb : ∀ w ∈ bs, w.nb = true
  dp : ∀ w ∈ bs, w.dep ≤ 10
  fr : ∀ j : Nat, k ≤ j → W.tup [.str "given", .int (10 + j)] ∉ bs
theorem Mk.step {k : Nat} (m : Mk k bs ws) {b : W} (nb : b.nb = true) (dp : b.dep ≤ 10) (ni : b ∉ bs) (fr : ∀ j : Nat, k + 1 ≤ j → W.tup [.str "given", .int (10 + j)] ≠ b) (x : Int) : Mk (k + 1) (bs ++ [b]) (ws ++ [x]) :=
  ⟨by rw [List.length_append, m.lb]; rfl, by rw [List.length_append, m.lw]; rfl, List.nodup_append.mpr ⟨m.nd, by simp, fun a ha c hc => by
    have : c = b := by simpa using hc
    subst this
    exact fun e => ni (e ▸ ha)⟩, fun w h => by
    rcases List.mem_append.mp h with h | h
    · exact m.nb w h
    · rw [show w = b by simpa using h]; exact nb, fun w h => by
    rcases List.mem_append.mp h with h | h
    · exact m.dp w h
    · rw [show w = b by simpa using h]; exact dp, fun j hj h => by
    rcases List.mem_append.mp h with h | h
    · exact m.fr j (by omega) h
    · exact fr j hj (by simpa using h)⟩
theorem make_turn {k : Nat} (mk : Mk k bs ws) (b : Bs n nb nw bs ws G) (hk : k ≤ 10) {sc x5 x6 x7 x8 x9 x10 x11 : Option W} :
    ∃ G' bs' ws' y7, t_law_5 [sc, some (.ref n), some (.ref nb), some (.ref nw), some (.int k), x5, x6, x7, x8, x9, x10, x11] G = .nx [sc, some (.ref n), some (.ref nb), some (.ref nw), some (.int k), x5, x6, y7, x8, x9, x10, x11] G' ∧ Bs n nb nw bs' ws' G' ∧ Mk (k + 1) bs' ws' := by
  obtain ⟨u, G1, e1, u0, u1, u2, d1⟩ := base_ok 3 1 G (by omega) b.d
  have b1 := b.draw d1
  have fi := fIn_at u0 (by omega) mk.nb b1.b
  -- the base that is taken
  have pick : ∃ v : W, v.nb = true ∧ v.dep ≤ 10 ∧ v ∉ bs ∧ (∀ j : Nat, k + 1 ≤ j → W.tup [.str "given", .int (10 + j)] ≠ v) ∧ ∀ F : En → GH → RS, (((t_law_4 [sc, some (.ref n), some (.ref nb), some (.ref nw), some (.int k), x5, x6, some u, x8, x9, x10, x11] G1)) = t_law_3 [sc, some (.ref n), some (.ref nb), some (.ref nw), some (.int k), x5, x6, some v, x8, x9, x10, x11] G1) := by
    unfold t_law_4
    cases hi : inWs u bs with
    | true =>
      refine ⟨.tup [.str "given", .int (10 + k)], rfl, by simp [W.dep, W.deps], mk.fr k (Nat.le_refl _), fun j hj e => ?_, fun F => ?_⟩
      · simp at e; omega
      · simp [fi, hi, lens]
    | false =>
      refine ⟨u, u0, by omega, fun m => ?_, fun j hj e => u2 (10 + j) (by omega) e.symm, fun F => ?_⟩
      · rw [(inWs_iff u0 mk.nb).mpr m] at hi; cases hi
      · simp [fi, hi]
  obtain ⟨v, v0, v1, v2, v3, v4⟩ := pick
  have v4 := v4 fun _ _ => .no
  have ap := mAppend_at (w := v) b1.b (by rw [mk.lb]; omega)
  have b2 := b1.setB (bs ++ [v])
  obtain ⟨x, G3, e3, x0, x1, d3⟩ := drawn 9 b2.d
  have b3 := b2.draw d3
  have aw := mAppend_at (w := .int (x - 4)) b3.w (by rw [List.length_map, mk.lw]; omega)
  rw [show ws.map W.int ++ [W.int (x - 4)] = (ws ++ [x - 4]).map W.int by simp] at aw
  have b4 := b3.setW (ws ++ [x - 4])
  obtain ⟨y, G5, e5, y0, y1, d5⟩ := drawn 6 b4.d
  have b5 := b4.draw d5
  have m4 := mk.step v0 v1 v2 v3 (x - 4)
  unfold t_law_5
  simp at e1
  by_cases hy : y = 0
  · subst hy
    obtain ⟨z, G6, e6, z0, z1, d6⟩ := drawn 100000000000000000000 b5.d
    have b6 := b5.draw d6
    have b7 := b6.setW (ws ++ [z])
    have st : ∀ G : GH, setG nw ((ws ++ [x - 4]).map W.int) (k : Int) (.int z) G = some (G.set nw (.lst ((ws ++ [z]).map W.int))) := fun G => by
      have hix : L2.ixN ((ws ++ [x - 4]).map W.int).length (k : Int) = some k := by
        unfold L2.ixN
        simp [mk.lw]; omega
      unfold setG
      rw [hix]
      have : ((ws ++ [x - 4]).map W.int).set k (.int z) = (ws ++ [z]).map W.int := by
        rw [List.map_append, List.set_append_right (h := by rw [List.length_map, mk.lw]; exact Nat.le_refl _)]
        simp [mk.lw]
      simp only [this]
    refine ⟨_, bs ++ [v], ws ++ [z], some v, ?_, b7, mk.step v0 v1 v2 v3 z⟩
    simp [e1, v4]
    unfold t_law_3 t_law_2 t_law_1
    have wz := b6.w
    simp [-List.map_append, isTy_at b1.b, ap, isTy_at b2.w, e3, isTy_at b3.w, aw, e5, e6, wz, st]
    rw [List.map_append]
    rfl
  · refine ⟨_, bs ++ [v], ws ++ [x - 4], some v, ?_, b5, m4⟩
    simp [e1, v4]
    unfold t_law_3 t_law_2 t_law_1
    simp [-List.map_append, isTy_at b1.b, ap, isTy_at b2.w, e3, isTy_at b3.w, aw, e5, hy]
theorem worth_fn : ∀ (bs : List W) (ws : List Int), bs.Nodup → ∀ (lw : ws.length = bs.length), ∃ h : W → Int, ∀ i (hi : i < bs.length), h bs[i] = ws[i]'(by rw [lw]; exact hi)
  | [], [], _, _ => ⟨fun _ => 0, fun i hi => absurd hi (by simp)⟩
  | b :: bs, w :: ws, nd, lw => by
    obtain ⟨nb, nd⟩ := List.nodup_cons.mp nd
    obtain ⟨h, hh⟩ := worth_fn bs ws nd (by simpa using lw)
    open Classical in
    refine ⟨fun x => if x = b then w else h x, fun i hi => ?_⟩
    cases i with
    | zero => simp
    | succ i =>
      have hi : i < bs.length := by simpa using hi
      have : bs[i] ≠ b := fun e => nb (e ▸ List.getElem_mem hi)
      simp [this, hh i hi]
  | [], _ :: _, _, h => by simp at h
  | _ :: _, [], _, h => by simp at h
theorem Mk.wd {k : Nat} (m : Mk k bs ws) (h2 : 2 ≤ k) (h4 : k ≤ 4) : ∃ h, Wd bs ws h := by
  have lw : ws.length = bs.length := by rw [m.lb, m.lw]
  obtain ⟨h, hh⟩ := worth_fn bs ws m.nd lw
  exact ⟨h, by rw [m.lb]; exact h2, by rw [m.lb]; exact h4, lw, fun i j hi hj ne e => by
    rcases Nat.lt_or_gt_of_ne ne with q | q
    · exact List.pairwise_iff_getElem.mp m.nd i j hi hj q e
    · exact List.pairwise_iff_getElem.mp m.nd j i hj hi q e.symm, m.nb, m.dp, hh⟩
end
theorem law_true : ∀ ns : List Int, ns.length ≤ 63 → ∃ G, f_law [.lst (ns.map W.int)] G0 = .ok (.bl true) G := fun ns hns => by
  rw [e_law]
  unfold b_law t_law_17 t_law_16 t_law_15 t_law_14 t_law_13 t_law_12 t_law_11
  have e0 := deck_ok (G := G0) hns
  have b0 : Bs 0 1 2 [] [] (((G0.push (.lst [.lst (ns.map .int), .int 0, .int 0, .int 0])).push (.lst [])).push (.lst [])) := by
    refine ⟨⟨ns, 0, 0, 0, hns, Int.le_refl _, ?_⟩, ⟨by decide, by decide, by decide⟩, ⟨show 0 < 0 + 1 + 1 + 1 by decide, show 1 < 0 + 1 + 1 + 1 by decide, show 2 < 0 + 1 + 1 + 1 by decide⟩, ?_, ?_⟩ <;> rfl
  obtain ⟨d, G1, e1, d0, d1, dr⟩ := drawn 3 b0.d
  have b1 := b0.draw dr
  have sm : small62 (2 + d) = true := by unfold small62; simp; omega
  obtain ⟨ρ', G2, e2, bs, ws, y4, y7, rfl, b2, mk⟩ := for_invN (t := tgName 4) (b := t_law_5) (fun i ρ G => ∃ bs ws y4 y7, ρ = [some (.lst (ns.map W.int)), some (.ref 0), some (.ref 1), some (.ref 2), y4, none, none, y7, none, none, none, none] ∧ Bs 0 1 2 bs ws G ∧ Mk i bs ws) (rngW 0 (2 + d).toNat) 0
    (fun j w hj ρ G ⟨bs, ws, y4, y7, e, b, mk⟩ => by
      have hj1 := (List.getElem?_eq_some_iff.mp hj).1
      rw [rngW_length] at hj1
      rw [rngW_get _ _ _ hj1] at hj
      cases hj
      subst e
      obtain ⟨G', bs', ws', z7, e3, b', mk'⟩ := make_turn mk b (by omega) (sc := some (.lst (ns.map W.int))) (x5 := none) (x6 := none) (x7 := y7) (x8 := none) (x9 := none) (x10 := none) (x11 := none)
      exact ⟨_, _, _, _, rfl, .inl (by simpa using e3), bs', ws', _, z7, rfl, b', by simpa using mk'⟩)
    _ _ ⟨[], [], none, none, rfl, b1, rfl, rfl, by simp, by simp, by simp, by simp⟩
  rw [rngW_length] at mk
  obtain ⟨h, wd⟩ := mk.wd (by omega) (by omega)
  obtain ⟨G3, fs, e3, hn3, kn, g, hl⟩ := known_ok wd b2
  have l2 := b2.l
  have b3 : Bs 0 1 2 bs ws (G3.del G2.n) := by
    obtain ⟨xs, a, b, t, hl, h0, e⟩ := kn.d
    have dl : ∀ m, m ≠ G2.n → (G3.del G2.n).at_ m = G3.at_ m := fun m hm => by unfold GH.del; simp [hm]
    exact ⟨⟨xs, a, b, t, hl, h0, by rw [dl 0 (by omega)]; exact e⟩, b2.a, ⟨by show _ < G3.n; omega, by show _ < G3.n; omega, by show _ < G3.n; omega⟩, by rw [dl 1 (by omega)]; exact kn.b, by rw [dl 2 (by omega)]; exact kn.w⟩
  have fz := frz_at kn.k
  obtain ⟨ρ', G4, e4, t', z7, y8, y9, y10, y11, rfl, b4⟩ := for_inv (t := tgName 6) (b := t_law_10) (fun ρ G => ∃ t z7 y8 y9 y10 y11, ρ = [some (.lst (ns.map W.int)), some (.ref 0), some (.ref 1), some (.ref 2), y4, some (.lst (fs.map Ft.w)), t, z7, y8, y9, y10, y11] ∧ Bs 0 1 2 bs ws G) (rngW 0 4)
    (fun w mw ρ G ⟨t, z7, y8, y9, y10, y11, e, b⟩ => by
      subst e
      obtain ⟨G', v8, v9, v10, v11, e5, b'⟩ := ask_turn wd b g hl (sc := some (.lst (ns.map W.int))) (k := y4) (t := some w) (x7 := z7) (xa := y8) (xb := y9) (xp := y10) (xw := y11)
      exact ⟨_, _, _, _, rfl, .inl e5, some w, z7, v8, v9, v10, v11, rfl, b'⟩)
    _ _ ⟨none, y7, none, none, none, none, rfl, b3⟩
  have sm4 : small62 4 = true := by decide
  have en : (G0.push (.lst [.lst (ns.map .int), .int 0, .int 0, .int 0])).n = 1 := rfl
  have en2 : ((G0.push (.lst [.lst (ns.map .int), .int 0, .int 0, .int 0])).push (.lst [])).n = 2 := rfl
  have en0 : G0.n = 0 := rfl
  simp only [en0] at e0
  simp [e0, lens, en0]
  simp [e1, sm, e2, e3, fz, sm4, e4]
end Lw

set_option Elab.async false
set_option linter.all false
set_option maxRecDepth 100000
namespace Lw
open PySem PySem.Spec PyProof.Rows L2 Fn
theorem fin {l : PySem.W.OpenLaw} {w : World} {K : PySem.W.Frag} {h : Heap} {mg : Str → Option Value} {fa : Addr} (X : K.In h) (G : h.Ns mainGlobals mg) (hfa : mg "law" = some (.ref fa)) (hT : ∃ T : Tx K mg, T.a_law = fa) :
    ∃ fd : FuncData, (∀ (s : Shared) (v : Value), BindsTo s fd ⟨[v], []⟩ [("script", v)]) ∧ ∀ base : Heap, K.In base → base.Ns mainGlobals mg → FnOk l.prog w K mg base CX0 7 fa fd ["script"] (spLaw K) := by
  obtain ⟨T, rfl⟩ := hT
  exact ⟨T.d_law, law_binds T.F_law (fun _ _ _ _ _ _ _ => rfl), fun base _ _ => (ok_law (cls := fun _ => 0) T).imp (law_end law_true)⟩
end Lw
open PySem PySem.W PyProof.Rows
set_option maxHeartbeats 0 in
theorem PySem.Challenge.cw_swornlike_k44_tests_settled_by_what_is_k_holds : PySem.Challenge.rw_swornlike_k44_tests_settled_by_what_is_k.Holds := by
  w_on; o_law; k_head; (case hw => w_witness2)
  k_fill
  refine L2.walk_of (l := PySem.Challenge.rw_swornlike_k44_tests_settled_by_what_is_k) (n := 63) (k := 7) (x := "script") (CX := fun _ => L2.CX0) (sp := fun w => Fn.spLaw _) rfl (by decide) rfl ⟨rfl, by decide, by decide⟩ (fun w h Y => PySem.W.kIn_of Y) ?F (fun _ _ a ns hl _ hS => ⟨a, ns, rfl, hS, hl, fun _ => rfl⟩) (fun _ _ _ _ _ h => h)
  case F =>
    intro w mg fa h KX G hmg
    refine' Lw.fin KX G hmg (Lw.all_mk KX G hmg ?a0 ?l0 ?c0 ?k0 ?a1 ?l1 ?c1 ?k1 ?a2 ?l2 ?c2 ?k2 ?a3 ?l3 ?c3 ?k3 ?a4 ?l4 ?c4 ?k4 ?a5 ?l5 ?c5 ?k5 ?a6 ?l6 ?c6 ?k6 ?a7 ?l7 ?c7 ?k7 ?a8 ?l8 ?c8 ?k8 ?a9 ?l9 ?c9 ?k9 ?a10 ?l10 ?c10 ?k10 ?a11 ?l11 ?c11 ?k11 ?a12 ?l12 ?c12 ?k12 ?a13 ?l13 ?c13 ?k13 ?a14 ?l14 ?c14 ?k14 ?a15 ?l15 ?c15 ?k15 ?a16 ?l16 ?c16 ?k16 ?z0 ?z1 ?z2 ?z3 ?z4 ?z5 ?z6 ?z7)
    (case a0 => k_is); (case a1 => k_is); (case a2 => k_is); (case a3 => k_is); (case a4 => k_is); (case a5 => k_is); (case a6 => k_is); (case a7 => k_is); (case a8 => k_is); (case a9 => k_is); (case a10 => k_is); (case a11 => k_is); (case a12 => k_is); (case a13 => k_is); (case a14 => k_is); (case a15 => k_is); (case a16 => k_is); (case l0 => k_is); (case l1 => k_is); (case l2 => k_is); (case l3 => k_is); (case l4 => k_is); (case l5 => k_is); (case l6 => k_is); (case l7 => k_is); (case l8 => k_is); (case l9 => k_is); (case l10 => k_is); (case l11 => k_is); (case l12 => k_is); (case l13 => k_is); (case l14 => k_is); (case l15 => k_is); (case l16 => k_is); (case c0 => k_is); (case c1 => k_is); (case c2 => k_is); (case c3 => k_is); (case c4 => k_is); (case c5 => k_is); (case c6 => k_is); (case c7 => k_is); (case c8 => k_is); (case c9 => k_is); (case c10 => k_is); (case c11 => k_is); (case c12 => k_is); (case c13 => k_is); (case c14 => k_is); (case c15 => k_is); (case c16 => k_is); (case k0 => k_is); (case k1 => k_is); (case k2 => k_is); (case k3 => k_is); (case k4 => k_is); (case k5 => k_is); (case k6 => k_is); (case k7 => k_is); (case k8 => k_is); (case k9 => k_is); (case k10 => k_is); (case k11 => k_is); (case k12 => k_is); (case k13 => k_is); (case k14 => k_is); (case k15 => k_is); (case k16 => k_is); (case z0 => k_is); (case z1 => k_is); (case z2 => k_is); (case z3 => k_is); (case z4 => k_is); (case z5 => k_is); (case z6 => k_is); (case z7 => k_is)
