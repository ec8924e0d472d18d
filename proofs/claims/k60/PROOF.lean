import PyProof.Rows.All
import Wide.All
import OpenK.AllK
import Wide.FinOn
import HandS.ForMost
import HandS.Defaults
import HandS.Wide
import HandS.Strs
import HandS.SetFor
import HandS.SortInts
import HandS.IsInst
import HandS.Deep
import HandS.TupLe
import HandS.TupAny
import HandS.Conv
import HandS.Rev
import HandS.Zip
import KE.KTupSum
import HandS.Style
import HandS.Small
import KE.KStateDown
import HandS.Head0
import HandS.Head1
import HandS.Head2
import HandS.HeadEnd
import HandS.HeadHook1
import HandS.HeadHook2
import PySem.Challenge.RW_setsadded_k60_whole_greatest_clocks_for
set_option Elab.async false
set_option linter.all false
set_option maxRecDepth 100000
set_option maxHeartbeats 4000000
namespace L2.Pz
set_option autoImplicit false
open PySem PySem.Spec PyProof.Rows L2

/-! ## Pz0: values without addresses, how they lie in the abstract heap -/
/-- a Python value as data: lists, dicts and sets by what they hold -/
inductive PV where
  | non | bl (b : Bool) | int (i : Int) | str (s : Str)
  | tup (xs : List PV) | lst (xs : List PV) | scr (xs : List Int) | rng (lo hi : Int)
  | dk (kvs : List (Key × PV)) | dt (kvs : List (List Key × PV))
  | set (xs : List Int)
instance : Inhabited PV := ⟨.non⟩

abbrev Ad := Addr → Prop
/-- the written part, the world -/
structure Gw where
  K : PySem.W.Frag
  w : World
/-- a tuple, a list of ints of the written part -/
def KT (K : PySem.W.Frag) (a : Addr) (xs : List V) : Prop := ∃ (o : Obj) (its : Array Value) (n : Nat), K.lookup a = some o ∧ o.cls = .type "tuple" ∧ o.data = .seq its n ∧ its.size ≤ sizeLine ∧ Vals xs its.toList
def KL (K : PySem.W.Frag) (a : Addr) (xs : List V) : Prop := ∃ (o : Obj) (its : Array Value) (n : Nat), K.lookup a = some o ∧ o.cls = .type "list" ∧ o.dict = none ∧ o.data = .seq its n ∧ its.size ≤ sizeLine ∧ Vals xs its.toList
/-- the set of ints -/
def SetIs (xs : List Int) (S : Int → Bool) (n : Nat) : Prop := xs.Nodup ∧ n = xs.length ∧ ∀ i, S i = xs.contains i

mutual
/-- v lies in the frozen part F of H and is the data -/
inductive RepV (g : Gw) (F : Ad) (H : Hp) : PV → V → Prop
  | non : RepV g F H .non .non
  | bl (b : Bool) : RepV g F H (.bl b) (.bl b)
  | int (i : Int) : RepV g F H (.int i) (.int i)
  | str (s : Str) : RepV g F H (.str s) (.str s)
  | tup {a : Addr} {xs : List PV} {vs : List V} : F a → H a = some (.tup vs) → RepL g F H xs vs → RepV g F H (.tup xs) (.ref a)
  | scr {a : Addr} {xs : List Int} : F a → Rd H a (.lst (xs.map V.int)) → RepV g F H (.scr xs) (.ref a)
  | scrK {a : Addr} {xs : List Int} : KL g.K a (xs.map V.int) → RepV g F H (.scr xs) (.ref a)
  | rng {a : Addr} {lo hi : Int} : F a → H a = some (.rng lo hi) → RepV g F H (.rng lo hi) (.ref a)
  | lst {a : Addr} {xs : List PV} {vs : List V} : F a → H a = some (.lst vs) → RepL g F H xs vs → RepV g F H (.lst xs) (.ref a)
  | dk {a : Addr} {ps : List (Key × PV)} {vs : List (Key × V)} : F a → H a = some (.dK vs) → RepK g F H ps vs → RepV g F H (.dk ps) (.ref a)
  | dt {a : Addr} {ps : List (List Key × PV)} {vs : List (List Key × V)} : F a → H a = some (.dT vs) → RepT g F H ps vs → RepV g F H (.dt ps) (.ref a)
  | set {a : Addr} {xs : List Int} {S : Int → Bool} {n : Nat} : F a → H a = some (SetO g.w a S n) → SetIs xs S n → RepV g F H (.set xs) (.ref a)
inductive RepL (g : Gw) (F : Ad) (H : Hp) : List PV → List V → Prop
  | nil : RepL g F H [] []
  | cons {x : PV} {v : V} {xs : List PV} {vs : List V} : RepV g F H x v → RepL g F H xs vs → RepL g F H (x :: xs) (v :: vs)
inductive RepK (g : Gw) (F : Ad) (H : Hp) : List (Key × PV) → List (Key × V) → Prop
  | nil : RepK g F H [] []
  | cons {k : Key} {x : PV} {v : V} {xs : List (Key × PV)} {vs : List (Key × V)} : RepV g F H x v → RepK g F H xs vs → RepK g F H ((k, x) :: xs) ((k, v) :: vs)
inductive RepT (g : Gw) (F : Ad) (H : Hp) : List (List Key × PV) → List (List Key × V) → Prop
  | nil : RepT g F H [] []
  | cons {k : List Key} {x : PV} {v : V} {xs : List (List Key × PV)} {vs : List (List Key × V)} : RepV g F H x v → RepT g F H xs vs → RepT g F H ((k, x) :: xs) ((k, v) :: vs)
end

/-- the content of the one object at a -/
inductive RepC (g : Gw) (F : Ad) (H : Hp) (a : Addr) : PV → Prop
  | lst {xs : List PV} {vs : List V} : H a = some (.lst vs) → RepL g F H xs vs → RepC g F H a (.lst xs)
  | dk {ps : List (Key × PV)} {vs : List (Key × V)} : H a = some (.dK vs) → RepK g F H ps vs → RepC g F H a (.dk ps)
  | dt {ps : List (List Key × PV)} {vs : List (List Key × V)} : H a = some (.dT vs) → RepT g F H ps vs → RepC g F H a (.dt ps)
  | set {xs : List Int} {S : Int → Bool} {n : Nat} : H a = some (SetO g.w a S n) → SetIs xs S n → RepC g F H a (.set xs)

/-- what is kept between two moments: F frozen, O owned (may change) -/
structure Ext (F : Ad) (H : Hp) (O : Ad) (F' : Ad) (H' : Hp) (O' : Ad) : Prop where
  keep : ∀ a o, H a = some o → ¬ O a → H' a = some o
  dom : ∀ a, H' a = none → H a = none
  mono : ∀ a, F a → F' a
  newF : ∀ a, F' a → F a ∨ O a ∨ H a = none
  newO : ∀ a, O' a → O a ∨ H a = none

theorem Ext.refl {F : Ad} {H : Hp} {O : Ad} : Ext F H O F H O := ⟨fun _ _ e _ => e, fun _ e => e, fun _ h => h, fun _ h => .inl h, fun _ h => .inl h⟩
theorem Ext.trans {F F1 F2 : Ad} {H H1 H2 : Hp} {O O1 O2 : Ad} (a : Ext F H O F1 H1 O1) (b : Ext F1 H1 O1 F2 H2 O2) (hF : ∀ x, F x → H x ≠ none) : Ext F H O F2 H2 O2 where
  keep := fun x o e n => b.keep x o (a.keep x o e n) fun q => (a.newO x q).elim n fun z => by rw [e] at z; cases z
  dom := fun x e => a.dom x (b.dom x e)
  mono := fun x h => b.mono x (a.mono x h)
  newF := fun x h => by
    rcases b.newF x h with h | h | h
    · exact a.newF x h
    · exact .inr (a.newO x h)
    · exact .inr (.inr (a.dom x h))
  newO := fun x h => by
    rcases b.newO x h with h | h
    · exact a.newO x h
    · exact .inr (a.dom x h)
theorem Ext.sub {F F1 : Ad} {H H1 : Hp} {O O1 O2 : Ad} (a : Ext F H O F1 H1 O1) (h : ∀ x, O2 x → O1 x) : Ext F H O F1 H1 O2 := ⟨a.keep, a.dom, a.mono, a.newF, fun x q => a.newO x (h x q)⟩
/-- more may be owned at the start -/
theorem Ext.wid {F F1 : Ad} {H H1 : Hp} {O O1 O2 : Ad} (a : Ext F H O F1 H1 O1) (h : ∀ x, O x → O2 x) : Ext F H O2 F1 H1 O1 :=
  ⟨fun x o e n => a.keep x o e fun q => n (h x q), a.dom, a.mono, fun x q => (a.newF x q).imp id fun z => z.imp (h x) id, fun x q => (a.newO x q).imp (h x) id⟩

theorem rdK {H H' : Hp} {a : Addr} {u : HO} (r : Rd H a u) (k : ∀ o, H a = some o → H' a = some o) : Rd H' a u := by
  rcases r with r | ⟨o, r⟩
  · exact .inl (k _ r)
  · exact .inr ⟨o, k _ r⟩
theorem rdD {H : Hp} {a : Addr} {u : HO} (r : Rd H a u) : H a ≠ none := by
  rcases r with r | ⟨o, r⟩ <;> rw [r] <;> exact fun h => nomatch h

mutual
theorem RepV.mono {g : Gw} {F F' : Ad} {H H' : Hp} (hF : ∀ a, F a → F' a) (k : ∀ a o, F a → H a = some o → H' a = some o) : ∀ {x : PV} {v : V}, RepV g F H x v → RepV g F' H' x v
  | _, _, .non => .non
  | _, _, .bl b => .bl b
  | _, _, .int i => .int i
  | _, _, .str s => .str s
  | _, _, .tup h r l => .tup (hF _ h) (k _ _ h r) (RepL.mono hF k l)
  | _, _, .scr h r => .scr (hF _ h) (rdK r fun o => k _ o h)
  | _, _, .scrK h => .scrK h
  | _, _, .rng h r => .rng (hF _ h) (k _ _ h r)
  | _, _, .lst h r l => .lst (hF _ h) (k _ _ h r) (RepL.mono hF k l)
  | _, _, .dk h r l => .dk (hF _ h) (k _ _ h r) (RepK.mono hF k l)
  | _, _, .dt h r l => .dt (hF _ h) (k _ _ h r) (RepT.mono hF k l)
  | _, _, .set h r l => .set (hF _ h) (k _ _ h r) l
theorem RepL.mono {g : Gw} {F F' : Ad} {H H' : Hp} (hF : ∀ a, F a → F' a) (k : ∀ a o, F a → H a = some o → H' a = some o) : ∀ {xs : List PV} {vs : List V}, RepL g F H xs vs → RepL g F' H' xs vs
  | _, _, .nil => .nil
  | _, _, .cons a b => .cons (RepV.mono hF k a) (RepL.mono hF k b)
theorem RepK.mono {g : Gw} {F F' : Ad} {H H' : Hp} (hF : ∀ a, F a → F' a) (k : ∀ a o, F a → H a = some o → H' a = some o) : ∀ {xs : List (Key × PV)} {vs : List (Key × V)}, RepK g F H xs vs → RepK g F' H' xs vs
  | _, _, .nil => .nil
  | _, _, .cons a b => .cons (RepV.mono hF k a) (RepK.mono hF k b)
theorem RepT.mono {g : Gw} {F F' : Ad} {H H' : Hp} (hF : ∀ a, F a → F' a) (k : ∀ a o, F a → H a = some o → H' a = some o) : ∀ {xs : List (List Key × PV)} {vs : List (List Key × V)}, RepT g F H xs vs → RepT g F' H' xs vs
  | _, _, .nil => .nil
  | _, _, .cons a b => .cons (RepV.mono hF k a) (RepT.mono hF k b)
end
theorem RepC.mono {g : Gw} {F F' : Ad} {H H' : Hp} {a : Addr} (hF : ∀ a, F a → F' a) (k : ∀ a o, F a → H a = some o → H' a = some o) (ha : ∀ o, H a = some o → H' a = some o) : ∀ {x : PV}, RepC g F H a x → RepC g F' H' a x
  | _, .lst e l => .lst (ha _ e) (l.mono hF k)
  | _, .dk e l => .dk (ha _ e) (l.mono hF k)
  | _, .dt e l => .dt (ha _ e) (l.mono hF k)
  | _, .set e l => .set (ha _ e) l
/-- an object becomes frozen -/
theorem RepC.freeze {g : Gw} {F : Ad} {H : Hp} {a : Addr} : ∀ {x : PV}, RepC g F H a x → RepV g (fun b => F b ∨ b = a) H x (.ref a)
  | _, .lst e l => .lst (.inr rfl) e (l.mono (fun _ h => .inl h) fun _ _ _ e => e)
  | _, .dk e l => .dk (.inr rfl) e (l.mono (fun _ h => .inl h) fun _ _ _ e => e)
  | _, .dt e l => .dt (.inr rfl) e (l.mono (fun _ h => .inl h) fun _ _ _ e => e)
  | _, .set e l => .set (.inr rfl) e l
theorem RepC.dom {g : Gw} {F : Ad} {H : Hp} {a : Addr} : ∀ {x : PV}, RepC g F H a x → H a ≠ none
  | _, .lst e _ => by rw [e]; exact fun h => nomatch h
  | _, .dk e _ => by rw [e]; exact fun h => nomatch h
  | _, .dt e _ => by rw [e]; exact fun h => nomatch h
  | _, .set e _ => by rw [e]; exact fun h => nomatch h

/-! ### slots -/
/-- frozen; owned; only read; owned, while a loop walks it -/
inductive Kd where | fz | own | ro | lk
  deriving DecidableEq
structure Slot where
  v : PV
  k : Kd
abbrev En := List (Option Slot)
/-- the slot i holds s -/
abbrev En.at (env : En) (i : Nat) (s : Slot) : Prop := env[i]? = some (some s)
def Own (σ : St) (env : En) : Ad := fun a => ∃ (i : Nat) (x : PV), env[i]? = some (some ⟨x, .own⟩) ∧ σ[i]? = some (some (.ref a))
def RepS (g : Gw) (F : Ad) (H : Hp) (s : Slot) (v : V) : Prop := match s.k with
  | .fz => RepV g F H s.v v
  | .own => ∃ a, v = .ref a ∧ ¬ F a ∧ RepC g F H a s.v
  | .ro => RepV g F H s.v v ∨ ∃ a, v = .ref a ∧ RepC g F H a s.v
  | .lk => ∃ a, v = .ref a ∧ ¬ F a ∧ RepC g F H a s.v
/-- no other name stands for the object -/
def Kd.ex : Kd → Bool
  | .own | .lk => true
  | _ => false
structure Rep (g : Gw) (F : Ad) (H : Hp) (σ : St) (env : En) : Prop where
  len : σ.length = env.length
  slot : ∀ (i : Nat) (s : Slot), env[i]? = some (some s) → ∃ v, σ[i]? = some (some v) ∧ RepS g F H s v
  sep : ∀ (i j : Nat) (x : Slot) (s : Slot) (a : Addr), i ≠ j → env[i]? = some (some x) → x.k.ex = true → env[j]? = some (some s) → s.k ≠ .fz → σ[i]? = some (some (.ref a)) → σ[j]? = some (some (.ref a)) → RepV g F H s.v (.ref a)
  dom : ∀ a, F a → H a ≠ none

theorem Rep.ownF {g : Gw} {F : Ad} {H : Hp} {σ : St} {env : En} (R : Rep g F H σ env) {a : Addr} (h : Own σ env a) : ¬ F a := by
  obtain ⟨i, x, e, es⟩ := h
  obtain ⟨v, ev, b, rfl, nf, _⟩ := R.slot i _ e
  rw [es] at ev; cases ev
  exact nf
theorem Rep.ownDom {g : Gw} {F : Ad} {H : Hp} {σ : St} {env : En} (R : Rep g F H σ env) {a : Addr} (h : Own σ env a) : H a ≠ none := by
  obtain ⟨i, x, e, es⟩ := h
  obtain ⟨v, ev, b, rfl, nf, c⟩ := R.slot i _ e
  rw [es] at ev; cases ev
  exact c.dom
/-- frozen data stays through an Ext -/
theorem Ext.fr {F F' : Ad} {H H' : Hp} {O O' : Ad} (x : Ext F H O F' H' O') (n : ∀ a, O a → ¬ F a) : ∀ a o, F a → H a = some o → H' a = some o := fun a o h e => x.keep a o e fun q => n a q h
theorem RepV.ext {g : Gw} {F F' : Ad} {H H' : Hp} {O O' : Ad} {p : PV} {v : V} (r : RepV g F H p v) (x : Ext F H O F' H' O') (n : ∀ a, O a → ¬ F a) : RepV g F' H' p v := r.mono x.mono (x.fr n)
theorem RepL.ext {g : Gw} {F F' : Ad} {H H' : Hp} {O O' : Ad} {p : List PV} {v : List V} (r : RepL g F H p v) (x : Ext F H O F' H' O') (n : ∀ a, O a → ¬ F a) : RepL g F' H' p v := r.mono x.mono (x.fr n)
theorem RepC.ext {g : Gw} {F F' : Ad} {H H' : Hp} {O O' : Ad} {a : Addr} {p : PV} (r : RepC g F H a p) (x : Ext F H O F' H' O') (n : ∀ a, O a → ¬ F a) (na : ¬ O a) : RepC g F' H' a p := r.mono x.mono (x.fr n) fun o e => x.keep a o e na

/-- how a value is read where it stands -/
def Peek (g : Gw) (F : Ad) (H : Hp) (p : PV) (v : V) : Prop := RepV g F H p v ∨ ∃ a, v = .ref a ∧ RepC g F H a p
inductive PeekL (g : Gw) (F : Ad) (H : Hp) : List PV → List V → Prop
  | nil : PeekL g F H [] []
  | cons {x : PV} {v : V} {xs : List PV} {vs : List V} : Peek g F H x v → PeekL g F H xs vs → PeekL g F H (x :: xs) (v :: vs)
theorem RepS.peek {g : Gw} {F : Ad} {H : Hp} {s : Slot} {v : V} (h : RepS g F H s v) : Peek g F H s.v v := by
  obtain ⟨p, k⟩ := s
  cases k with
  | fz => exact .inl h
  | own => obtain ⟨a, e, _, c⟩ := h; exact .inr ⟨a, e, c⟩
  | ro => exact h
  | lk => obtain ⟨a, e, _, c⟩ := h; exact .inr ⟨a, e, c⟩
theorem RepL.length {g : Gw} {F : Ad} {H : Hp} : ∀ {xs : List PV} {vs : List V}, RepL g F H xs vs → xs.length = vs.length
  | _, _, .nil => rfl
  | _, _, .cons _ t => congrArg Nat.succ t.length
theorem RepL.append {g : Gw} {F : Ad} {H : Hp} : ∀ {xs ys : List PV} {vs ws : List V}, RepL g F H xs vs → RepL g F H ys ws → RepL g F H (xs ++ ys) (vs ++ ws)
  | _, _, _, _, .nil, h => h
  | _, _, _, _, .cons a b, h => .cons a (b.append h)
theorem RepL.get {g : Gw} {F : Ad} {H : Hp} : ∀ {xs : List PV} {vs : List V} {i : Nat} {x : PV}, RepL g F H xs vs → xs[i]? = some x → ∃ v, vs[i]? = some v ∧ RepV g F H x v
  | _, _, 0, _, .cons a _, e => by cases e; exact ⟨_, rfl, a⟩
  | _, _, i + 1, x, .cons _ b, e => RepL.get (i := i) (x := x) b e
theorem RepL.drop {g : Gw} {F : Ad} {H : Hp} : ∀ {xs : List PV} {vs : List V} (n : Nat), RepL g F H xs vs → RepL g F H (xs.drop n) (vs.drop n)
  | _, _, 0, h => h
  | _, _, _ + 1, .nil => .nil
  | _, _, n + 1, .cons _ b => b.drop n
theorem RepL.take {g : Gw} {F : Ad} {H : Hp} : ∀ {xs : List PV} {vs : List V} (n : Nat), RepL g F H xs vs → RepL g F H (xs.take n) (vs.take n)
  | _, _, 0, _ => .nil
  | _, _, _ + 1, .nil => .nil
  | _, _, n + 1, .cons a b => .cons a (b.take n)
theorem RepL.set {g : Gw} {F : Ad} {H : Hp} {y : PV} {w : V} (h : RepV g F H y w) : ∀ {xs : List PV} {vs : List V} (n : Nat), RepL g F H xs vs → RepL g F H (xs.set n y) (vs.set n w)
  | _, _, _, .nil => .nil
  | _, _, 0, .cons _ b => .cons h b
  | _, _, n + 1, .cons a b => .cons a (b.set h n)
theorem RepL.rev {g : Gw} {F : Ad} {H : Hp} : ∀ {xs : List PV} {vs : List V}, RepL g F H xs vs → RepL g F H xs.reverse vs.reverse
  | _, _, .nil => .nil
  | _, _, .cons a b => by
    rw [List.reverse_cons, List.reverse_cons]
    exact b.rev.append (.cons a .nil)
theorem RepL.mapInt {g : Gw} {F : Ad} {H : Hp} : ∀ {xs : List Int}, RepL g F H (xs.map PV.int) (xs.map V.int)
  | [] => .nil
  | _ :: _ => .cons (.int _) RepL.mapInt
theorem RepL.ofInts {g : Gw} {F : Ad} {H : Hp} : ∀ {xs : List Int} {vs : List V}, RepL g F H (xs.map PV.int) vs → vs = xs.map V.int
  | [], _, .nil => rfl
  | x :: xs, _, .cons a b => by cases a; rw [b.ofInts]; rfl
theorem Peek.lst {g : Gw} {F : Ad} {H : Hp} {xs : List PV} {v : V} (h : Peek g F H (.lst xs) v) : ∃ a vs, v = .ref a ∧ H a = some (.lst vs) ∧ RepL g F H xs vs := by
  rcases h with h | ⟨a, rfl, h⟩
  · cases h with | lst f r l => exact ⟨_, _, rfl, r, l⟩
  · cases h with | lst e l => exact ⟨_, _, rfl, e, l⟩
theorem Peek.tup {g : Gw} {F : Ad} {H : Hp} {xs : List PV} {v : V} (h : Peek g F H (.tup xs) v) : ∃ a vs, v = .ref a ∧ H a = some (.tup vs) ∧ RepL g F H xs vs := by
  rcases h with h | ⟨a, rfl, h⟩
  · cases h with | tup f r l => exact ⟨_, _, rfl, r, l⟩
  · cases h
theorem Peek.scr {g : Gw} {F : Ad} {H : Hp} {xs : List Int} {v : V} (h : Peek g F H (.scr xs) v) : ∃ a, v = .ref a ∧ SqL g.K H a (xs.map V.int) := by
  rcases h with h | ⟨a, rfl, h⟩
  · cases h with
    | scr f r => exact ⟨_, rfl, .inl r⟩
    | scrK k => exact ⟨_, rfl, .inr k⟩
  · cases h
theorem Peek.rng {g : Gw} {F : Ad} {H : Hp} {lo hi : Int} {v : V} (h : Peek g F H (.rng lo hi) v) : ∃ a, v = .ref a ∧ H a = some (.rng lo hi) := by
  rcases h with h | ⟨a, rfl, h⟩
  · cases h with | rng f r => exact ⟨_, rfl, r⟩
  · cases h
theorem Peek.dk {g : Gw} {F : Ad} {H : Hp} {xs : List (Key × PV)} {v : V} (h : Peek g F H (.dk xs) v) : ∃ a vs, v = .ref a ∧ H a = some (.dK vs) ∧ RepK g F H xs vs := by
  rcases h with h | ⟨a, rfl, h⟩
  · cases h with | dk f r l => exact ⟨_, _, rfl, r, l⟩
  · cases h with | dk e l => exact ⟨_, _, rfl, e, l⟩
theorem Peek.dt {g : Gw} {F : Ad} {H : Hp} {xs : List (List Key × PV)} {v : V} (h : Peek g F H (.dt xs) v) : ∃ a vs, v = .ref a ∧ H a = some (.dT vs) ∧ RepT g F H xs vs := by
  rcases h with h | ⟨a, rfl, h⟩
  · cases h with | dt f r l => exact ⟨_, _, rfl, r, l⟩
  · cases h with | dt e l => exact ⟨_, _, rfl, e, l⟩
theorem Peek.set {g : Gw} {F : Ad} {H : Hp} {xs : List Int} {v : V} (h : Peek g F H (.set xs) v) : ∃ a S n, v = .ref a ∧ H a = some (SetO g.w a S n) ∧ SetIs xs S n := by
  rcases h with h | ⟨a, rfl, h⟩
  · cases h with | set f r l => exact ⟨_, _, _, rfl, r, l⟩
  · cases h with | set e l => exact ⟨_, _, _, rfl, e, l⟩
theorem Peek.int {g : Gw} {F : Ad} {H : Hp} {i : Int} {v : V} (h : Peek g F H (.int i) v) : v = .int i := by
  rcases h with h | ⟨a, rfl, h⟩
  · cases h; rfl
  · cases h
theorem Peek.bl {g : Gw} {F : Ad} {H : Hp} {i : Bool} {v : V} (h : Peek g F H (.bl i) v) : v = .bl i := by
  rcases h with h | ⟨a, rfl, h⟩
  · cases h; rfl
  · cases h
theorem Peek.str {g : Gw} {F : Ad} {H : Hp} {i : Str} {v : V} (h : Peek g F H (.str i) v) : v = .str i := by
  rcases h with h | ⟨a, rfl, h⟩
  · cases h; rfl
  · cases h
theorem Peek.non {g : Gw} {F : Ad} {H : Hp} {v : V} (h : Peek g F H .non v) : v = .non := by
  rcases h with h | ⟨a, rfl, h⟩
  · cases h; rfl
  · cases h
/-- what cannot change -/
def PV.imm : PV → Bool
  | .non | .bl _ | .int _ | .str _ | .tup _ | .scr _ | .rng _ _ => true
  | _ => false
theorem Peek.imm {g : Gw} {F : Ad} {H : Hp} {p : PV} {v : V} (h : Peek g F H p v) (i : p.imm = true) : RepV g F H p v := by
  rcases h with h | ⟨a, rfl, h⟩
  · exact h
  · cases h <;> cases i
end L2.Pz
set_option Elab.async false
set_option linter.all false
set_option maxRecDepth 100000
set_option maxHeartbeats 4000000
namespace L2.Pz
set_option autoImplicit false
open PySem PySem.Spec PyProof.Rows L2

/-! ## Pz1: code without places, its pure meaning -/
inductive Bop where | add | sub | mul | fdiv | mod | pow | band | bor | bxor | shl | shr
  deriving DecidableEq
inductive Uop where | neg | inv
  deriving DecidableEq
inductive Cop where | eq | ne | lt | le | gt | ge | inn | nin | is_ | isn
  deriving DecidableEq
inductive Ty where | int | bool | str | tuple | list | dict
  deriving DecidableEq
/-- built-in functions of values -/
inductive Bi where | len | sum | min | max | abs | all | any | sorted | set | tuple | list | dict | int | str | bool | range | zip | enumerate | reversed
  deriving DecidableEq
/-- methods that only read -/
inductive Mt where | get | items | values | index | count | join | split | find | keys
  deriving DecidableEq
/-- methods that change the object of a name -/
inductive Mm where | append | pop | update | setdefault | add
  deriving DecidableEq
/-- targets of for and of comprehensions -/
inductive Tg where | one (i : Nat) | many (is : List Nat)
  deriving DecidableEq
def Tg.slots : Tg → List Nat
  | .one i => [i]
  | .many is => is
inductive E where
  | con (c : PV) | var (i : Nat) | glo (x : Str) (c : PV)
  | bin (o : Bop) (a b : E) | un (o : Uop) (a : E)
  | cmp (o : Cop) (a b : E) | cmp2 (o p : Cop) (a b c : E)
  | and (a b : E) | or (a b : E) | not (a : E) | ite (c a b : E)
  | tup (es : List E) | lst (es : List E) | dnk | dnt
  | idx (a i : E) | slc (a : E) (lo hi : List E) | rev (a : E)
  | isi (t : Ty) (a : E)
  | call (f : Nat) (es : List E)
  | bi (b : Bi) (es : List E)
  | met (m : Mt) (o : E) (es : List E)
  | mm (m : Mm) (i : Nat) (es : List E)
  | zip (a b : E) | enum (a : E) | rngI (es : List E)
  | lc (tg : Tg) (it : E) (ifs : List E) (elt : E)
  | lc2 (tg : Tg) (it : E) (ifs : List E) (tg1 : Tg) (it1 : E) (ifs1 : List E) (elt : E)
inductive S where
  | ex (e : E) | set (i : Nat) (e : E) | unp (is : List Nat) (e : E) | par (is : List Nat) (es : List E)
  | sti (i : Nat) (k e : E) | aug (i : Nat) (o : Bop) (e : E) | dli (i : Nat) (k : E)
  | ite (c : E) (a b : List S) | whl (c : E) (b : List S) | for_ (tg : Tg) (it : E) (b : List S)
  | ret (e : E) | retN | nev | pas
/-- how a parameter is taken: a value, only read, changed -/
inductive Md where | val | ro | mu
  deriving DecidableEq
structure Dfn where
  modes : List Md
  slots : Nat
  body : List S

/-! ### values -/
mutual
def PV.toD : PV → PyData
  | .non => .none
  | .bl b => .bool b
  | .int i => .int i
  | .str s => .str s
  | .tup xs => .tuple (toDs xs)
  | .lst xs => .list (toDs xs)
  | .scr xs => .list (xs.map PyData.int)
  | .rng _ _ | .dk _ | .dt _ | .set _ => .dict []
def toDs : List PV → List PyData
  | [] => []
  | x :: xs => x.toD :: toDs xs
end
/-- == as Python has it, on data -/
def eqP (a b : PV) : Bool := PyData.eqv a.toD b.toD
/-- data that == is known of -/
def okP (a : PV) : Bool := SeqAt.shaped a.toD
def toKey : PV → Option Key
  | .int i => some (.inl i)
  | .str s => some (.inr s)
  | _ => none
def toKeys : List PV → Option (List Key)
  | [] => some []
  | x :: xs => match toKey x, toKeys xs with
    | some k, some ks => some (k :: ks)
    | _, _ => none
def asInts : List PV → Option (List Int)
  | [] => some []
  | .int i :: xs => (asInts xs).map (i :: ·)
  | _ :: _ => none
def asBools : List PV → Option (List Bool)
  | [] => some []
  | .bl i :: xs => (asBools xs).map (i :: ·)
  | _ :: _ => none
def lookP {κ : Type} [DecidableEq κ] : List (κ × PV) → κ → Option PV
  | [], _ => none
  | (k, x) :: r, j => if k = j then some x else lookP r j
def putP {κ : Type} [DecidableEq κ] (kvs : List (κ × PV)) (k : κ) (y : PV) : List (κ × PV) :=
  if (kvs.any fun kv => decide (kv.1 = k)) = true then kvs.map (fun kv => if kv.1 = k then (kv.1, y) else kv) else kvs ++ [(k, y)]
def ins (x : Int) : List Int → List Int
  | [] => [x]
  | y :: r => if x ≤ y then x :: y :: r else y :: ins x r
def isort : List Int → List Int
  | [] => []
  | x :: r => ins x (isort r)
def dedup : List Int → List Int
  | [] => []
  | x :: r => if (dedup r).contains x then dedup r else x :: dedup r
def maxL : Int → List Int → Int
  | m, [] => m
  | m, x :: r => maxL (if m < x then x else m) r
def minL : Int → List Int → Int
  | m, [] => m
  | m, x :: r => minL (if x < m then x else m) r
def lexI : List Int → List Int → Bool
  | [], [] => false
  | [], _ :: _ => true
  | _ :: _, [] => false
  | x :: xs, y :: ys => if x = y then lexI xs ys else decide (x < y)
/-- the ints lo, lo + 1, .. -/
def upto (lo : Int) : Nat → List Int
  | 0 => []
  | n + 1 => lo :: upto (lo + 1) n
def rngL (lo hi : Int) : List Int := upto lo (hi - lo).toNat
def rng3L (lo hi st : Int) : List Int := (List.range ((hi - lo + st - 1) / st).toNat).map fun (k : Nat) => lo + st * (k : Int)
abbrev Rv := PV × Bool
def inB (i : Int) : Bool := decide (-(2 ^ 62) ≤ i) && decide (i < 2 ^ 62)
def mulOk (i j : Int) : Bool := decide (i.natAbs.log2 + j.natAbs.log2 < 1000000) || (decide (-(2 ^ 64) < i) && decide (i < 2 ^ 64)) || (decide (-(2 ^ 64) < j) && decide (j < 2 ^ 64))
def powOk (i j : Int) : Bool := decide (0 ≤ j) && decide (j ≤ 1000000) && decide (i.natAbs < 2 ^ 64)
def addF : PV → PV → Option Rv
  | .int i, .int j => some (.int (i + j), false)
  | .int i, .bl j => some (.int (i + b2i j), false)
  | .str i, .str j => if i.length + j.length ≤ sizeLine then some (.str (i ++ j), false) else none
  | .lst i, .lst j => if i.length + j.length ≤ sizeLine then some (.lst (i ++ j), true) else none
  | .tup i, .tup j => if i.length + j.length ≤ sizeLine then some (.tup (i ++ j), false) else none
  | _, _ => none
def mulF : PV → PV → Option Rv
  | .int i, .int j => if mulOk i j = true then some (.int (i * j), false) else none
  | .lst i, .int j => if inB j = true ∧ i.length * j.toNat ≤ sizeLine then some (.lst (List.replicate j.toNat i).flatten, true) else none
  | _, _ => none
/-- an int operation -/
def intF (c : Int → Int → Bool) (f : Int → Int → Int) : PV → PV → Option Rv
  | .int i, .int j => if c i j = true then some (.int (f i j), false) else none
  | _, _ => none
def binF : Bop → PV → PV → Option Rv
  | .add => addF
  | .mul => mulF
  | .sub => intF (fun _ _ => true) fun i j => i - j
  | .fdiv => intF (fun _ j => decide (0 < j) && decide (j.natAbs.log2 < 9000)) fun i j => i / j
  | .mod => intF (fun _ j => decide (0 < j)) fun i j => i % j
  | .pow => intF powOk fun i j => i ^ j.toNat
  | .band => intF (fun _ _ => true) Builtin.bitAnd
  | .bor => intF (fun _ _ => true) Builtin.bitOr
  | .bxor => intF (fun _ _ => true) Builtin.bitXor
  | .shl => intF powOk fun i j => i * 2 ^ j.toNat
  | .shr => intF (fun _ j => decide (0 ≤ j)) fun i j => i / 2 ^ j.toNat
def unF : Uop → PV → Option PV
  | .neg, .int i => some (.int (-i))
  | .inv, .int i => some (.int (Builtin.bitNot i))
  | _, _ => none
def inF (x : PV) : PV → Option Bool
  | .lst ys => if okP x = true ∧ okP (.lst ys) = true then some (ys.any fun y => eqP y x) else none
  | .tup ys => if okP x = true ∧ okP (.tup ys) = true then some (ys.any fun y => eqP y x) else none
  | .dk kvs => (toKey x).map fun k => (lookP kvs k).isSome
  | .dt kvs => match x with
    | .tup ys => (toKeys ys).map fun k => (lookP kvs k).isSome
    | _ => none
  | .set xs => match x with
    | .int i => some (xs.contains i)
    | _ => none
  | _ => none
def PV.isNon : PV → Bool
  | .non => true
  | _ => false
def isF (a : PV) : PV → Option Bool
  | .non => some a.isNon
  | .bl k => match a with
    | .bl j => some (j == k)
    | _ => none
  | _ => none
def eqF (neg : Bool) (a b : PV) : Option Bool := if okP a = true ∧ okP b = true then some (neg != eqP a b) else none
def ltF : PV → PV → Option Bool
  | .int i, .int j => some (decide (i < j))
  | .tup xs, .tup ys => match asInts xs, asInts ys with
    | some ns, some ms => some (lexI ns ms)
    | _, _ => none
  | _, _ => none
def icF (f : Int → Int → Bool) : PV → PV → Option Bool
  | .int i, .int j => some (f i j)
  | _, _ => none
def cmpF : Cop → PV → PV → Option Bool
  | .eq => eqF false
  | .ne => eqF true
  | .lt => ltF
  | .le => icF fun i j => decide (i ≤ j)
  | .gt => icF fun i j => decide (j < i)
  | .ge => icF fun i j => decide (j ≤ i)
  | .inn => inF
  | .nin => fun a b => (inF a b).map (!·)
  | .is_ => isF
  | .isn => fun a b => (isF a b).map (!·)
def atP (xs : List PV) (i : Int) : Option PV := (L2.ixN xs.length i).bind fun j => xs[j]?
def idxF : PV → PV → Option PV
  | .lst xs, .int i => atP xs i
  | .tup xs, .int i => atP xs i
  | .dk kvs, k => (toKey k).bind fun k => lookP kvs k
  | .dt kvs, .tup ys => (toKeys ys).bind fun k => lookP kvs k
  | _, _ => none
def cutP (xs : List PV) (lo hi : Option Int) : List PV := (xs.drop (HT.sIx xs.length 0 lo)).take (HT.sIx xs.length xs.length hi - HT.sIx xs.length 0 lo)
def slcF : PV → Option Int → Option Int → Option Rv
  | .lst xs, lo, hi => some (.lst (cutP xs lo hi), true)
  | .tup xs, lo, hi => some (.tup (cutP xs lo hi), false)
  | _, _, _ => none
/-- a value's kind: 0 None, 1 bool, 2 int, 3 str, 4 tuple, 5 list, 6 dict -/
inductive Kn where | non | bool | int | str | tuple | list | dict | set
  deriving DecidableEq
def PV.kn : PV → Option Kn
  | .non => some .non
  | .bl _ => some .bool
  | .int _ => some .int
  | .str _ => some .str
  | .tup _ => some .tuple
  | .lst _ | .scr _ => some .list
  | .dk _ | .dt _ => some .dict
  | .set _ => some .set
  | .rng _ _ => none
def knIs : Ty → Kn → Bool
  | .int, .int | .int, .bool | .bool, .bool | .str, .str | .tuple, .tuple | .list, .list | .dict, .dict => true
  | _, _ => false
def isiF (t : Ty) (p : PV) : Option Rv := match p.kn with
  | some .set => none
  | some k => some (.bl (knIs t k), false)
  | none => none
def pairsK : List PV → Option (List (Key × PV))
  | [] => some []
  | .tup [k, v] :: r => match toKey k, pairsK r with
    | some k, some r => some ((k, v) :: r)
    | _, _ => none
  | _ :: _ => none
def putAllP {κ : Type} [DecidableEq κ] (d : List (κ × PV)) : List (κ × PV) → List (κ × PV)
  | [] => d
  | (k, v) :: r => putAllP (putP d k v) r
def ofKey : Key → PV
  | .inl i => .int i
  | .inr s => .str s
def lenF : List PV → Option Rv
  | [.lst xs] => some (.int xs.length, false)
  | [.tup xs] => some (.int xs.length, false)
  | [.dk xs] => some (.int xs.length, false)
  | [.set xs] => some (.int xs.length, false)
  | [.str s] => if s.length ≤ sizeLine then some (.int s.length, false) else none
  | _ => none
def seqInts : PV → Option (List Int)
  | .lst xs => asInts xs
  | .tup xs => asInts xs
  | _ => none
def sumF : List PV → Option Rv
  | [.lst xs] => (asInts xs).map fun ns => (.int ns.sum, false)
  | [.tup xs] => (asInts xs).map fun ns => (.int ns.sum, false)
  | _ => none
def minF : List PV → Option Rv
  | [.lst xs] => match asInts xs with
    | some (n :: ns) => some (.int (minL n ns), false)
    | _ => none
  | [.int i, .int j] => some (.int (if j < i then j else i), false)
  | _ => none
def maxF : List PV → Option Rv
  | [.lst xs] => match asInts xs with
    | some (n :: ns) => some (.int (maxL n ns), false)
    | _ => none
  | [.int i, .int j] => some (.int (if i < j then j else i), false)
  | _ => none
def absF : List PV → Option Rv
  | [.int i] => some (.int (if i < 0 then -i else i), false)
  | _ => none
def allF (f : List Bool → Bool) : List PV → Option Rv
  | [.lst xs] => (asBools xs).map fun bs => (.bl (f bs), false)
  | _ => none
def keyInts : List (Key × PV) → Option (List Int)
  | [] => some []
  | (.inl i, _) :: r => (keyInts r).map (i :: ·)
  | (.inr _, _) :: _ => none
def sortedF : List PV → Option Rv
  | [.lst xs] => (asInts xs).map fun ns => (.lst ((isort ns).map PV.int), true)
  | [.tup xs] => (asInts xs).map fun ns => (.lst ((isort ns).map PV.int), true)
  | [.set xs] => some (.lst ((isort xs).map PV.int), true)
  | [.dk kvs] => (keyInts kvs).map fun ns => (.lst ((isort ns).map PV.int), true)
  | _ => none
def setBi : List PV → Option Rv
  | [x] => match seqInts x with
    | some ns => if ns.length + 1 < scanBound then some (.set (dedup ns), true) else none
    | none => none
  | _ => none
def tupleF : List PV → Option Rv
  | [.lst xs] => some (.tup xs, false)
  | [.tup xs] => some (.tup xs, false)
  | [.rng lo hi] => if inB lo = true ∧ inB hi = true ∧ (hi - lo).toNat ≤ sizeLine then some (.tup ((rngL lo hi).map PV.int), false) else none
  | _ => none
def listF : List PV → Option Rv
  | [.lst xs] => some (.lst xs, true)
  | [.tup xs] => some (.lst xs, true)
  | [.scr xs] => some (.lst (xs.map PV.int), true)
  | [.rng lo hi] => if inB lo = true ∧ inB hi = true ∧ (hi - lo).toNat ≤ sizeLine then some (.lst ((rngL lo hi).map PV.int), true) else none
  | _ => none
def dictF : List PV → Option Rv
  | [.lst xs] => match pairsK xs with
    | some kvs => if kvs.length < sizeLine then some (.dk (putAllP [] kvs), true) else none
    | none => none
  | _ => none
def intBi : List PV → Option Rv
  | [.int i] => some (.int i, false)
  | _ => none
def rangeF : List PV → Option Rv
  | [.int j] => if inB j = true then some (.rng 0 j, false) else none
  | [.int i, .int j] => if inB i = true ∧ inB j = true then some (.rng i j, false) else none
  | _ => none
def biF : Bi → List PV → Option Rv
  | .len => lenF
  | .sum => sumF
  | .min => minF
  | .max => maxF
  | .abs => absF
  | .all => allF fun bs => bs.all id
  | .any => allF fun bs => bs.any id
  | .sorted => sortedF
  | .set => setBi
  | .tuple => tupleF
  | .list => listF
  | .dict => dictF
  | .int => intBi
  | .range => rangeF
  | _ => fun _ => none
def getF : PV → List PV → Option Rv
  | .dk kvs, [k] => (toKey k).map fun k => ((lookP kvs k).getD .non, false)
  | .dk kvs, [k, d] => if d.imm = true then (toKey k).map fun k => ((lookP kvs k).getD d, false) else none
  | .dt kvs, [.tup k, d] => if d.imm = true then (toKeys k).map fun k => ((lookP kvs k).getD d, false) else none
  | .dt kvs, [.tup k] => (toKeys k).map fun k => ((lookP kvs k).getD .non, false)
  | _, _ => none
def metF : Mt → PV → List PV → Option Rv
  | .get => getF
  | _ => fun _ _ => none
/-- the object's new content, what is returned -/
def appendF : PV → List PV → Option (PV × PV)
  | .lst xs, [y] => if xs.length < sizeLine then some (.lst (xs ++ [y]), .non) else none
  | _, _ => none
def popF : PV → List PV → Option (PV × PV)
  | .lst xs, [] => match xs.getLast? with
    | some y => some (.lst xs.dropLast, y)
    | none => none
  | .lst xs, [.int i] => if inB i = true then (match L2.ixN xs.length i with
    | some j => match xs[j]? with
      | some y => some (.lst (xs.eraseIdx j), y)
      | none => none
    | none => none) else none
  | _, _ => none
def mutF : Mm → PV → List PV → Option (PV × PV)
  | .append => appendF
  | .pop => popF
  | _ => fun _ _ => none
def setF : PV → PV → PV → Option PV
  | .lst xs, .int i, y => (L2.ixN xs.length i).map fun j => .lst (xs.set j y)
  | .dk kvs, k, y => match toKey k with
    | some k => if kvs.length < sizeLine then some (.dk (putP kvs k y)) else none
    | none => none
  | .dt kvs, .tup k, y => match toKeys k with
    | some k => if kvs.length < sizeLine then some (.dt (putP kvs k y)) else none
    | none => none
  | _, _, _ => none

/-! ### operands -/
inductive Opd where
  | sl (i : Nat) | vl (p : PV) (fresh : Bool) | wk (xs : List PV) (ls : List Nat)
def deref (env : En) : Opd → Option PV
  | .vl p _ => some p
  | .sl i => match env[i]? with
    | some (some s) => some s.v
    | _ => none
  | .wk _ _ => none
def derefs (env : En) : List Opd → Option (List PV)
  | [] => some []
  | o :: os => match deref env o, derefs env os with
    | some p, some ps => some (p :: ps)
    | _, _ => none
/-- the value goes elsewhere: an owned object is frozen -/
def consume (env : En) : Opd → Option (PV × En)
  | .vl p _ => some (p, env)
  | .sl i => match env[i]? with
    | some (some ⟨p, .fz⟩) => some (p, env)
    | some (some ⟨p, .own⟩) => some (p, env.set i (some ⟨p, .fz⟩))
    | some (some ⟨p, .ro⟩) => if p.imm then some (p, env) else none
    | _ => none
  | .wk _ _ => none
/-- the value of an operand -/
def take : Opd → En → Option ((PV × Bool) × En)
  | .vl p f, env => some ((p, f), env)
  | o, env => match consume env o with
    | some (p, env) => some ((p, false), env)
    | none => none
def consumes (env : En) : List Opd → Option (List PV × En)
  | [] => some ([], env)
  | o :: os => match consume env o with
    | some (p, env) => match consumes env os with
      | some (ps, env) => some (p :: ps, env)
      | none => none
    | none => none
def Opd.is (i : Nat) : Opd → Bool
  | .sl j => decide (j = i)
  | _ => false
/-- the arguments of a call by the modes; the slots whose objects the callee may change -/
def pass : List Md → List Opd → En → Option (List PV × List Nat × En)
  | [], [], env => some ([], [], env)
  | .val :: ms, o :: os, env => match consume env o with
    | some (p, env) => match pass ms os env with
      | some (ps, is, env) => some (p :: ps, is, env)
      | none => none
    | none => none
  | .ro :: ms, o :: os, env => match deref env o with
    | some p => match pass ms os env with
      | some (ps, is, env) => if is.any (fun i => o.is i) then none else some (p :: ps, is, env)
      | none => none
    | none => none
  | .mu :: ms, .sl i :: os, env => match env[i]? with
    | some (some ⟨p, .own⟩) => match pass ms os env with
      | some (ps, is, env) => if os.any (Opd.is i) then none else some (p :: ps, i :: is, env)
      | none => none
    | _ => none
  | _, _, _ => none
/-- the changed objects behind a call -/
def back : List Nat → List PV → En → Option En
  | [], [], env => some env
  | i :: is, p :: ps, env => back is ps (env.set i (some ⟨p, .own⟩))
  | _, _, _ => none
def kd (f : Bool) : Kd := if f then .own else .fz
/-- a store at a name: not at one whose object must stay -/
def store (pm : List Nat) (i : Nat) (p : PV) (f : Bool) (env : En) : Option En :=
  if pm.contains i then none else match env[i]? with
    | some (some ⟨_, .lk⟩) => none
    | some _ => some (env.set i (some ⟨p, kd f⟩))
    | none => none
def stores (pm : List Nat) : List Nat → List PV → En → Option En
  | [], [], env => some env
  | i :: is, p :: ps, env => match store pm i p false env with
    | some env => stores pm is ps env
    | none => none
  | _, _, _ => none
def bindTg (pm : List Nat) (tg : Tg) (p : PV) (env : En) : Option En := match tg with
  | .one i => store pm i p false env
  | .many is => match p with
    | .tup ps => stores pm is ps env
    | _ => none
/-- the slots vs emptied -/
def wipeE (env : En) : List Nat → En
  | [] => env
  | v :: vs => (wipeE env vs).set v none
/-- the slots vs as they were in old -/
def restore (old : En) (env : En) : List Nat → En
  | [] => env
  | v :: vs => (restore old env vs).set v (match old[v]? with | some s => s | none => none)
def isOwn (env : En) (i : Nat) : Bool := match env[i]? with
  | some (some ⟨_, .own⟩) => true
  | _ => false
def lkOf (env : En) (is : List Nat) : List Nat := is.filter (isOwn env)
def lock1 (env : En) (i : Nat) : En := match env[i]? with
  | some (some ⟨p, .own⟩) => env.set i (some ⟨p, .lk⟩)
  | _ => env
def lock (env : En) : List Nat → En
  | [] => env
  | i :: is => lock1 (lock env is) i
def unlock1 (env : En) (i : Nat) : En := match env[i]? with
  | some (some ⟨p, .lk⟩) => env.set i (some ⟨p, .own⟩)
  | _ => env
def unlock (env : En) : List Nat → En
  | [] => env
  | i :: is => unlock1 (unlock env is) i
def keyPV : Key → PV
  | .inl i => .int i
  | .inr s => .str s
/-- what a for walks, of a value -/
def walkF : PV → Option (List PV)
  | .lst xs => some xs
  | .tup xs => some xs
  | _ => none
/-- range in a for -/
def rngIF : List Int → Option (List Int)
  | [j] => if inB j = true then some (rngL 0 j) else none
  | [i, j] => if inB i = true ∧ inB j = true then some (rngL i j) else none
  | _ => none
def zipP : List PV → List PV → List PV
  | x :: xs, y :: ys => .tup [x, y] :: zipP xs ys
  | _, _ => []
def enumP : Nat → List PV → List PV
  | _, [] => []
  | n, x :: xs => .tup [.int n, x] :: enumP (n + 1) xs
def Opd.slot : Opd → List Nat
  | .sl i => [i]
  | _ => []
/-- what is walked: the items, the slot that is read meanwhile -/
def walkO (env : En) : Opd → Option (List PV × List Nat)
  | .wk xs o => some (xs, o)
  | o => match deref env o with
    | some p => match walkF p with
      | some xs => some (xs, o.slot)
      | none => none
    | none => none
/-- what a call of a def comes to: its value, the changed objects -/
abbrev Cl := Nat → List PV → Option (Rv × List PV)
abbrev RE := Option (Rv × En)
/-- one comprehension's turns -/
def lcGo (turn : PV → En → Option (Option PV × En)) : List PV → En → Option (List PV × En)
  | [], env => some ([], env)
  | x :: xs, env => match turn x env with
    | some (none, env) => lcGo turn xs env
    | some (some y, env) => match lcGo turn xs env with
      | some (ys, env) => some (y :: ys, env)
      | none => none
    | none => none
def lcGo2 (turn : PV → En → Option (List PV × En)) : List PV → En → Option (List PV × En)
  | [], env => some ([], env)
  | x :: xs, env => match turn x env with
    | some (zs, env) => match lcGo2 turn xs env with
      | some (ys, env) => some (zs ++ ys, env)
      | none => none
    | none => none
def asOpt : List Int → Option (Option Int)
  | [] => some none
  | [i] => some (some i)
  | _ => none
section
variable (M : Nat → List Md) (C : Cl)
mutual
/-- an operand: a name stays a place -/
def ev : E → En → Option (Opd × En)
  | .con c, env => some (.vl c false, env)
  | .glo _ c, env => some (.vl c false, env)
  | .var i, env => match env[i]? with
    | some (some _) => some (.sl i, env)
    | _ => none
  | .bin o a b, env => match ev a env with
    | some (x, env) => match ev b env with
      | some (y, env) => match deref env x, deref env y with
        | some p, some q => match binF o p q with
          | some (r, f) => some (.vl r f, env)
          | none => none
        | _, _ => none
      | none => none
    | none => none
  | .un o a, env => match ev a env with
    | some (x, env) => match deref env x with
      | some p => match unF o p with
        | some r => some (.vl r false, env)
        | none => none
      | none => none
    | none => none
  | .cmp o a b, env => match ev a env with
    | some (x, env) => match ev b env with
      | some (y, env) => match deref env x, deref env y with
        | some p, some q => match cmpF o p q with
          | some r => some (.vl (.bl r) false, env)
          | none => none
        | _, _ => none
      | none => none
    | none => none
  | .cmp2 o p a b c, env => match ev a env with
    | some (x, env) => match ev b env with
      | some (y, env) => match deref env x, deref env y with
        | some u, some v => match cmpF o u v with
          | some true => match ev c env with
            | some (z, env) => match deref env y, deref env z with
              | some v, some w => match cmpF p v w with
                | some r => some (.vl (.bl r) false, env)
                | none => none
              | _, _ => none
            | none => none
          | some false => some (.vl (.bl false) false, env)
          | none => none
        | _, _ => none
      | none => none
    | none => none
  | .and a b, env => match ev a env with
    | some (x, env) => match deref env x with
      | some (.bl true) => ev b env
      | some (.bl false) => some (.vl (.bl false) false, env)
      | _ => none
    | none => none
  | .or a b, env => match ev a env with
    | some (x, env) => match deref env x with
      | some (.bl true) => some (.vl (.bl true) false, env)
      | some (.bl false) => ev b env
      | _ => none
    | none => none
  | .not a, env => match ev a env with
    | some (x, env) => match deref env x with
      | some (.bl k) => some (.vl (.bl (!k)) false, env)
      | _ => none
    | none => none
  | .ite c a b, env => match ev c env with
    | some (x, env) => match deref env x with
      | some (.bl true) => ev a env
      | some (.bl false) => ev b env
      | _ => none
    | none => none
  | .tup es, env => match evs es env with
    | some (os, env) => match consumes env os with
      | some (ps, env) => if ps.length ≤ sizeLine then some (.vl (.tup ps) false, env) else none
      | none => none
    | none => none
  | .lst es, env => match evs es env with
    | some (os, env) => match consumes env os with
      | some (ps, env) => if ps.length ≤ sizeLine then some (.vl (.lst ps) true, env) else none
      | none => none
    | none => none
  | .dnk, env => some (.vl (.dk []) true, env)
  | .dnt, env => some (.vl (.dt []) true, env)
  | .idx a i, env => match ev a env with
    | some (x, env) => match ev i env with
      | some (y, env) => match deref env x, deref env y with
        | some p, some q => match idxF p q with
          | some r => some (.vl r false, env)
          | none => none
        | _, _ => none
      | none => none
    | none => none
  | .slc a lo hi, env => match ev a env with
    | some (x, env) => match evs lo env with
      | some (l, env) => match ((derefs env l).bind asInts).bind asOpt with
        | some lo => match evs hi env with
          | some (h, env) => match ((derefs env h).bind asInts).bind asOpt with
            | some hi => match deref env x with
              | some p => match slcF p lo hi with
                | some (r, f) => some (.vl r f, env)
                | none => none
              | none => none
            | none => none
          | none => none
        | none => none
      | none => none
    | none => none
  | .rev a, env => match ev a env with
    | some (x, env) => match deref env x with
      | some (.lst xs) => some (.vl (.lst xs.reverse) true, env)
      | _ => none
    | none => none
  | .isi t a, env => match ev a env with
    | some (x, env) => match deref env x with
      | some p => match isiF t p with
        | some (r, f) => some (.vl r f, env)
        | none => none
      | none => none
    | none => none
  | .call f es, env => match evs es env with
    | some (os, env) => match pass (M f) os env with
      | some (ps, is, env) => match C f ps with
        | some ((r, k), outs) => match back is outs env with
          | some env => some (.vl r k, env)
          | none => none
        | none => none
      | none => none
    | none => none
  | .bi b es, env => match evs es env with
    | some (os, env) => match derefs env os with
      | some ps => match biF b ps with
        | some (r, f) => some (.vl r f, env)
        | none => none
      | none => none
    | none => none
  | .met m o es, env => match ev o env with
    | some (x, env) => match deref env x with
      | some p0 => match evs es env with
        | some (os, env) => match deref env x, derefs env os with
          | some p, some ps => if p0.kn = p.kn then (match metF m p ps with
            | some (r, f) => some (.vl r f, env)
            | none => none) else none
          | _, _ => none
        | none => none
      | none => none
    | none => none
  | .mm m i es, env => match env[i]? with
    | some (some s0) => match evs es env with
      | some (os, env) => match consumes env os with
        | some (ps, env) => match env[i]? with
          | some (some ⟨p, .own⟩) => if s0.v.kn = p.kn then (match mutF m p ps with
            | some (p', r) => some (.vl r false, env.set i (some ⟨p', .own⟩))
            | none => none) else none
          | _ => none
        | none => none
      | none => none
    | _ => none
  | .zip a b, env => match ev a env with
    | some (x, env) => match ev b env with
      | some (y, env) => match deref env x, deref env y with
        | some (.lst xs), some (.lst ys) => some (.wk (zipP xs ys) (x.slot ++ y.slot), env)
        | some (.tup xs), some (.tup ys) => some (.wk (zipP xs ys) (x.slot ++ y.slot), env)
        | _, _ => none
      | none => none
    | none => none
  | .enum a, env => match ev a env with
    | some (x, env) => match deref env x with
      | some (.lst xs) => some (.wk (enumP 0 xs) x.slot, env)
      | _ => none
    | none => none
  | .rngI es, env => match evs es env with
    | some (os, env) => match (derefs env os).bind asInts with
      | some ns => match rngIF ns with
        | some xs => some (.wk (xs.map PV.int) [], env)
        | none => none
      | none => none
    | none => none
  | .lc tg it ifs elt, env => match ev it env with
    | some (x, env) => match walkO env x with
      | some (xs, o) => match lcGo (fun x env => match bindTg [] tg x env with
          | some env => match evIfs ifs env with
            | some (true, env) => match ev elt env with
              | some (y, env) => match consume env y with
                | some (y, env) => some (some y, wipeE env tg.slots)
                | none => none
              | none => none
            | some (false, env) => some (none, wipeE env tg.slots)
            | none => none
          | none => none) xs (wipeE (lock env o) tg.slots) with
        | some (ys, env') => if ys.length ≤ sizeLine then some (.vl (.lst ys) true, unlock (restore env env' tg.slots) (lkOf env o)) else none
        | none => none
      | none => none
    | none => none
  | .lc2 tg it ifs tg1 it1 ifs1 elt, env => match ev it env with
    | some (x, env) => match walkO env x with
      | some (xs, o) => match lcGo2 (fun x env => match bindTg [] tg x env with
          | some env => match evIfs ifs env with
            | some (true, env) => match ev it1 env with
              | some (x1, env) => match walkO env x1 with
                | some (zs, o1) => match lcGo (fun z env => match bindTg [] tg1 z env with
                    | some env => match evIfs ifs1 env with
                      | some (true, env) => match ev elt env with
                        | some (y, env) => match consume env y with
                          | some (y, env) => some (some y, wipeE env tg1.slots)
                          | none => none
                        | none => none
                      | some (false, env) => some (none, wipeE env tg1.slots)
                      | none => none
                    | none => none) zs (wipeE (lock env o1) tg1.slots) with
                  | some (ys, env') => some (ys, wipeE (unlock (restore env env' tg1.slots) (lkOf env o1)) (tg.slots ++ tg1.slots))
                  | none => none
                | none => none
              | none => none
            | some (false, env) => some ([], wipeE env (tg.slots ++ tg1.slots))
            | none => none
          | none => none) xs (wipeE (lock env o) (tg.slots ++ tg1.slots)) with
        | some (ys, env') => if ys.length ≤ sizeLine then some (.vl (.lst ys) true, unlock (restore env env' (tg.slots ++ tg1.slots)) (lkOf env o)) else none
        | none => none
      | none => none
    | none => none
def evs : List E → En → Option (List Opd × En)
  | [], env => some ([], env)
  | e :: es, env => match ev e env with
    | some (o, env) => match evs es env with
      | some (os, env) => some (o :: os, env)
      | none => none
    | none => none
def evIfs : List E → En → Option (Bool × En)
  | [], env => some (true, env)
  | e :: es, env => match ev e env with
    | some (x, env) => match deref env x with
      | some (.bl true) => evIfs es env
      | some (.bl false) => some (false, env)
      | _ => none
    | none => none
end

/-! ### statements -/
inductive Fl where
  | nx (env : En) | rt (p : PV) (fresh : Bool) (env : En)
/-- the value moves: an own object of a name that is no parameter goes along -/
def move (pm : List Nat) (o : Opd) (env : En) : Option (Rv × En) := match o with
  | .vl p f => some ((p, f), env)
  | .sl i => match env[i]? with
    | some (some ⟨p, .own⟩) => if pm.contains i then some ((p, false), env.set i (some ⟨p, .fz⟩)) else some ((p, true), env.set i none)
    | _ => match consume env (.sl i) with
      | some (p, env) => some ((p, false), env)
      | none => none
  | .wk _ _ => none
/-- one of several: a name that comes again keeps its object, frozen -/
def move1 (pm : List Nat) (o : Opd) (os : List Opd) (env : En) : Option (Rv × En) := match o with
  | .sl j => if os.any (Opd.is j) then (match consume env (.sl j) with
    | some (p, env) => some ((p, false), env)
    | none => none) else move pm (.sl j) env
  | o => move pm o env
def moves (pm : List Nat) : List Opd → En → Option (List Rv × En)
  | [], env => some ([], env)
  | o :: os, env => match move1 pm o os env with
    | some (r, env) => match moves pm os env with
      | some (rs, env) => some (r :: rs, env)
      | none => none
    | none => none
def storeR (pm : List Nat) : List Nat → List Rv → En → Option En
  | [], [], env => some env
  | i :: is, (p, f) :: ps, env => match store pm i p f env with
    | some env => storeR pm is ps env
    | none => none
  | _, _, _ => none
/-- loops: f's turns until it ends -/
def turns (f : En → Option (Sum En Fl)) : Nat → En → Option Fl
  | 0, _ => none
  | n + 1, env => match f env with
    | some (.inl env) => turns f n env
    | some (.inr r) => some r
    | none => none
abbrev Lp := (En → Option (Sum En Fl)) → En → Option Fl
def forGo (turn : PV → En → Option Fl) : List PV → En → Option Fl
  | [], env => some (.nx env)
  | x :: xs, env => match turn x env with
    | some (.nx env) => forGo turn xs env
    | r => r
section
variable (W : Lp) (pm : List Nat)
mutual
def ex : S → En → Option Fl
  | .ex e, env => match ev M C e env with
    | some (_, env) => some (.nx env)
    | none => none
  | .set i e, env => match ev M C e env with
    | some (x, env) => match move pm x env with
      | some ((p, f), env) => match store pm i p f env with
        | some env => some (.nx env)
        | none => none
      | none => none
    | none => none
  | .unp is e, env => match ev M C e env with
    | some (x, env) => match deref env x with
      | some (.tup ps) => match stores pm is ps env with
        | some env => some (.nx env)
        | none => none
      | _ => none
    | none => none
  | .par is es, env => match evs M C es env with
    | some (os, env) => match moves pm os env with
      | some (rs, env) => match storeR pm is rs env with
        | some env => some (.nx env)
        | none => none
      | none => none
    | none => none
  | .sti i k e, env => match ev M C e env with
    | some (y, env) => match consume env y with
      | some (y, env) => match ev M C k env with
        | some (k, env) => match deref env k, env[i]? with
          | some k, some (some ⟨p, .own⟩) => match setF p k y with
            | some p => some (.nx (env.set i (some ⟨p, .own⟩)))
            | none => none
          | _, _ => none
        | none => none
      | none => none
    | none => none
  | .aug i o e, env => match ev M C e env with
    | some (y, env) => match deref env (.sl i), deref env y with
      | some (.int p), some (.int q) => match binF o (.int p) (.int q) with
        | some (r, f) => match store pm i r f env with
          | some env => some (.nx env)
          | none => none
        | none => none
      | _, _ => none
    | none => none
  | .dli i k, env => match ev M C k env with
    | some (k, env) => match deref env k, env[i]? with
      | some k, some (some ⟨.dk kvs, .own⟩) => match toKey k with
        | some k => if (lookP kvs k).isSome then some (.nx (env.set i (some ⟨.dk (kvs.filter fun q => decide (q.1 ≠ k)), .own⟩))) else none
        | none => none
      | _, _ => none
    | none => none
  | .ite c a b, env => match ev M C c env with
    | some (x, env) => match deref env x with
      | some (.bl true) => exs a env
      | some (.bl false) => exs b env
      | _ => none
    | none => none
  | .whl c b, env => W (fun env => match ev M C c env with
      | some (x, env) => match deref env x with
        | some (.bl true) => match exs b env with
          | some (.nx env) => some (.inl env)
          | some r => some (.inr r)
          | none => none
        | some (.bl false) => some (.inr (.nx env))
        | _ => none
      | none => none) env
  | .for_ tg it b, env => match ev M C it env with
    | some (x, env) => match walkO env x with
      | some (xs, o) => match forGo (fun x env => match bindTg pm tg x env with
          | some env => exs b env
          | none => none) xs (lock env o) with
        | some (.nx env') => some (.nx (unlock env' (lkOf env o)))
        | r => r
      | none => none
    | none => none
  | .ret e, env => match ev M C e env with
    | some (x, env) => match move pm x env with
      | some ((p, f), env) => some (.rt p f env)
      | none => none
    | none => none
  | .retN, env => some (.rt .non false env)
  | .nev, _ => none
  | .pas, env => some (.nx env)
def exs : List S → En → Option Fl
  | [], env => some (.nx env)
  | s :: ss, env => match ex s env with
    | some (.nx env) => exs ss env
    | r => r
end
end
end

/-- a def's slots at its entry -/
def kdOf : Md → Kd
  | .val => .fz
  | .ro => .ro
  | .mu => .own
def starts : List Md → List PV → En
  | m :: ms, p :: ps => some ⟨p, kdOf m⟩ :: starts ms ps
  | _, _ => []
/-- the parameters whose objects change -/
def mutsOf : Nat → List Md → List Nat
  | _, [] => []
  | n, .mu :: ms => n :: mutsOf (n + 1) ms
  | n, _ :: ms => mutsOf (n + 1) ms
/-- the changed objects at its end -/
def outs : List Md → En → Option (List PV)
  | [], _ => some []
  | .mu :: ms, some ⟨p, .own⟩ :: env => match outs ms env with
    | some ps => some (p :: ps)
    | none => none
  | .mu :: _, _ => none
  | _ :: ms, _ :: env => outs ms env
  | _ :: _, [] => none
/-- a call at most so many calls deep -/
def run (W : Lp) (D : Nat → Dfn) : Nat → Cl
  | 0, _, _ => none
  | d + 1, f, ps => if ps.length = (D f).modes.length then
    (match exs (fun f => (D f).modes) (run W D d) W (mutsOf 0 (D f).modes) (D f).body (starts (D f).modes ps ++ List.replicate ((D f).slots - (D f).modes.length) none) with
    | some (.rt p k env) => (match outs (D f).modes env with
      | some os => some ((p, k), os)
      | none => none)
    | some (.nx env) => (match outs (D f).modes env with
      | some os => some ((.non, false), os)
      | none => none)
    | none => none) else none
end L2.Pz
set_option Elab.async false
set_option linter.all false
set_option maxRecDepth 100000
set_option maxHeartbeats 4000000
namespace L2.Pz
set_option autoImplicit false
open PySem PySem.Spec PyProof.Rows L2

/-! ## Pz2: how environments move, what operands are -/
/-- slots through the evaluation of an expression: only owned ones change -/
structure EnvRel (a b : En) : Prop where
  len : b.length = a.length
  pres : ∀ (i : Nat) (s : Slot), a[i]? = some (some s) → ∃ s', b[i]? = some (some s') ∧ (s' = s ∨ (s.k = .own ∧ (s'.k = .own ∨ s'.k = .fz)))
  non : ∀ i : Nat, a[i]? = some none → b[i]? = some none
theorem EnvRel.refl {a : En} : EnvRel a a := ⟨rfl, fun _ s e => ⟨s, e, .inl rfl⟩, fun _ e => e⟩
theorem EnvRel.trans {a b c : En} (x : EnvRel a b) (y : EnvRel b c) : EnvRel a c where
  len := y.len.trans x.len
  pres := fun i s e => by
    obtain ⟨s1, e1, h1⟩ := x.pres i s e
    obtain ⟨s2, e2, h2⟩ := y.pres i s1 e1
    refine ⟨s2, e2, ?_⟩
    rcases h2 with rfl | ⟨k2, h2⟩
    · exact h1
    · rcases h1 with rfl | ⟨k1, h1⟩
      · exact .inr ⟨k2, h2⟩
      · exact .inr ⟨k1, h2⟩
  non := fun i e => y.non i (x.non i e)
theorem EnvRel.back {a b : En} (x : EnvRel a b) {i : Nat} {s' : Slot} (e : b[i]? = some (some s')) : ∃ s, a[i]? = some (some s) ∧ (s' = s ∨ (s.k = .own ∧ (s'.k = .own ∨ s'.k = .fz))) := by
  cases q : a[i]? with
  | none =>
    have h1 : a.length ≤ i := List.getElem?_eq_none_iff.mp q
    have h2 : b[i]? = none := List.getElem?_eq_none_iff.mpr (by rw [x.len]; exact h1)
    rw [h2] at e; cases e
  | some o =>
    cases o with
    | none => rw [x.non i q] at e; cases e
    | some s =>
      obtain ⟨s1, e1, h1⟩ := x.pres i s q
      rw [e] at e1; cases e1
      exact ⟨s, rfl, h1⟩
theorem lt_of_some {α : Type} {l : List α} {i : Nat} {x : α} (e : l[i]? = some x) : i < l.length := (List.getElem?_eq_some_iff.mp e).1
theorem EnvRel.setFz {a : En} {i : Nat} {p q : PV} {k : Kd} (e : a[i]? = some (some ⟨p, .own⟩)) (hk : k = .own ∨ k = .fz) : EnvRel a (a.set i (some ⟨q, k⟩)) where
  len := by simp
  pres := fun j s ej => by
    by_cases h : i = j
    · subst h
      rw [e] at ej; cases ej
      exact ⟨⟨q, k⟩, by rw [List.getElem?_set_self (lt_of_some e)], .inr ⟨rfl, hk⟩⟩
    · exact ⟨s, by rw [List.getElem?_set_ne h]; exact ej, .inl rfl⟩
  non := fun j ej => by
    by_cases h : i = j
    · subst h; rw [e] at ej; cases ej
    · rw [List.getElem?_set_ne h]; exact ej

abbrev New (H : Hp) (O : Ad) : Ad := fun a => O a ∨ H a = none
def Away (g : Gw) (F : Ad) (H : Hp) (σ : St) (env : En) (a : Addr) : Prop :=
  ∀ (i : Nat) (s : Slot), env[i]? = some (some s) → s.k ≠ .fz → σ[i]? = some (some (.ref a)) → RepV g F H s.v (.ref a)
def Opd.fr : Opd → Bool
  | .vl _ true => true
  | _ => false
def HeldO (g : Gw) (F : Ad) (H : Hp) (σ : St) (env : En) (N : Ad) : Opd → V → Prop
  | .sl i, v => σ[i]? = some (some v) ∧ ∃ s, env[i]? = some (some s)
  | .vl p false, v => RepV g F H p v
  | .vl p true, v => ∃ a, v = .ref a ∧ ¬ F a ∧ RepC g F H a p ∧ N a ∧ Away g F H σ env a
  | .wk _ _, _ => False
inductive HeldL (g : Gw) (F : Ad) (H : Hp) (σ : St) (env : En) (N : Ad) : List Opd → List V → Prop
  | nil : HeldL g F H σ env N [] []
  | cons {o : Opd} {v : V} {os : List Opd} {vs : List V} : HeldO g F H σ env N o v → (o.fr = true → ∀ (k : Nat) (o' : Opd), os[k]? = some o' → o'.fr = true → vs[k]? ≠ some v) → HeldL g F H σ env N os vs → HeldL g F H σ env N (o :: os) (v :: vs)

section
variable {g : Gw} {F F' F0 : Ad} {H H' H0 : Hp} {σ : St} {env env' : En} {N N' O0 : Ad} {o : Opd} {v : V} {p : PV} {a : Addr}

theorem RepC.inF (c : RepC g F H a p) (r : RepV g F H p (.ref a)) : F a := by
  cases c <;> cases r <;> assumption
/-- an exclusive slot's object is not frozen -/
theorem Rep.exc (R : Rep g F H σ env) {i : Nat} {s : Slot} (e : env[i]? = some (some s)) (k : s.k.ex = true) : ∃ b, σ[i]? = some (some (.ref b)) ∧ ¬ F b ∧ RepC g F H b s.v := by
  obtain ⟨v, ev, h⟩ := R.slot i s e
  obtain ⟨q, k'⟩ := s
  cases k' with
  | fz => cases k
  | ro => cases k
  | own => obtain ⟨b, rfl, nf, c⟩ := h; exact ⟨b, ev, nf, c⟩
  | lk => obtain ⟨b, rfl, nf, c⟩ := h; exact ⟨b, ev, nf, c⟩
theorem Away.notOwn (R : Rep g F H σ env) (nf : ¬ F a) (aw : Away g F H σ env a) : ¬ Own σ env a := by
  rintro ⟨i, x, e, es⟩
  obtain ⟨b, eb, nb, c⟩ := R.exc e rfl
  rw [es] at eb; cases eb
  exact nf (c.inF (aw i _ e (fun h => nomatch h) es))
theorem Away.ext (R : Rep g F H σ env) (x : Ext F H (Own σ env) F' H' (Own σ env')) (er : EnvRel env env') (nf : ¬ F a) (aw : Away g F H σ env a) : Away g F' H' σ env' a := by
  intro i s' e' k es
  obtain ⟨s, e, h⟩ := er.back e'
  have hk : s.k ≠ .fz := by
    rcases h with rfl | ⟨h, _⟩
    · exact k
    · rw [h]; exact fun h => nomatch h
  have r := aw i s e hk es
  rcases h with rfl | ⟨h, _⟩
  · exact r.ext x fun b hb => R.ownF hb
  · obtain ⟨b, eb, nb, c⟩ := R.exc e (by rw [h]; rfl)
    rw [es] at eb; cases eb
    exact (nf (c.inF r)).elim
theorem HeldO.ext (h : HeldO g F H σ env N o v) (R : Rep g F H σ env) (x : Ext F H (Own σ env) F' H' (Own σ env')) (er : EnvRel env env') (hN : ∀ a, N a → N' a) : HeldO g F' H' σ env' N' o v := by
  cases o with
  | sl i =>
    obtain ⟨e, s, es⟩ := h
    obtain ⟨s', e', _⟩ := er.pres i s es
    exact ⟨e, s', e'⟩
  | vl p f =>
    cases f with
    | false => exact RepV.ext h x fun b hb => R.ownF hb
    | true =>
      obtain ⟨a, rfl, nf, c, na, aw⟩ := h
      have no := aw.notOwn R nf
      refine ⟨a, rfl, fun hf => ?_, c.ext x (fun b hb => R.ownF hb) no, hN a na, aw.ext R x er nf⟩
      rcases x.newF a hf with q | q | q
      · exact nf q
      · exact no q
      · exact c.dom q
  | wk _ _ => exact h
theorem HeldL.ext (R : Rep g F H σ env) (x : Ext F H (Own σ env) F' H' (Own σ env')) (er : EnvRel env env') (hN : ∀ a, N a → N' a) : ∀ {os : List Opd} {vs : List V}, HeldL g F H σ env N os vs → HeldL g F' H' σ env' N' os vs
  | _, _, .nil => .nil
  | _, _, .cons a b c => .cons (a.ext R x er hN) b (HeldL.ext R x er hN c)
theorem HeldL.length : ∀ {os : List Opd} {vs : List V}, HeldL g F H σ env N os vs → os.length = vs.length
  | _, _, .nil => rfl
  | _, _, .cons _ _ c => congrArg Nat.succ c.length
theorem HeldL.get : ∀ {os : List Opd} {vs : List V} {k : Nat} {o : Opd}, HeldL g F H σ env N os vs → os[k]? = some o → ∃ v, vs[k]? = some v ∧ HeldO g F H σ env N o v
  | _, _, 0, _, .cons a _ _, e => by cases e; exact ⟨_, rfl, a⟩
  | _, _, k + 1, o, .cons _ _ c, e => HeldL.get (k := k) (o := o) c e
/-- a fresh one's object is new -/
theorem HeldO.fresh (h : HeldO g F H σ env N o v) (f : o.fr = true) : ∃ a, v = .ref a ∧ ¬ F a ∧ H a ≠ none ∧ N a ∧ Away g F H σ env a := by
  cases o with
  | sl i => cases f
  | wk _ _ => cases f
  | vl p k =>
    cases k with
    | false => cases f
    | true => obtain ⟨a, e, nf, c, na, aw⟩ := h; exact ⟨a, e, nf, c.dom, na, aw⟩
/-- what is read where it stands -/
theorem HeldO.peek (h : HeldO g F H σ env N o v) (R : Rep g F H σ env) (e : deref env o = some p) : Peek g F H p v := by
  cases o with
  | sl i =>
    obtain ⟨es, s, ei⟩ := h
    simp only [deref, ei] at e
    cases e
    obtain ⟨w, ew, r⟩ := R.slot i s ei
    rw [es] at ew; cases ew
    exact r.peek
  | vl q f =>
    cases e
    cases f with
    | false => exact .inl h
    | true => obtain ⟨a, e, _, c, _⟩ := h; exact .inr ⟨a, e, c⟩
  | wk _ _ => cases e
theorem HeldL.peek (R : Rep g F H σ env) : ∀ {os : List Opd} {vs : List V} {ps : List PV}, HeldL g F H σ env N os vs → derefs env os = some ps → PeekL g F H ps vs
  | _, _, ps, .nil, e => by cases e; exact .nil
  | _, _, ps, .cons (o := o) (os := os) a b c, e => by
    unfold derefs at e
    split at e
    · rename_i p ps' h1 h2
      cases e
      exact .cons (a.peek R h1) (c.peek R h2)
    · cases e

/-- an object more is frozen -/
theorem Rep.freezeFresh (R : Rep g F H σ env) (nf : ¬ F a) (hd : H a ≠ none) (aw : Away g F H σ env a) : Rep g (fun b => F b ∨ b = a) H σ env := by
  have up : ∀ {q : PV} {w : V}, RepV g F H q w → RepV g (fun b => F b ∨ b = a) H q w := fun r => r.mono (fun _ h => .inl h) fun _ _ _ e => e
  have upC : ∀ {q : PV} {b : Addr}, RepC g F H b q → RepC g (fun b => F b ∨ b = a) H b q := fun r => r.mono (fun _ h => .inl h) (fun _ _ _ e => e) fun _ e => e
  refine ⟨R.len, fun i s e => ?_, fun i j x s b hij e1 k1 e2 k2 es ej => ?_, fun b hb => ?_⟩
  · obtain ⟨w, ew, r⟩ := R.slot i s e
    refine ⟨w, ew, ?_⟩
    obtain ⟨q, k⟩ := s
    have ne : ∀ b, w = .ref b → RepC g F H b q → k ≠ .fz → ¬ F b → b ≠ a := fun b eb c kk nb z => by
      subst z; subst eb
      exact nb (c.inF (aw i _ e kk ew))
    cases k with
    | fz => exact up r
    | own =>
      obtain ⟨b, eb, nb, c⟩ := r
      exact ⟨b, eb, fun z => z.elim nb (ne b eb c (fun h => nomatch h) nb), upC c⟩
    | lk =>
      obtain ⟨b, eb, nb, c⟩ := r
      exact ⟨b, eb, fun z => z.elim nb (ne b eb c (fun h => nomatch h) nb), upC c⟩
    | ro =>
      rcases r with r | ⟨b, eb, c⟩
      · exact .inl (up r)
      · exact .inr ⟨b, eb, upC c⟩
  · exact up (R.sep i j x s b hij e1 k1 e2 k2 es ej)
  · rcases hb with hb | rfl
    · exact R.dom b hb
    · exact hd
theorem set_get {α : Type} {l : List α} {i j : Nat} {x y : α} (e : (l.set i x)[j]? = some y) : (i = j ∧ y = x) ∨ (i ≠ j ∧ l[j]? = some y) := by
  by_cases h : i = j
  · subst h
    left
    have hl : i < l.length := by
      have := lt_of_some e
      simpa using this
    rw [List.getElem?_set_self hl] at e
    exact ⟨rfl, (Option.some.inj e).symm⟩
  · rw [List.getElem?_set_ne h] at e
    exact .inr ⟨h, e⟩
/-- an own slot's object is frozen -/
theorem Rep.freezeSlot {i : Nat} (R : Rep g F H σ env) (e : env[i]? = some (some ⟨p, .own⟩)) (es : σ[i]? = some (some (.ref a))) :
    Rep g (fun b => F b ∨ b = a) H σ (env.set i (some ⟨p, .fz⟩)) ∧ RepV g (fun b => F b ∨ b = a) H p (.ref a) ∧ ¬ F a ∧ H a ≠ none := by
  obtain ⟨b, eb, nf, c⟩ := R.exc e rfl
  rw [es] at eb; cases eb
  have up : ∀ {q : PV} {w : V}, RepV g F H q w → RepV g (fun b => F b ∨ b = a) H q w := fun r => r.mono (fun _ h => .inl h) fun _ _ _ e => e
  have upC : ∀ {q : PV} {b : Addr}, RepC g F H b q → RepC g (fun b => F b ∨ b = a) H b q := fun r => r.mono (fun _ h => .inl h) (fun _ _ _ e => e) fun _ e => e
  refine ⟨⟨by simpa using R.len, fun j s ej => ?_, fun j k x s b hjk e1 k1 e2 k2 ej ek => ?_, fun b hb => ?_⟩, c.freeze, nf, c.dom⟩
  · rcases set_get ej with ⟨rfl, q⟩ | ⟨hij, ej⟩
    · cases q
      exact ⟨_, es, c.freeze⟩
    · obtain ⟨w, ew, r⟩ := R.slot j s ej
      refine ⟨w, ew, ?_⟩
      obtain ⟨q, k⟩ := s
      have ne : ∀ b, w = .ref b → RepC g F H b q → k ≠ .fz → ¬ F b → b ≠ a := fun b eb c' kk nb z => by
        subst z; subst eb
        exact nb (c'.inF (R.sep i j _ _ _ hij e rfl ej kk es ew))
      cases k with
      | fz => exact up r
      | own =>
        obtain ⟨b, eb, nb, c⟩ := r
        exact ⟨b, eb, fun z => z.elim nb (ne b eb c (fun h => nomatch h) nb), upC c⟩
      | lk =>
        obtain ⟨b, eb, nb, c⟩ := r
        exact ⟨b, eb, fun z => z.elim nb (ne b eb c (fun h => nomatch h) nb), upC c⟩
      | ro =>
        rcases r with r | ⟨b, eb, c⟩
        · exact .inl (up r)
        · exact .inr ⟨b, eb, upC c⟩
  · rcases set_get e1 with ⟨rfl, q⟩ | ⟨_, e1⟩
    · cases q; cases k1
    · rcases set_get e2 with ⟨rfl, q⟩ | ⟨_, e2⟩
      · cases q; exact (k2 rfl).elim
      · exact up (R.sep j k x s b hjk e1 k1 e2 k2 ej ek)
  · rcases hb with hb | rfl
    · exact R.dom b hb
    · exact c.dom
theorem Own.setFz {i : Nat} {q : PV} {b : Addr} (h : Own σ (env.set i (some ⟨q, .fz⟩)) b) : Own σ env b := by
  obtain ⟨j, x, e, es⟩ := h
  rcases set_get e with ⟨_, q⟩ | ⟨_, e⟩
  · cases q
  · exact ⟨j, x, e, es⟩
/-- more frozen: what was new or owned -/
theorem Ext.more {O O' : Ad} (x : Ext F0 H0 O0 F H O) (na : New H0 O0 a) (h : ∀ b, O' b → O b) : Ext F0 H0 O0 (fun b => F b ∨ b = a) H O' :=
  ⟨x.keep, x.dom, fun b hb => .inl (x.mono b hb), fun b hb => by
    rcases hb with hb | rfl
    · exact x.newF b hb
    · exact .inr na, fun b hb => x.newO b (h b hb)⟩
theorem Away.freeze {b : Addr} (aw : Away g F H σ env b) : Away g (fun c => F c ∨ c = a) H σ env b := fun i s e k es =>
  (aw i s e k es).mono (fun _ h => .inl h) fun _ _ _ e => e

/-- behind a consumption -/
structure Cons (g : Gw) (F0 : Ad) (H0 : Hp) (O0 : Ad) (F : Ad) (H : Hp) (σ : St) (env : En) (o : Opd) (v : V) (F' : Ad) (env' : En) : Prop where
  mono : ∀ a, F a → F' a
  ext : Ext F0 H0 O0 F' H (Own σ env')
  rep : Rep g F' H σ env'
  er : EnvRel env env'
  new : ∀ a, F' a → F a ∨ (v = .ref a ∧ (o.fr = true ∨ Own σ env a))
theorem consume_ok (R : Rep g F H σ env) (x : Ext F0 H0 O0 F H (Own σ env)) (h : HeldO g F H σ env (New H0 O0) o v) (e : consume env o = some (p, env')) :
    ∃ F', Cons g F0 H0 O0 F H σ env o v F' env' ∧ RepV g F' H p v := by
  cases o with
  | wk _ _ => cases e
  | vl q f =>
    cases e
    cases f with
    | false => exact ⟨F, ⟨fun _ h => h, x, R, .refl, fun _ h => .inl h⟩, h⟩
    | true =>
      obtain ⟨a, rfl, nf, c, na, aw⟩ := h
      refine ⟨fun b => F b ∨ b = a, ⟨fun _ h => .inl h, x.more na fun _ h => h, R.freezeFresh nf c.dom aw, .refl, fun b hb => ?_⟩, c.freeze⟩
      rcases hb with hb | rfl
      · exact .inl hb
      · exact .inr ⟨rfl, .inl rfl⟩
  | sl i =>
    obtain ⟨es, s, ei⟩ := h
    obtain ⟨w, ew, r⟩ := R.slot i s ei
    rw [es] at ew; cases ew
    obtain ⟨q, k⟩ := s
    simp only [consume, ei] at e
    cases k with
    | fz =>
      cases e
      exact ⟨F, ⟨fun _ h => h, x, R, .refl, fun _ h => .inl h⟩, r⟩
    | own =>
      cases e
      obtain ⟨a, rfl, nf, c⟩ := r
      obtain ⟨R', r', _, _⟩ := R.freezeSlot ei es
      have ow : Own σ env a := ⟨i, _, ei, es⟩
      refine ⟨fun b => F b ∨ b = a, ⟨fun _ h => .inl h, x.more (x.newO a ow) fun b hb => Own.setFz hb, R', EnvRel.setFz ei (.inr rfl), fun b hb => ?_⟩, r'⟩
      rcases hb with hb | rfl
      · exact .inl hb
      · exact .inr ⟨rfl, .inr ow⟩
    | ro =>
      simp only at e
      split at e
      · rename_i hi
        cases e
        exact ⟨F, ⟨fun _ h => h, x, R, .refl, fun _ h => .inl h⟩, Peek.imm r hi⟩
      · cases e
    | lk => cases e
/-- what else is held stays so -/
theorem Cons.held {F' : Ad} {o1 : Opd} {v1 : V} (C : Cons g F0 H0 O0 F H σ env o v F' env') (R : Rep g F H σ env) (h : HeldO g F H σ env N o1 v1) (ne : o.fr = true → o1.fr = true → v1 ≠ v) : HeldO g F' H σ env' N o1 v1 := by
  cases o1 with
  | sl i =>
    obtain ⟨e, s, es⟩ := h
    obtain ⟨s', e', _⟩ := C.er.pres i s es
    exact ⟨e, s', e'⟩
  | wk _ _ => exact h
  | vl p f =>
    cases f with
    | false => exact RepV.mono C.mono (fun _ _ _ e => e) h
    | true =>
      obtain ⟨a, rfl, nf, c, na, aw⟩ := h
      refine ⟨a, rfl, fun hf => ?_, c.mono C.mono (fun _ _ _ e => e) fun _ e => e, na, fun i s' e' k es => ?_⟩
      · rcases C.new a hf with q | ⟨q, z | z⟩
        · exact nf q
        · exact ne z rfl q.symm
        · exact aw.notOwn R nf z
      · obtain ⟨s, e, hs⟩ := C.er.back e'
        have hk : s.k ≠ .fz := by
          rcases hs with rfl | ⟨hs, _⟩
          · exact k
          · rw [hs]; exact fun h => nomatch h
        have r := aw i s e hk es
        rcases hs with rfl | ⟨hs, _⟩
        · exact r.mono C.mono fun _ _ _ e => e
        · obtain ⟨b, eb, nb, c⟩ := R.exc e (by rw [hs]; rfl)
          rw [es] at eb; cases eb
          exact (nf (c.inF r)).elim
theorem Cons.heldL {F' : Ad} (C : Cons g F0 H0 O0 F H σ env o v F' env') (R : Rep g F H σ env) : ∀ {os : List Opd} {vs : List V}, HeldL g F H σ env N os vs → (o.fr = true → ∀ (k : Nat) (o' : Opd), os[k]? = some o' → o'.fr = true → vs[k]? ≠ some v) → HeldL g F' H σ env' N os vs
  | _, _, .nil, _ => .nil
  | _, _, .cons a b c, h => .cons (C.held R a fun z1 z2 e => h z1 0 _ rfl z2 (by rw [e]; rfl)) b (Cons.heldL C R c fun z k o' e f => h z (k + 1) o' e f)
theorem Cons.one (R : Rep g F H σ env) (x : Ext F0 H0 O0 F H (Own σ env)) : Cons g F0 H0 O0 F H σ env o v F env := ⟨fun _ h => h, x, R, .refl, fun _ h => .inl h⟩
/-- a list is consumed -/
theorem consumes_ok : ∀ {os : List Opd} {vs : List V} {ps : List PV} {F : Ad} {env : En}, Rep g F H σ env → Ext F0 H0 O0 F H (Own σ env) → HeldL g F H σ env (New H0 O0) os vs → consumes env os = some (ps, env') →
    ∃ F', (∀ a, F a → F' a) ∧ Ext F0 H0 O0 F' H (Own σ env') ∧ Rep g F' H σ env' ∧ EnvRel env env' ∧ RepL g F' H ps vs
  | [], _, _, F, env, R, x, .nil, e => by cases e; exact ⟨F, fun _ h => h, x, R, .refl, .nil⟩
  | o :: os, _, _, F, env, R, x, .cons (v := v) a b c, e => by
    unfold consumes at e
    split at e
    · rename_i p env1 h1
      split at e
      · rename_i ps1 env2 h2
        cases e
        obtain ⟨F1, C, r⟩ := consume_ok R x a h1
        obtain ⟨F2, m2, x2, R2, er2, l2⟩ := consumes_ok C.rep C.ext (C.heldL R c b) h2
        exact ⟨F2, fun a h => m2 a (C.mono a h), x2, R2, C.er.trans er2, .cons (r.mono m2 fun _ _ _ e => e) l2⟩
      · cases e
    · cases e
end
end L2.Pz
set_option Elab.async false
set_option linter.all false
set_option maxRecDepth 100000
set_option maxHeartbeats 4000000
namespace L2.Pz
set_option autoImplicit false
open PySem PySem.Spec PyProof.Rows L2

/-! ## Pz3: operations on values -/
structure AllocR (g : Gw) (F : Ad) (H : Hp) (r : Rv) (v : V) (F' : Ad) (H' : Hp) : Prop where
  keep : ∀ a o, H a = some o → H' a = some o
  mono : ∀ a, F a → F' a
  newF : ∀ a, F' a → F a ∨ H a = none
  dom : (∀ a, F a → H a ≠ none) → ∀ a, F' a → H' a ≠ none
  val : r.2 = false → RepV g F' H' r.1 v
  obj : r.2 = true → ∃ a, v = .ref a ∧ H a = none ∧ ¬ F' a ∧ RepC g F' H' a r.1
section
variable {g : Gw} {F F' : Ad} {H H' : Hp} {σ : St} {env : En} {O : Ad} {r : Rv} {v : V} {p : Addr}
theorem AllocR.ext (a : AllocR g F H r v F' H') (O : Ad) : Ext F H O F' H' O :=
  ⟨fun b o e _ => a.keep b o e, fun b e => (by
    cases q : H b with
    | none => rfl
    | some o => rw [a.keep b o q] at e; cases e), a.mono, fun b h => (a.newF b h).imp id .inr, fun _ h => .inl h⟩
theorem AllocR.rep (a : AllocR g F H r v F' H') (R : Rep g F H σ env) : Rep g F' H' σ env := by
  have k : ∀ b o, F b → H b = some o → H' b = some o := fun b o _ e => a.keep b o e
  have nf : ∀ b, H b ≠ none → ¬ F b → ¬ F' b := fun b h1 h2 h3 => (a.newF b h3).elim h2 h1
  refine ⟨R.len, fun i s e => ?_, fun i j x s b h1 h2 h3 h4 h5 h6 h7 => (R.sep i j x s b h1 h2 h3 h4 h5 h6 h7).mono a.mono k, a.dom R.dom⟩
  obtain ⟨w, ew, h⟩ := R.slot i s e
  refine ⟨w, ew, ?_⟩
  obtain ⟨q, kd⟩ := s
  cases kd with
  | fz => exact RepV.mono a.mono k h
  | own => obtain ⟨b, eb, nb, c⟩ := h; exact ⟨b, eb, nf b c.dom nb, c.mono a.mono k fun o e => a.keep b o e⟩
  | lk => obtain ⟨b, eb, nb, c⟩ := h; exact ⟨b, eb, nf b c.dom nb, c.mono a.mono k fun o e => a.keep b o e⟩
  | ro =>
    rcases h with h | ⟨b, eb, c⟩
    · exact .inl (RepV.mono a.mono k h)
    · exact .inr ⟨b, eb, c.mono a.mono k fun o e => a.keep b o e⟩
theorem AllocR.held (a : AllocR g F H r v F' H') (R : Rep g F H σ env) : HeldO g F' H' σ env (New H O) (.vl r.1 r.2) v := by
  obtain ⟨q, f⟩ := r
  cases f with
  | false => exact a.val rfl
  | true =>
    obtain ⟨b, e, hn, nf, c⟩ := a.obj rfl
    refine ⟨b, e, nf, c, .inr hn, fun i s ei k es => ?_⟩
    obtain ⟨w, ew, h⟩ := R.slot i s ei
    rw [es] at ew; cases ew
    obtain ⟨q, kd⟩ := s
    cases kd with
    | fz => exact (k rfl).elim
    | own => obtain ⟨_, e', _, c'⟩ := h; cases e'; exact (c'.dom hn).elim
    | lk => obtain ⟨_, e', _, c'⟩ := h; cases e'; exact (c'.dom hn).elim
    | ro =>
      rcases h with h | ⟨_, e', c'⟩
      · exact RepV.mono a.mono (fun b o _ e => a.keep b o e) h
      · cases e'; exact (c'.dom hn).elim
theorem AllocR.same (h : RepV g F H r.1 v) (f : r.2 = false) : AllocR g F H r v F H :=
  ⟨fun _ _ e => e, fun _ h => h, fun _ h => .inl h, fun h => h, fun _ => h, fun e => by rw [f] at e; cases e⟩
theorem upd_keep {o : HO} (hp : H p = none) : ∀ a u, H a = some u → upd H p o a = some u := fun a u e => by rw [upd_ne (ne_of_none e hp)]; exact e
/-- a new object, owned -/
theorem AllocR.new {o : HO} {q : PV} (hp : H p = none) (nf : ∀ a, F a → H a ≠ none) (c : RepC g F (upd H p o) p q) : AllocR g F H (q, true) (.ref p) F (upd H p o) :=
  ⟨upd_keep hp, fun _ h => h, fun _ h => .inl h, fun _ a h => (by
    have := nf a h
    by_cases e : a = p
    · subst e; rw [upd_same]; exact fun h => nomatch h
    · rw [upd_ne e]; exact this), fun e => (nomatch e), fun _ => ⟨p, rfl, hp, fun h => nf p h hp, c⟩⟩
theorem AllocR.newL {xs : List PV} {vs : List V} (hp : H p = none) (nf : ∀ a, F a → H a ≠ none) (l : RepL g F H xs vs) : AllocR g F H (.lst xs, true) (.ref p) F (upd H p (.lst vs)) :=
  .new hp nf (.lst upd_same (l.mono (fun _ h => h) fun a o _ e => upd_keep hp a o e))
/-- a new tuple, frozen at once -/
theorem AllocR.newZ {o : HO} {q : PV} (hp : H p = none) (r : RepV g (fun a => F a ∨ a = p) (upd H p o) q (.ref p)) : AllocR g F H (q, false) (.ref p) (fun a => F a ∨ a = p) (upd H p o) :=
  ⟨upd_keep hp, fun _ h => .inl h, fun a h => (by
    rcases h with h | rfl
    · exact .inl h
    · exact .inr hp), fun nf a h => (by
    rcases h with h | rfl
    · by_cases e : a = p
      · subst e; rw [upd_same]; exact fun h => nomatch h
      · rw [upd_ne e]; exact nf a h
    · rw [upd_same]; exact fun h => nomatch h), fun _ => r, fun e => nomatch e⟩
theorem AllocR.newT {xs : List PV} {vs : List V} (hp : H p = none) (l : RepL g F H xs vs) : AllocR g F H (.tup xs, false) (.ref p) (fun a => F a ∨ a = p) (upd H p (.tup vs)) :=
  .newZ hp (.tup (.inr rfl) upd_same (l.mono (fun _ h => .inl h) fun a o _ e => upd_keep hp a o e))
/-- the result of an operation -/
def Out (g : Gw) (F : Ad) (H : Hp) (r : Rv) (Q : VK) : Prop := ∀ v F' H', AllocR g F H r v F' H' → Q v H'
theorem Out.int {i : Int} {Q : VK} (h : Out g F H (.int i, false) Q) : Q (.int i) H := h _ F H (.same (.int i) rfl)
theorem Out.bl {i : Bool} {Q : VK} (h : Out g F H (.bl i, false) Q) : Q (.bl i) H := h _ F H (.same (.bl i) rfl)
theorem Out.str {i : Str} {Q : VK} (h : Out g F H (.str i, false) Q) : Q (.str i) H := h _ F H (.same (.str i) rfl)
theorem Out.lst {xs : List PV} {vs : List V} {Q : VK} (h : Out g F H (.lst xs, true) Q) (nf : ∀ a, F a → H a ≠ none) (l : RepL g F H xs vs) : ∀ p, H p = none → Q (.ref p) (upd H p (.lst vs)) := fun p hp => h _ _ _ (.newL hp nf l)
theorem Out.tup {xs : List PV} {vs : List V} {Q : VK} (h : Out g F H (.tup xs, false) Q) (l : RepL g F H xs vs) : ∀ p, H p = none → Q (.ref p) (upd H p (.tup vs)) := fun p hp => h _ _ _ (.newT hp l)
end
abbrev Dm (F : Ad) (H : Hp) : Prop := ∀ a, F a → H a ≠ none
/-- a two-place operation by its pure meaning -/
def r2 (g : Gw) (f : PV → PV → Option Rv) : R2 := fun x y H Q => ∃ F p q r, Dm F H ∧ Peek g F H p x ∧ Peek g F H q y ∧ f p q = some r ∧ Out g F H r Q
def r1 (g : Gw) (f : PV → Option Rv) : V → Hp → VK → Prop := fun x H Q => ∃ F p r, Dm F H ∧ Peek g F H p x ∧ f p = some r ∧ Out g F H r Q
def rN (g : Gw) (f : List PV → Option Rv) : List V → Hp → VK → Prop := fun xs H Q => ∃ F ps r, Dm F H ∧ PeekL g F H ps xs ∧ f ps = some r ∧ Out g F H r Q

section
variable {g : Gw} {X : Cx}
theorem mulOk_ok {i j : Int} (h : mulOk i j = true) : IntMulOk i j := by
  unfold mulOk at h
  simp only [Bool.or_eq_true, Bool.and_eq_true, decide_eq_true_eq] at h
  rcases h with (h | h) | h
  · exact CMulW.ok h
  · exact CMul.ok (.inl h)
  · exact CMul.ok (.inr h)
theorem powOk_ok {i j : Int} (h : powOk i j = true) : CPow i j := by
  unfold powOk at h
  simp only [Bool.and_eq_true, decide_eq_true_eq] at h
  exact ⟨h.1.1, h.1.2, h.2⟩
theorem op_mulA : OpR X (binaryOp .Mult) (rI IntMulOk fun i j => .int (i * j)) := opI fun _ _ _ _ _ _ _ hc q => mul_int q hc
theorem intF_some {c : Int → Int → Bool} {f : Int → Int → Int} {p q : PV} {r : Rv} (e : intF c f p q = some r) : ∃ i j, p = .int i ∧ q = .int j ∧ c i j = true ∧ r = (.int (f i j), false) := by
  unfold intF at e
  split at e
  · split at e
    · cases e; exact ⟨_, _, rfl, rfl, by assumption, rfl⟩
    · cases e
  · cases e
theorem int_ok {f : Value → Value → Sem Value} {C : Int → Int → Prop} {c : Int → Int → Bool} {m : Int → Int → Int} (h : OpR X f (rI C fun i j => .int (m i j))) (hc : ∀ i j, c i j = true → C i j) : OpR X f (r2 g (intF c m)) := by
  intro pins s σ H x y v u Q I rx ry ⟨F, p, q, r, nf, hp, hq, e, k⟩
  obtain ⟨i, j, rfl, rfl, hcc, rfl⟩ := intF_some e
  have e1 := hp.int; have e2 := hq.int; subst e1 e2
  exact h pins s σ H _ _ v u Q I rx ry ⟨_, _, rfl, rfl, hc _ _ hcc, k.int⟩
theorem rI0_rI {f : Int → Int → V} : rI0 f = rI (fun _ _ => True) f := by
  funext x y H Q
  simp [rI0, rI]
theorem int_ok0 {f : Value → Value → Sem Value} {c : Int → Int → Bool} {m : Int → Int → Int} (h : OpR X f (rI0 fun i j => .int (m i j))) : OpR X f (r2 g (intF c m)) := int_ok (by rw [rI0_rI] at h; exact h) fun _ _ _ => trivial
theorem Peek.tupV {F : Ad} {H : Hp} {xs : List PV} {v : V} (h : Peek g F H (.tup xs) v) : RepV g F H (.tup xs) v := h.imm rfl
theorem add_ok (hK : X.K = g.K) : OpR X (binaryOp .Add) (r2 g addF) := by
  intro pins s σ H x y v u Q I rx ry ⟨F, p, q, r, nf, hp, hq, e, k⟩
  unfold addF at e
  split at e
  · cases e; have e1 := hp.int; have e2 := hq.int; subst e1 e2; exact op_add pins s σ H _ _ v u Q I rx ry ⟨_, _, rfl, rfl, k.int⟩
  · cases e; have e1 := hp.int; have e2 := hq.bl; subst e1 e2; exact op_add_ib pins s σ H _ _ v u Q I rx ry ⟨_, _, rfl, rfl, k.int⟩
  · split at e
    · cases e; have e1 := hp.str; have e2 := hq.str; subst e1 e2; exact op_add_str pins s σ H _ _ v u Q I rx ry ⟨_, _, rfl, rfl, by assumption, k.str⟩
    · cases e
  · split at e
    · cases e
      obtain ⟨a, vs, rfl, ea, la⟩ := hp.lst
      obtain ⟨b, ws, rfl, eb, lb⟩ := hq.lst
      exact op_cat pins s σ H _ _ v u Q I rx ry ⟨_, _, _, _, rfl, rfl, ea, eb, by rw [← la.length, ← lb.length]; assumption, k.lst nf (la.append lb)⟩
    · cases e
  · split at e
    · cases e
      rename_i i j hz
      obtain ⟨a, vs, rfl, ea, la⟩ := hp.tup
      obtain ⟨b, ws, rfl, eb, lb⟩ := hq.tup
      refine op_catA pins s σ H _ _ v u Q I rx ry ⟨_, _, _, _, rfl, rfl, SqT.of ea, SqT.of eb, by rw [← la.length, ← lb.length]; assumption, fun z => ?_, fun _ z => ?_, fun _ _ => k.tup (la.append lb)⟩
      · subst z; cases la
        exact k _ F H (.same (by simpa using hq.tupV) rfl)
      · subst z; cases lb
        exact k _ F H (.same (by simpa using hp.tupV) rfl)
    · cases e
  · cases e
theorem mul_ok : OpR X (binaryOp .Mult) (r2 g mulF) := by
  intro pins s σ H x y v u Q I rx ry ⟨F, p, q, r, nf, hp, hq, e, k⟩
  unfold mulF at e
  split at e
  · split at e
    · cases e; have e1 := hp.int; have e2 := hq.int; subst e1 e2; exact op_mulA pins s σ H _ _ v u Q I rx ry ⟨_, _, rfl, rfl, mulOk_ok (by assumption), k.int⟩
    · cases e
  · split at e
    · cases e
      rename_i i j hz
      obtain ⟨h1, h2⟩ := hz
      unfold inB at h1
      simp only [Bool.and_eq_true, decide_eq_true_eq] at h1
      obtain ⟨a, vs, rfl, ea, la⟩ := hp.lst
      have e2 := hq.int; subst e2
      refine op_rep pins s σ H _ _ v u Q I rx ry ⟨_, _, _, rfl, rfl, ea, by omega, by omega, by rw [← la.length]; exact h2, k.lst nf ?_⟩
      generalize j.toNat = n
      induction n with
      | zero => exact .nil
      | succ n ih => rw [List.replicate_succ, List.replicate_succ, List.flatten_cons, List.flatten_cons]; exact la.append ih
    · cases e
  · cases e
def bopIs : Bop → Operator → Bool
  | .add, .Add | .sub, .Sub | .mul, .Mult | .fdiv, .FloorDiv | .mod, .Mod | .pow, .Pow | .band, .BitAnd | .bor, .BitOr | .bxor, .BitXor | .shl, .LShift | .shr, .RShift => true
  | _, _ => false
theorem bin_ok (hK : X.K = g.K) {b : Bop} {o : Operator} (hb : bopIs b o = true) : OpR X (binaryOp o) (r2 g (binF b)) := by
  cases b <;> cases o <;> first | (cases hb; done) | skip
  · exact add_ok hK
  · exact int_ok0 op_sub
  · exact mul_ok
  · exact int_ok op_fdivW fun i j h => by
      simp only [Bool.and_eq_true, decide_eq_true_eq] at h
      exact h
  · exact int_ok op_mod fun i j h => of_decide_eq_true h
  · exact int_ok op_pow fun i j h => powOk_ok h
  · exact int_ok0 op_and
  · exact int_ok0 op_or
  · exact int_ok0 op_xor
  · exact int_ok op_shl fun i j h => powOk_ok h
  · exact int_ok op_shr fun i j h => of_decide_eq_true h
end
end L2.Pz
set_option Elab.async false
set_option linter.all false
set_option maxRecDepth 100000
set_option maxHeartbeats 4000000
namespace L2.Pz
set_option autoImplicit false
open PySem PySem.Spec PyProof.Rows L2

/-! ## Pz4: comparisons, subscripts -/
section
variable {g : Gw} {F : Ad} {H : Hp}
theorem scrD (a : Addr) : ∀ xs : List Int, DpAll g.K H (xs.map V.int) (xs.map PyData.int)
  | [] => .nil
  | _ :: xs => .cons (.int _) (scrD a xs)
mutual
theorem RepV.dp : ∀ {p : PV} {v : V}, RepV g F H p v → p.toD.canLay0 = true → Dp g.K H v p.toD
  | _, _, .non, _ => .non
  | _, _, .bl b, _ => .bl b
  | _, _, .int i, _ => .int i
  | _, _, .str s, _ => .str s
  | _, _, .tup f r l, h => .tup (.inl (.inl r)) (RepL.dp l (by simpa [PV.toD, PyData.canLay0] using h))
  | _, _, .lst f r l, h => .lst (.inl (.inl r)) (RepL.dp l (by simpa [PV.toD, PyData.canLay0] using h))
  | _, _, .scr (a := a) f r, h => .lst (.inl r) (scrD a _)
  | _, _, .scrK (a := a) r, h => .lst (.inr r) (scrD a _)
  | _, _, .rng _ _, h => by simp [PV.toD, PyData.canLay0] at h
  | _, _, .dk _ _ _, h => by simp [PV.toD, PyData.canLay0] at h
  | _, _, .dt _ _ _, h => by simp [PV.toD, PyData.canLay0] at h
  | _, _, .set _ _ _, h => by simp [PV.toD, PyData.canLay0] at h
theorem RepL.dp : ∀ {p : List PV} {v : List V}, RepL g F H p v → PyData.canLayAll0 (toDs p) = true → DpAll g.K H v (toDs p)
  | _, _, .nil, _ => .nil
  | _, _, .cons a b, h => by
    simp only [toDs, PyData.canLayAll0, Bool.and_eq_true] at h
    exact .cons (RepV.dp a h.1) (RepL.dp b h.2)
end
theorem Peek.dp {p : PV} {v : V} (h : Peek g F H p v) (o : okP p = true) : Dp g.K H v p.toD := by
  have c := SeqAt.canLay_of_shaped o
  rcases h with h | ⟨a, rfl, h⟩
  · exact h.dp c
  · cases h with
    | lst e l => exact .lst (.inl (.inl e)) (l.dp (by simpa [PV.toD, PyData.canLay0] using c))
    | dk e l => simp [PV.toD, PyData.canLay0] at c
    | dt e l => simp [PV.toD, PyData.canLay0] at c
    | set e l => simp [PV.toD, PyData.canLay0] at c
theorem any_toDs (x : PV) : ∀ ys : List PV, (toDs ys).any (fun z => PyData.eqv z x.toD) = ys.any fun y => eqP y x
  | [] => rfl
  | y :: ys => by
    rw [toDs, List.any_cons, List.any_cons, any_toDs x ys]
    rfl
theorem toKey_some {p : PV} {k : Key} {v : V} (h : Peek g F H p v) (e : toKey p = some k) : v = kV k := by
  unfold toKey at e
  split at e
  · cases e; exact h.int
  · cases e; exact h.str
  · cases e
theorem toKeys_some : ∀ {ps : List PV} {ks : List Key} {vs : List V}, RepL g F H ps vs → toKeys ps = some ks → vs = ks.map kV
  | [], _, _, .nil, e => by cases e; rfl
  | p :: ps, _, _, .cons a b, e => by
    unfold toKeys at e
    split at e
    · rename_i k ks h1 h2
      cases e
      rw [toKey_some (.inl a) h1, toKeys_some b h2]
      rfl
    · cases e
theorem RepK.look : ∀ {ps : List (Key × PV)} {vs : List (Key × V)} (k : Key), RepK g F H ps vs → (∀ p, lookP ps k = some p → ∃ v, valV vs k = some v ∧ RepV g F H p v) ∧ (lookP ps k).isSome = (valV vs k).isSome
  | _, _, k, .nil => ⟨fun p e => (by cases e), rfl⟩
  | _, _, k, .cons (k := j) (x := x) (v := v) a b => by
    have ih := RepK.look k b
    by_cases h : j = k
    · subst h
      rw [lookP, if_pos rfl, valV_pos rfl]
      exact ⟨fun p e => (by cases e; exact ⟨_, rfl, a⟩), rfl⟩
    · rw [lookP, if_neg h, valV_neg h]
      exact ih
theorem RepT.look : ∀ {ps : List (List Key × PV)} {vs : List (List Key × V)} (k : List Key), RepT g F H ps vs → (∀ p, lookP ps k = some p → ∃ v, valV vs k = some v ∧ RepV g F H p v) ∧ (lookP ps k).isSome = (valV vs k).isSome
  | _, _, k, .nil => ⟨fun p e => (by cases e), rfl⟩
  | _, _, k, .cons (k := j) (x := x) (v := v) a b => by
    have ih := RepT.look k b
    by_cases h : j = k
    · subst h
      rw [lookP, if_pos rfl, valV_pos rfl]
      exact ⟨fun p e => (by cases e; exact ⟨_, rfl, a⟩), rfl⟩
    · rw [lookP, if_neg h, valV_neg h]
      exact ih
theorem asInts_some : ∀ {ps : List PV} {ns : List Int}, asInts ps = some ns → ps = ns.map PV.int
  | [], _, e => by cases e; rfl
  | p :: ps, ns, e => by
    unfold asInts at e
    cases p with
    | int i =>
      obtain ⟨ms, e1, e2⟩ := Option.map_eq_some_iff.mp e
      rw [asInts_some e1, ← e2]
      rfl
    | _ => cases e
theorem asBools_some : ∀ {ps : List PV} {ns : List Bool}, asBools ps = some ns → ps = ns.map PV.bl
  | [], _, e => by cases e; rfl
  | p :: ps, ns, e => by
    unfold asBools at e
    cases p with
    | bl i =>
      obtain ⟨ms, e1, e2⟩ := Option.map_eq_some_iff.mp e
      rw [asBools_some e1, ← e2]
      rfl
    | _ => cases e
theorem RepL.ints {ps : List PV} {vs : List V} {ns : List Int} (l : RepL g F H ps vs) (e : asInts ps = some ns) : vs = ns.map V.int := by
  have := asInts_some e
  subst this
  exact l.ofInts
theorem RepL.ofBools : ∀ {xs : List Bool} {vs : List V}, RepL g F H (xs.map PV.bl) vs → vs = xs.map V.bl
  | [], _, .nil => rfl
  | x :: xs, _, .cons a b => by cases a; rw [b.ofBools]; rfl
theorem RepL.bools {ps : List PV} {vs : List V} {ns : List Bool} (l : RepL g F H ps vs) (e : asBools ps = some ns) : vs = ns.map V.bl := by
  have := asBools_some e
  subst this
  exact l.ofBools
/-- a dict's answer for a key -/
theorem dget {d k : PV} {x y : V} (hd : Peek g F H d x) (hk : Peek g F H k y) {kk : Key} {kvs : List (Key × PV)} (e : d = .dk kvs) (ek : toKey k = some kk) :
    ∃ a r, x = .ref a ∧ DGet H a y r ∧ (∀ p, lookP kvs kk = some p → ∃ v, r = some v ∧ RepV g F H p v) ∧ (lookP kvs kk).isSome = r.isSome := by
  subst e
  obtain ⟨a, vs, rfl, ea, l⟩ := hd.dk
  have e1 := toKey_some hk ek
  subst e1
  exact ⟨a, _, rfl, DGet.k ea, (l.look kk).1, (l.look kk).2⟩
theorem dgetT {d : PV} {ks : List PV} {x y : V} (hd : Peek g F H d x) (hk : Peek g F H (.tup ks) y) {kk : List Key} {kvs : List (List Key × PV)} (e : d = .dt kvs) (ek : toKeys ks = some kk) :
    ∃ a r, x = .ref a ∧ DGet H a y r ∧ (∀ p, lookP kvs kk = some p → ∃ v, r = some v ∧ RepV g F H p v) ∧ (lookP kvs kk).isSome = r.isSome := by
  subst e
  obtain ⟨a, vs, rfl, ea, l⟩ := hd.dt
  obtain ⟨b, ws, rfl, eb, lb⟩ := hk.tup
  have e1 := toKeys_some lb ek
  subst e1
  exact ⟨a, _, rfl, DGet.t ea eb, (l.look kk).1, (l.look kk).2⟩
end
section
variable {g : Gw} {X : Cx}
/-- a comparison by its pure meaning -/
def rB (g : Gw) (f : PV → PV → Option Bool) : R2 := r2 g fun p q => (f p q).map fun b => (.bl b, false)
theorem rB_ok {f : Value → Value → Sem Value} {m : PV → PV → Option Bool}
    (h : ∀ (pins : List (Addr × Obj)) (s : Shared) (σ : St) (H : Hp) (x y : V) (v u : Value) (Q : VK) (F : Ad) (p q : PV) (b : Bool), Inv X pins σ H s → RelV x v → RelV y u → Dm F H → Peek g F H p x → Peek g F H q y → m p q = some b → Q (.bl b) H → wpAny (model X.prog X.w) X.A (f v u) (EP X pins σ Q) X.xe s) :
    OpR X f (rB g m) := by
  intro pins s σ H x y v u Q I rx ry ⟨F, p, q, r, nf, hp, hq, e, k⟩
  obtain ⟨b, e1, rfl⟩ := Option.map_eq_some_iff.mp e
  exact h pins s σ H x y v u Q F p q b I rx ry nf hp hq e1 k.bl
theorem icF_ok {f : Value → Value → Sem Value} {m : Int → Int → Bool} (h : OpR X f (rI0 fun i j => .bl (m i j))) : OpR X f (rB g (icF m)) := rB_ok fun pins s σ H x y v u Q F p q b I rx ry _ hp hq e k => by
  unfold icF at e
  split at e
  · cases e; have e1 := hp.int; have e2 := hq.int; subst e1 e2; exact h pins s σ H _ _ v u Q I rx ry ⟨_, _, rfl, rfl, k⟩
  · cases e
theorem eq_ok (hK : X.K = g.K) (hu : X.A.units + 64 < cLine) : OpR X (compareOp .Eq) (rB g (eqF false)) := rB_ok fun pins s σ H x y v u Q F p q b I rx ry _ hp hq e k => by
  unfold eqF at e
  split at e
  · rename_i h
    cases e
    exact op_eqD hu pins s σ H x y v u Q I rx ry ⟨_, _, by rw [hK]; exact hp.dp h.1, by rw [hK]; exact hq.dp h.2, h.1, h.2, by simpa [eqP] using k⟩
  · cases e
theorem ne_ok (hK : X.K = g.K) (hu : X.A.units + 64 < cLine) : OpR X (compareOp .NotEq) (rB g (eqF true)) := rB_ok fun pins s σ H x y v u Q F p q b I rx ry _ hp hq e k => by
  unfold eqF at e
  split at e
  · rename_i h
    cases e
    exact op_neD hu pins s σ H x y v u Q I rx ry ⟨_, _, by rw [hK]; exact hp.dp h.1, by rw [hK]; exact hq.dp h.2, h.1, h.2, by simpa [eqP] using k⟩
  · cases e
theorem lexI_eq : ∀ xs ys : List Int, lexI xs ys = HT.lexLt xs ys
  | [], [] => by simp [lexI, HT.lexLt]
  | [], _ :: _ => by simp [lexI, HT.lexLt]
  | _ :: _, [] => by simp [lexI, HT.lexLt]
  | x :: xs, y :: ys => by
    have := lexI_eq xs ys
    by_cases h : x = y <;> simp [lexI, HT.lexLt, this, h]
theorem lt_ok (hK : X.K = g.K) (hu : X.A.units + 64 < cLine) : OpR X (compareOp .Lt) (rB g ltF) := rB_ok fun pins s σ H x y v u Q F p q b I rx ry _ hp hq e k => by
  unfold ltF at e
  split at e
  · cases e; have e1 := hp.int; have e2 := hq.int; subst e1 e2; exact op_lt pins s σ H _ _ v u Q I rx ry ⟨_, _, rfl, rfl, k⟩
  · split at e
    · rename_i ns ms h1 h2
      cases e
      obtain ⟨a, vs, rfl, ea, la⟩ := hp.tup
      obtain ⟨b, ws, rfl, eb, lb⟩ := hq.tup
      have e1 := la.ints h1
      have e2 := lb.ints h2
      subst e1 e2
      exact op_ltT (by omega) pins s σ H _ _ v u Q I rx ry ⟨_, _, _, _, rfl, rfl, SqT.of ea, SqT.of eb, by rw [← lexI_eq]; exact k⟩
    · cases e
  · cases e
theorem peek_non {F : Ad} {H : Hp} {p : PV} {x : V} (h : Peek g F H p x) : decide (x = .non) = p.isNon := by
  rcases h with h | ⟨a, rfl, h⟩
  · cases h <;> simp [PV.isNon]
  · cases h <;> simp [PV.isNon]
theorem is_ok : OpR X (compareOp .Is) (rB g isF) := rB_ok fun pins s σ H x y v u Q F p q b I rx ry _ hp hq e k => by
  unfold isF at e
  split at e
  · cases e; have e1 := hq.non; subst e1
    exact op_isN pins s σ H _ _ v u Q I rx ry ⟨rfl, by rw [peek_non hp]; exact k⟩
  · split at e
    · cases e; have e1 := hq.bl; have e2 := hp.bl; subst e1 e2
      exact op_is_bl pins s σ H _ _ v u Q I rx ry ⟨_, _, rfl, rfl, by rw [Bool.beq_eq_decide_eq] at k; exact k⟩
    · cases e
  · cases e
theorem isn_ok : OpR X (compareOp .IsNot) (rB g fun a b => (isF a b).map (!·)) := rB_ok fun pins s σ H x y v u Q F p q b I rx ry _ hp hq e k => by
  obtain ⟨c, e1, e2⟩ := Option.map_eq_some_iff.mp e
  subst e2
  clear e
  have e := e1
  unfold isF at e
  split at e
  · cases e; have e1 := hq.non; subst e1
    exact op_notN pins s σ H _ _ v u Q I rx ry ⟨rfl, by rw [peek_non hp]; exact k⟩
  · split at e
    · cases e; have e1 := hq.bl; have e2 := hp.bl; subst e1 e2
      exact op_isnot_bl pins s σ H _ _ v u Q I rx ry ⟨_, _, rfl, rfl, by rw [Bool.beq_eq_decide_eq] at k; exact k⟩
    · cases e
  · cases e
/-- x in y, x not in y -/
theorem in_gen (hK : X.K = g.K) (hw : X.w = g.w) (hu : X.A.units + 65 < cLine) (neg : Bool) {pins : List (Addr × Obj)} {s : Shared} {σ : St} {H : Hp} {x y : V} {v u : Value} {Q : VK} {F : Ad} {p q : PV} {b : Bool} (I : Inv X pins σ H s)
    (rx : RelV x v) (ry : RelV y u) (hp : Peek g F H p x) (hq : Peek g F H q y) (e : inF p q = some b) (k : Q (.bl (neg != b)) H) :
    wpAny (model X.prog X.w) X.A (compareOp (if neg then .NotIn else .In) v u) (EP X pins σ Q) X.xe s := by
  have hneg : ∀ c, (neg != c) = (if neg then !c else c) := fun c => by cases neg <;> cases c <;> rfl
  rw [hneg] at k
  unfold inF at e
  split at e
  · split at e
    · rename_i ys h
      cases e
      obtain ⟨as, r1⟩ := Dp.reads I _ x v (by rw [hK]; exact hp.dp h.1) rx
      obtain ⟨bs, r2⟩ := Dp.reads I _ y u (by rw [hK]; exact hq.dp h.2) ry
      simp only [PV.toD] at r2
      rw [← any_toDs] at k
      have sl : SeqAt.shaped (.list (toDs ys)) = true := h.2
      cases neg
      · exact SeqAt.in_list_reads r2 r1 (SeqAt.canLay_of_shaped sl) (SeqAt.canLay_of_shaped h.1) (room_in_shaped h.1 hu) ⟨.bl _, H, I, rfl, k⟩
      · exact SeqAt.notIn_list_reads r2 r1 (SeqAt.canLay_of_shaped sl) (SeqAt.canLay_of_shaped h.1) (room_in_shaped h.1 hu) ⟨.bl _, H, I, rfl, k⟩
    · cases e
  · split at e
    · rename_i ys h
      cases e
      obtain ⟨as, r1⟩ := Dp.reads I _ x v (by rw [hK]; exact hp.dp h.1) rx
      obtain ⟨bs, r2⟩ := Dp.reads I _ y u (by rw [hK]; exact hq.dp h.2) ry
      simp only [PV.toD] at r2
      rw [← any_toDs] at k
      have sl : SeqAt.shaped (.tuple (toDs ys)) = true := h.2
      cases neg
      · exact SeqAt.in_tuple_reads r2 r1 (SeqAt.canLay_of_shaped sl) (SeqAt.canLay_of_shaped h.1) (room_in_shaped h.1 hu) ⟨.bl _, H, I, rfl, k⟩
      · exact SeqAt.notIn_tuple_reads r2 r1 (SeqAt.canLay_of_shaped sl) (SeqAt.canLay_of_shaped h.1) (room_in_shaped h.1 hu) ⟨.bl _, H, I, rfl, k⟩
    · cases e
  · obtain ⟨kk, e1, rfl⟩ := Option.map_eq_some_iff.mp e
    obtain ⟨a, r, rfl, d, _, h2⟩ := dget hq hp rfl e1
    cases ry
    rw [h2] at k
    cases neg
    · exact d_in (by omega) I d rx fun s' I' => ⟨.bl _, H, I', rfl, k⟩
    · exact d_notIn (by omega) I d rx fun s' I' => ⟨.bl _, H, I', rfl, k⟩
  · split at e
    · obtain ⟨kk, e1, rfl⟩ := Option.map_eq_some_iff.mp e
      obtain ⟨a, r, rfl, d, _, h2⟩ := dgetT hq hp rfl e1
      cases ry
      rw [h2] at k
      cases neg
      · exact d_in (by omega) I d rx fun s' I' => ⟨.bl _, H, I', rfl, k⟩
      · exact d_notIn (by omega) I d rx fun s' I' => ⟨.bl _, H, I', rfl, k⟩
    · cases e
  · split at e
    · cases e
      rename_i xs i
      obtain ⟨a, S, n, rfl, ea, hs⟩ := hq.set
      have e1 := hp.int; subst e1
      rw [← hw] at ea
      rw [← hs.2.2 i] at k
      cases neg
      · exact or_sin pins s σ H _ _ v u Q I rx ry ⟨_, _, _, _, rfl, rfl, ea, k⟩
      · exact or_snotin pins s σ H _ _ v u Q I rx ry ⟨_, _, _, _, rfl, rfl, ea, k⟩
    · cases e
  · cases e
theorem in_ok (hK : X.K = g.K) (hw : X.w = g.w) (hu : X.A.units + 65 < cLine) : OpR X (compareOp .In) (rB g inF) := rB_ok fun pins s σ H x y v u Q F p q b I rx ry _ hp hq e k =>
  in_gen hK hw hu false I rx ry hp hq e (by simpa using k)
theorem nin_ok (hK : X.K = g.K) (hw : X.w = g.w) (hu : X.A.units + 65 < cLine) : OpR X (compareOp .NotIn) (rB g fun a b => (inF a b).map (!·)) := rB_ok fun pins s σ H x y v u Q F p q b I rx ry _ hp hq e k => by
  obtain ⟨c, e1, rfl⟩ := Option.map_eq_some_iff.mp e
  exact in_gen hK hw hu true I rx ry hp hq e1 (by simpa using k)
def copIs : Cop → CmpOp → Bool
  | .eq, .Eq | .ne, .NotEq | .lt, .Lt | .le, .LtE | .gt, .Gt | .ge, .GtE | .inn, .In | .nin, .NotIn | .is_, .Is | .isn, .IsNot => true
  | _, _ => false
theorem cmp_ok (hK : X.K = g.K) (hw : X.w = g.w) (hu : X.A.units + 65 < cLine) {c : Cop} {o : CmpOp} (h : copIs c o = true) : OpR X (compareOp o) (rB g (cmpF c)) := by
  cases c <;> cases o <;> first | (cases h; done) | skip
  · exact eq_ok hK (by omega)
  · exact ne_ok hK (by omega)
  · exact lt_ok hK (by omega)
  · exact icF_ok op_le
  · exact icF_ok op_gt
  · exact icF_ok op_ge
  · exact in_ok hK hw hu
  · exact nin_ok hK hw hu
  · exact is_ok
  · exact isn_ok
end
end L2.Pz
set_option Elab.async false
set_option linter.all false
set_option maxRecDepth 100000
set_option maxHeartbeats 8000000
namespace L2.Pz
set_option autoImplicit false
open PySem PySem.Spec PyProof.Rows L2

/-! ## Pz4s: the set of a list of ints -/
section
variable {P : Program} {w : World} {A : Around} {E : Value → Shared → Prop} {s : Shared}
theorem set_of_list {l : Addr} {items : Array Value} (ns : List Int) {Q : Value → Shared → Prop} (hh : A.handled = none) (hl : s.heap.IsList l items) (hit : IntsAre items.toList ns) (hb : ns.length + 1 < scanBound)
    (h : ∀ (h' : Heap) (tk c : Nat), SetR w h' s.heap.objs.size (fun j => decide (j ∈ ns)) c → c ≤ ns.length → (∀ b o, s.heap.get? b = some o → h'.get? b = some o) → Q (.ref s.heap.objs.size) { s with heap := h', toks := tk }) :
    wpAny (model P w) A (call (.type "set") [.ref l]) Q E s := by
  have hisz : items.size = ns.length := by
    (have q := IntsAre.length hit)
    (rw [Array.length_toList] at q)
    (exact q)
  (obtain ⟨c, tl, hmro⟩ := F.called_set.mro)
  (have hmade := F.called_set.made)
  (have hsub := F.called_set.sub)
  (refine wpAny_call (codeAny_of_tree ?_))
  (show wpAny _ _ (callAny (.type "set") _) _ _ _)
  (refine wpAny_pure ⟨Code.quiet_builtin _ (by decide +kernel), codeAny_builtin F.entry_type_call ?_⟩)
  (rw [Around.under_plain (weight_type_call_type "set" [.ref l] []) rfl])
  (have h1 := F.called_set.notType)
  (have h2 := F.called_set.canCreate)
  (have hct := F.typeCall_set_1 (.ref l))
  (repeat (any_goals (first | assumption | wp_step)))
  (refine codeAny_mono (code_set_led1 (.ref l) (E := E) (Q₁ := fun obj s₁ => obj = .ref s.heap.objs.size ∧ s₁ = { s with heap := s.heap.push { cls := .type "set", dict := none, data := .set #[] 0 (.fresh 0 0 (!w.params.followText "set-order")) } }) ⟨rfl, rfl⟩) fun r s₁ hr => ?_)
  cases r with
  | error e => exact hr
  | ok fl =>
    cases fl with
    | ret obj =>
      (obtain ⟨rfl, rfl⟩ := hr)
      (have hS : (s.heap.push { cls := .type "set", dict := none, data := .set #[] 0 (.fresh 0 0 (!w.params.followText "set-order")) }).get? s.heap.objs.size = some { cls := .type "set", dict := none, data := .set #[] 0 (.fresh 0 0 (!w.params.followText "set-order")) } := Heap.get?_push_size _ rfl)
      (have hT : Shared.TypeIs { s with heap := s.heap.push { cls := .type "set", dict := none, data := .set #[] 0 (.fresh 0 0 (!w.params.followText "set-order")) } } (.ref s.heap.objs.size) "set" := ⟨_, hS, rfl⟩)
      (have hli := F.called_set.init.lookup)
      (have hbi := F.called_set.init.bind (.ref s.heap.objs.size))
      (repeat (any_goals (first | assumption | wp_step)))
      refine codeAny_mono (codeAny_call_builtin (R := wants (fun r s₂ => r = .none ∧ ∃ h' tk c, s₂ = { s with heap := h', toks := tk } ∧ SetR w h' s.heap.objs.size (fun j => decide (j ∈ ns)) c ∧ c ≤ ns.length ∧
          (∀ b o, s.heap.get? b = some o → h'.get? b = some o)) E) F.called_set.init.plain F.entry_set_init (check_set_init_1 hT ?_)) fun r₂ s₂ hr₂ => ?_
      · obtain ⟨ol, hol, hcl, nl, hdl⟩ := hl
        (obtain ⟨ocls, odict, odata, oslots⟩ := ol)
        (simp only at hcl hdl)
        (subst hcl; subst hdl)
        (have hol' : (s.heap.push { cls := .type "set", dict := none, data := .set #[] 0 (.fresh 0 0 (!w.params.followText "set-order")) }).get? l = some { cls := .type "list", dict := odict, data := .seq items nl, slots := oslots } := Heap.get?_push_of_some _ hol)
        (have hsls := F.sub_list_set)
        (have hslf := F.sub_list_frozenset)
        (have hne : (Value.type "list" == Value.type "dict") = false := by decide)
        (have hl1 : (s.heap.push { cls := .type "set", dict := none, data := .set #[] 0 (.fresh 0 0 (!w.params.followText "set-order")) }).IsList l items := ⟨_, hol', rfl, nl, rfl⟩)
        (unfold Builtin.«set.__init__» noKeywords Builtin.Frozenset.updateFrom)
        (generalize hPI : pyIter = PI)
        (wp_walk)
        (subst hPI)
        (refine wpAny_pyIter_list hl1 ?_)
        (refine wpAny_bind (wpAny_runValue ?_))
        (have hlS : l < s.heap.objs.size := Heap.lt_size hol)
        (have hh3 : A.in1.in1.in1.handled = none := by simp [hh])
        (have hz1 : (s.heap.push { cls := .type "set", dict := none, data := .set #[] 0 (.fresh 0 0 (!w.params.followText "set-order")) }).objs.size = s.heap.objs.size + 1 := Heap.size_push ..)
        have hneI : l ≠ (s.heap.push { cls := .type "set", dict := none, data := .set #[] 0 (.fresh 0 0 (!w.params.followText "set-order")) }).objs.size := by
          (rw [Heap.size_push]; exact Nat.ne_of_lt (Nat.lt_succ_of_lt hlS))
        have hSf : s.heap.objs.size ∉ [(s.heap.push { cls := .type "set", dict := none, data := .set #[] 0 (.fresh 0 0 (!w.params.followText "set-order")) }).objs.size, l] := by
          (rw [Heap.size_push]; simp only [List.mem_cons, List.mem_singleton, List.not_mem_nil, or_false, not_or])
          (exact ⟨Nat.ne_of_lt (Nat.lt_succ_self _), Nat.ne_of_gt hlS⟩)
        have hval : ∀ (i : Nat) (v : Value), items[i]? = some v → ∃ k t, ns[i]? = some k ∧ v = .int k t := fun i v hv => by
          (have hi : i < ns.length := by rw [← hisz]; exact (Array.getElem?_eq_some_iff.mp hv).1)
          (obtain ⟨t, e⟩ := PyProof.Rows.IntsAre.int_at hit i v (by rw [Array.getElem?_toList]; exact hv))
          (refine ⟨ns[i], t, List.getElem?_eq_getElem hi, ?_⟩)
          (rw [e, List.getD_eq_getElem?_getD, List.getElem?_eq_getElem hi] <;> rfl)
        refine set_update_ints ((Walks.list hh3 _ l hneI items).toS) s.heap.objs.size
          hSf ns hisz hb hval (items.size - 0) 0 _ (by omega) (Nat.zero_le _)
          ⟨⟨_, Heap.get?_push_size _ rfl, rfl, rfl⟩, (hl1.push _)⟩ ?hS0 ?hR
        case hS0 =>
          have hget : ((s.heap.push { cls := .type "set", dict := none, data := .set #[] 0 (.fresh 0 0 (!w.params.followText "set-order")) }).push { cls := .type "list_iterator", data := .fields #[.ref l, .int 0 0] }).get? s.heap.objs.size
              = some { cls := .type "set", dict := none, data := .set #[] 0 (.fresh 0 0 (!w.params.followText "set-order")) } := Heap.get?_push_of_some _ hS
          (exact ⟨0, Nat.le_refl 0, setR_new_at hget⟩)
        case hR =>
          (intro s' c' hm hc' hS')
          (obtain ⟨h', g2, d', tk', os'⟩ := s')
          (have eg : g2 = s.gens := hm.gens)
          (have ed : d' = s.drawn := hm.drawn)
          (have eo : os' = s.os := hm.os)
          (subst eg; subst ed; subst eo)
          (show wpAny _ _ _ _ _ _)
          (refine wpAny_pure ?_)
          (show wpAny _ _ (ret Value.none) _ _ _)
          (rw [hisz] at hc')
          (refine wpAny_pure ⟨rfl, h', tk', c', rfl, hS', hc', fun b o e => ?_⟩)
          (have hb0 : b < s.heap.objs.size := Heap.lt_size e)
          (have hb1 : b ≠ s.heap.objs.size := Nat.ne_of_lt hb0)
          have hb2 : b ≠ (s.heap.push { cls := .type "set", dict := none, data := .set #[] 0 (.fresh 0 0 (!w.params.followText "set-order")) }).objs.size := by
            (rw [Heap.size_push]; exact Nat.ne_of_lt (Nat.lt_succ_of_lt hb0))
          (exact hm.heap b o (by simp only [List.mem_cons, List.mem_singleton, List.not_mem_nil, or_false, not_or]; exact ⟨hb1, hb2⟩) (Heap.get?_push_of_some _ (Heap.get?_push_of_some _ e)))
      · cases r₂ with
        | error e => exact hr₂
        | ok fl₂ =>
          cases fl₂ with
          | ret r =>
            (obtain ⟨rfl, h', tk, c', rfl, hS', hc', hk'⟩ := hr₂)
            (repeat (any_goals (first | assumption | wp_step)))
            (exact h _ _ _ hS' hc' hk')
          | _ => exact hr₂.elim
    | _ => exact hr.elim
end
end L2.Pz
set_option Elab.async false
set_option linter.all false
set_option maxRecDepth 100000
set_option maxHeartbeats 4000000
namespace L2.Pz
set_option autoImplicit false
open PySem PySem.Spec PyProof.Rows L2

/-! ## Pz5: built-in functions -/
theorem ins_perm (x : Int) : ∀ l : List Int, (ins x l).Perm (x :: l)
  | [] => .refl _
  | y :: r => by
    unfold ins
    split
    · exact .refl _
    · exact ((ins_perm x r).cons y).trans (List.Perm.swap x y r)
theorem isort_perm : ∀ l : List Int, (isort l).Perm l
  | [] => .refl _
  | x :: r => (ins_perm x (isort r)).trans ((isort_perm r).cons x)
theorem mem_ins {x z : Int} {l : List Int} : z ∈ ins x l ↔ z = x ∨ z ∈ l := by
  rw [(ins_perm x l).mem_iff, List.mem_cons]
theorem mem_isort {z : Int} {l : List Int} : z ∈ isort l ↔ z ∈ l := (isort_perm l).mem_iff
theorem ins_sorted (x : Int) : ∀ l : List Int, l.Pairwise (· ≤ ·) → (ins x l).Pairwise (· ≤ ·)
  | [], _ => List.pairwise_singleton _ _
  | y :: r, h => by
    unfold ins
    rw [List.pairwise_cons] at h
    split
    · rename_i hxy
      rw [List.pairwise_cons]
      refine ⟨fun z hz => ?_, by rw [List.pairwise_cons]; exact h⟩
      rcases List.mem_cons.mp hz with rfl | hz
      · exact hxy
      · exact Int.le_trans hxy (h.1 z hz)
    · rename_i hxy
      rw [List.pairwise_cons]
      refine ⟨fun z hz => ?_, ins_sorted x r h.2⟩
      rcases mem_ins.mp hz with rfl | hz
      · omega
      · exact h.1 z hz
theorem isort_sorted : ∀ l : List Int, (isort l).Pairwise (· ≤ ·)
  | [] => .nil
  | x :: r => ins_sorted x _ (isort_sorted r)
theorem sorted_uniq {a b : List Int} (p : a.Perm b) (ha : a.Pairwise (· ≤ ·)) (hb : b.Pairwise (· ≤ ·)) : a = b :=
  p.eq_of_pairwise (fun _ _ _ _ h1 h2 => Int.le_antisymm h1 h2) ha hb
theorem isort_uniq {a l : List Int} (p : a.Perm l) (h : a.Pairwise (· ≤ ·)) : a = isort l := sorted_uniq (p.trans (isort_perm l).symm) h (isort_sorted l)
theorem maxL_mem : ∀ (m : Int) (l : List Int), maxL m l = m ∨ maxL m l ∈ l
  | m, [] => .inl rfl
  | m, x :: r => by
    unfold maxL
    rcases maxL_mem (if m < x then x else m) r with h | h
    · rw [h]; split
      · exact .inr (List.mem_cons_self ..)
      · exact .inl rfl
    · exact .inr (List.mem_cons_of_mem _ h)
theorem maxL_ge : ∀ (m : Int) (l : List Int), m ≤ maxL m l ∧ ∀ x ∈ l, x ≤ maxL m l
  | m, [] => ⟨Int.le_refl _, fun x h => by cases h⟩
  | m, x :: r => by
    unfold maxL
    obtain ⟨h1, h2⟩ := maxL_ge (if m < x then x else m) r
    have h3 : m ≤ (if m < x then x else m) ∧ x ≤ (if m < x then x else m) := by split <;> omega
    refine ⟨by omega, fun y hy => ?_⟩
    rcases List.mem_cons.mp hy with rfl | hy
    · omega
    · exact h2 y hy
theorem minL_mem : ∀ (m : Int) (l : List Int), minL m l = m ∨ minL m l ∈ l
  | m, [] => .inl rfl
  | m, x :: r => by
    unfold minL
    rcases minL_mem (if x < m then x else m) r with h | h
    · rw [h]; split
      · exact .inr (List.mem_cons_self ..)
      · exact .inl rfl
    · exact .inr (List.mem_cons_of_mem _ h)
theorem minL_le : ∀ (m : Int) (l : List Int), minL m l ≤ m ∧ ∀ x ∈ l, minL m l ≤ x
  | m, [] => ⟨Int.le_refl _, fun x h => by cases h⟩
  | m, x :: r => by
    unfold minL
    obtain ⟨h1, h2⟩ := minL_le (if x < m then x else m) r
    have h3 : (if x < m then x else m) ≤ m ∧ (if x < m then x else m) ≤ x := by split <;> omega
    refine ⟨by omega, fun y hy => ?_⟩
    rcases List.mem_cons.mp hy with rfl | hy
    · omega
    · exact h2 y hy
theorem upto_length : ∀ (n : Nat) (lo : Int), (upto lo n).length = n
  | 0, _ => rfl
  | n + 1, lo => by rw [upto, List.length_cons, upto_length n]
theorem upto_get : ∀ (n : Nat) (lo : Int) (k : Nat), k < n → (upto lo n)[k]? = some (lo + k)
  | n + 1, lo, 0, _ => by simp [upto]
  | n + 1, lo, k + 1, h => by
    rw [upto, List.getElem?_cons_succ, upto_get n (lo + 1) k (by omega)]
    exact congrArg some (by omega)
theorem mem_upto {z : Int} : ∀ (n : Nat) (lo : Int), z ∈ upto lo n ↔ lo ≤ z ∧ z < lo + n
  | 0, lo => by simp [upto]
  | n + 1, lo => by
    rw [upto, List.mem_cons, mem_upto n (lo + 1)]
    omega
theorem upto_eq (lo : Int) : ∀ n : Nat, upto lo n = (List.range n).map fun k : Nat => lo + (k : Int) := by
  intro n
  apply List.ext_getElem?
  intro k
  by_cases h : k < n
  · rw [upto_get n lo k h, List.getElem?_map, List.getElem?_range h]; rfl
  · rw [List.getElem?_eq_none (by rw [upto_length]; omega), List.getElem?_eq_none (by simp; omega)]

section
variable {g : Gw} {X : Cx} {F : Ad} {H : Hp}
theorem RepK.length : ∀ {ps : List (Key × PV)} {vs : List (Key × V)}, RepK g F H ps vs → ps.length = vs.length
  | _, _, .nil => rfl
  | _, _, .cons _ b => congrArg Nat.succ b.length
inductive PeekL1 (g : Gw) (F : Ad) (H : Hp) (p : PV) (vs : List V) : Prop
  | mk (v : V) (e : vs = [v]) (h : Peek g F H p v)
theorem PeekL.one {p : PV} {vs : List V} (h : PeekL g F H [p] vs) : ∃ v, vs = [v] ∧ Peek g F H p v := by
  cases h with | cons a b => cases b; exact ⟨_, rfl, a⟩
theorem PeekL.two {p q : PV} {vs : List V} (h : PeekL g F H [p, q] vs) : ∃ v w, vs = [v, w] ∧ Peek g F H p v ∧ Peek g F H q w := by
  cases h with | cons a b => cases b with | cons c d => cases d; exact ⟨_, _, rfl, a, c⟩
theorem PeekL.three {p q r : PV} {vs : List V} (h : PeekL g F H [p, q, r] vs) : ∃ v w z, vs = [v, w, z] ∧ Peek g F H p v ∧ Peek g F H q w ∧ Peek g F H r z := by
  cases h with | cons a b => cases b with | cons c d => cases d with | cons e f => cases f; exact ⟨_, _, _, rfl, a, c, e⟩
theorem len_ok (hK : X.K = g.K) (hw : X.w = g.w) : CallR X (.builtin "len") (rN g lenF) := by
  intro pins s σ H xs us Q I rx ⟨F, ps, r, nf, hp, e, k⟩
  unfold lenF at e
  split at e
  · cases e
    obtain ⟨v, rfl, h⟩ := hp.one
    obtain ⟨a, vs, rfl, ea, l⟩ := h.lst
    exact call_len pins s σ H _ us Q I rx ⟨_, vs.length, rfl, .inl ⟨vs, SqL.of ea, rfl⟩, by rw [← l.length]; exact k.int⟩
  · cases e
    obtain ⟨v, rfl, h⟩ := hp.one
    obtain ⟨a, vs, rfl, ea, l⟩ := h.tup
    exact call_len pins s σ H _ us Q I rx ⟨_, vs.length, rfl, .inr ⟨vs, SqT.of ea, rfl⟩, by rw [← l.length]; exact k.int⟩
  · cases e
    obtain ⟨v, rfl, h⟩ := hp.one
    obtain ⟨a, vs, rfl, ea, l⟩ := h.dk
    exact call_lenD pins s σ H _ us Q I rx ⟨_, vs, rfl, ea, by rw [← l.length]; exact k.int⟩
  · cases e
    obtain ⟨v, rfl, h⟩ := hp.one
    obtain ⟨a, S, n, rfl, ea, hs⟩ := h.set
    rw [← hw] at ea
    obtain ⟨u, rfl, ru⟩ := vals1 rx
    cases ru
    obtain ⟨o, es, ep, t, ho, hex, hd, _, _, _, hz, hf, hn, _⟩ := setO_get I ea
    unfold scanBound at hz
    have q := k.int
    rw [← hs.2.1, ← hn] at q
    exact call_len_set ho hex hd hf (by omega) ⟨.int es.size, H, I.tok _, ⟨_, rfl⟩, q⟩
  · split at e
    · cases e
      obtain ⟨v, rfl, h⟩ := hp.one
      have e1 := h.str; subst e1
      exact call_len pins s σ H _ us Q I rx ⟨_, _, rfl, ⟨by assumption, rfl⟩, k.int⟩
    · cases e
  · cases e
theorem sum_ok (hc : X.calm = true) : CallR X (.builtin "sum") (rN g sumF) := by
  intro pins s σ H xs us Q I rx ⟨F, ps, r, nf, hp, e, k⟩
  unfold sumF at e
  split at e
  · obtain ⟨ns, e1, rfl⟩ := Option.map_eq_some_iff.mp e
    obtain ⟨v, rfl, h⟩ := hp.one
    obtain ⟨a, vs, rfl, ea, l⟩ := h.lst
    have := l.ints e1; subst this
    exact cr_sum hc pins s σ H _ us Q I rx ⟨_, _, rfl, SqL.of ea, k.int⟩
  · obtain ⟨ns, e1, rfl⟩ := Option.map_eq_some_iff.mp e
    obtain ⟨v, rfl, h⟩ := hp.one
    obtain ⟨a, vs, rfl, ea, l⟩ := h.tup
    have := l.ints e1; subst this
    rw [Vals.ref1 rx]
    obtain ⟨its, rv, pt, hz⟩ := I.tuple (SqT.of ea)
    have hi := rv.ints
    obtain ⟨zs, ez⟩ := hi.allInts.items
    have hn : numsOf (intItems zs).toList = ns := by rw [← ez]; exact hi.numsOf
    rw [nums_intItems] at hn
    have pt' : s.heap.IsTuple a (intItems zs) := by rw [← ez]; exact pt
    refine PySem.W.ktm_sumG (I.ok.hd hc) pt' fun h' tk t' hk => ?_
    refine ⟨.int ns.sum, H, I.kept hk, ?_, k.int⟩
    rw [preSum_eq, List.take_of_length_le (by simp), hn]
    exact ⟨_, rfl⟩
  · cases e
theorem min_ok (hc : X.calm = true) : CallR X (.builtin "min") (rN g minF) := by
  intro pins s σ H xs us Q I rx ⟨F, ps, r, nf, hp, e, k⟩
  unfold minF at e
  split at e
  · split at e
    · rename_i n ns e1
      cases e
      obtain ⟨v, rfl, h⟩ := hp.one
      obtain ⟨a, vs, rfl, ea, l⟩ := h.lst
      have := l.ints e1; subst this
      refine cr_min hc pins s σ H _ us Q I rx ⟨_, _, rfl, SqL.of ea, by simp, fun m hm hle => ?_⟩
      obtain ⟨h1, h2⟩ := minL_le n ns
      have h3 : minL n ns ∈ n :: ns := by
        rcases minL_mem n ns with h | h
        · rw [h]; exact List.mem_cons_self ..
        · exact List.mem_cons_of_mem _ h
      have h4 : minL n ns ≤ m := by
        rcases List.mem_cons.mp hm with rfl | hm
        · exact h1
        · exact h2 m hm
      have h5 := hle _ h3
      have : m = minL n ns := by omega
      subst this
      exact k.int
    · cases e
  · cases e
    obtain ⟨v, w, rfl, h1, h2⟩ := hp.two
    have e1 := h1.int; have e2 := h2.int; subst e1 e2
    exact call_min2 hc pins s σ H _ us Q I rx ⟨_, _, rfl, k.int⟩
  · cases e
theorem max_ok (hc : X.calm = true) : CallR X (.builtin "max") (rN g maxF) := by
  intro pins s σ H xs us Q I rx ⟨F, ps, r, nf, hp, e, k⟩
  unfold maxF at e
  split at e
  · split at e
    · rename_i n ns e1
      cases e
      obtain ⟨v, rfl, h⟩ := hp.one
      obtain ⟨a, vs, rfl, ea, l⟩ := h.lst
      have := l.ints e1; subst this
      refine cr_max hc pins s σ H _ us Q I rx ⟨_, _, rfl, SqL.of ea, by simp, fun m hm hle => ?_⟩
      obtain ⟨h1, h2⟩ := maxL_ge n ns
      have h3 : maxL n ns ∈ n :: ns := by
        rcases maxL_mem n ns with h | h
        · rw [h]; exact List.mem_cons_self ..
        · exact List.mem_cons_of_mem _ h
      have h4 : m ≤ maxL n ns := by
        rcases List.mem_cons.mp hm with rfl | hm
        · exact h1
        · exact h2 m hm
      have h5 := hle _ h3
      have : m = maxL n ns := by omega
      subst this
      exact k.int
    · cases e
  · cases e
    obtain ⟨v, w, rfl, h1, h2⟩ := hp.two
    have e1 := h1.int; have e2 := h2.int; subst e1 e2
    exact call_max2 hc pins s σ H _ us Q I rx ⟨_, _, rfl, k.int⟩
  · cases e
theorem abs_ok : CallR X (.builtin "abs") (rN g absF) := by
  intro pins s σ H xs us Q I rx ⟨F, ps, r, nf, hp, e, k⟩
  unfold absF at e
  split at e
  · cases e
    obtain ⟨v, rfl, h⟩ := hp.one
    have e1 := h.int; subst e1
    exact call_abs pins s σ H _ us Q I rx ⟨_, rfl, k.int⟩
  · cases e
theorem all_ok (hc : X.calm = true) : CallR X (.builtin "all") (rN g (allF fun bs => bs.all id)) := by
  intro pins s σ H xs us Q I rx ⟨F, ps, r, nf, hp, e, k⟩
  unfold allF at e
  split at e
  · obtain ⟨ns, e1, rfl⟩ := Option.map_eq_some_iff.mp e
    obtain ⟨v, rfl, h⟩ := hp.one
    obtain ⟨a, vs, rfl, ea, l⟩ := h.lst
    have := l.bools e1; subst this
    exact cr_all hc pins s σ H _ us Q I rx ⟨_, _, rfl, SqL.of ea, k.bl⟩
  · cases e
theorem any_ok (hc : X.calm = true) : CallR X (.builtin "any") (rN g (allF fun bs => bs.any id)) := by
  intro pins s σ H xs us Q I rx ⟨F, ps, r, nf, hp, e, k⟩
  unfold allF at e
  split at e
  · obtain ⟨ns, e1, rfl⟩ := Option.map_eq_some_iff.mp e
    obtain ⟨v, rfl, h⟩ := hp.one
    obtain ⟨a, vs, rfl, ea, l⟩ := h.lst
    have := l.bools e1; subst this
    exact cr_any hc pins s σ H _ us Q I rx ⟨_, _, rfl, SqL.of ea, k.bl⟩
  · cases e
theorem repInts {xs : List Int} : RepL g F H (xs.map PV.int) (xs.map V.int) := RepL.mapInt
theorem rgV_eq (a b : Int) : rgV a b = (rngL a b).map V.int := by
  unfold rgV rngL
  rw [upto_eq, List.map_map]
  rfl
theorem tuple_ok (hc : X.calm = true) : CallR X (.type "tuple") (rN g tupleF) := by
  intro pins s σ H xs us Q I rx ⟨F, ps, r, nf, hp, e, k⟩
  unfold tupleF at e
  split at e
  · cases e
    obtain ⟨v, rfl, h⟩ := hp.one
    obtain ⟨a, vs, rfl, ea, l⟩ := h.lst
    exact call_tuple_of pins s σ H _ us Q I rx ⟨_, _, rfl, .inl ⟨SqL.of ea, k.tup l⟩⟩
  · cases e
    obtain ⟨v, rfl, h⟩ := hp.one
    obtain ⟨a, vs, rfl, ea, l⟩ := h.tup
    exact call_tuple_of pins s σ H _ us Q I rx ⟨_, _, rfl, .inr ⟨SqT.of ea, k _ F H (.same h.tupV rfl)⟩⟩
  · split at e
    · rename_i lo hi hb
      cases e
      obtain ⟨v, rfl, h⟩ := hp.one
      obtain ⟨a, rfl, ea⟩ := h.rng
      rw [Vals.ref1 rx]
      obtain ⟨t, u, w, ho⟩ := I.hok a _ ea
      obtain ⟨b1, b2, b3⟩ := hb
      unfold inB at b1 b2
      simp only [Bool.and_eq_true, decide_eq_true_eq] at b1 b2
      refine call_tuple_range (n := (hi - lo).toNat) (I.ok.hd hc) (show IsRange s.heap a lo hi 1 t u w from ho) (small_one b1.1 b1.2 b2.1 b2.2) (rangeSize_nat lo hi) (by rw [sizeLine_eq] at b3; omega) fun h' tk acc hk hacc => ?_
      have hr := vals_rg hacc
      have I2 : Inv X pins σ H { s with heap := h', toks := tk } := I.kept hk
      rw [rgV_eq] at hr
      refine ⟨.ref h'.objs.size, upd H h'.objs.size (.tup ((rngL lo hi).map V.int)), I2.laid (t' := tk) (fun c o e => Heap.get?_push_of_some _ e) (Nat.le_refl _) (show ObjOk X.prog X.w _ _ _ (.tup ((rngL lo hi).map V.int)) from ⟨?_, acc.toList, hr, ?_⟩), rfl, k.tup repInts _ (I2.hok.fresh (Nat.le_refl _))⟩
      · unfold rngL; rw [List.length_map, upto_length]; exact b3
      · rw [Array.toArray_toList]; exact IsTup.new _ _
    · cases e
  · cases e
theorem list_ok (hK : X.K = g.K) (hc : X.calm = true) : CallR X (.type "list") (rN g listF) := by
  intro pins s σ H xs us Q I rx ⟨F, ps, r, nf, hp, e, k⟩
  unfold listF at e
  split at e
  · cases e
    obtain ⟨v, rfl, h⟩ := hp.one
    obtain ⟨a, vs, rfl, ea, l⟩ := h.lst
    exact call_list_of pins s σ H _ us Q I rx ⟨_, _, rfl, .inl (SqL.of ea), k.lst nf l⟩
  · cases e
    obtain ⟨v, rfl, h⟩ := hp.one
    obtain ⟨a, vs, rfl, ea, l⟩ := h.tup
    exact call_list_of pins s σ H _ us Q I rx ⟨_, _, rfl, .inr (SqT.of ea), k.lst nf l⟩
  · cases e
    obtain ⟨v, rfl, h⟩ := hp.one
    obtain ⟨a, rfl, ea⟩ := h.scr
    exact call_list_of pins s σ H _ us Q I rx ⟨_, _, rfl, .inl (by rw [hK]; exact ea), k.lst nf repInts⟩
  · split at e
    · rename_i lo hi hb
      cases e
      obtain ⟨v, rfl, h⟩ := hp.one
      obtain ⟨a, rfl, ea⟩ := h.rng
      rw [Vals.ref1 rx]
      obtain ⟨t, u, w, ho⟩ := I.hok a _ ea
      obtain ⟨b1, b2, b3⟩ := hb
      unfold inB at b1 b2
      simp only [Bool.and_eq_true, decide_eq_true_eq] at b1 b2
      refine call_list_range (n := (hi - lo).toNat) (I.ok.hd hc) (show IsRange s.heap a lo hi 1 t u w from ho) (small_one b1.1 b1.2 b2.1 b2.2) (rangeSize_nat lo hi) (by rw [sizeLine_eq] at b3; omega) fun h' tk acc c' hk e' hacc => ?_
      have hr := vals_rg hacc
      rw [rgV_eq] at hr
      refine ⟨.ref s.heap.objs.size, upd H s.heap.objs.size (.lst ((rngL lo hi).map V.int)), I.laid hk (Nat.le_refl _) (show ObjOk X.prog X.w _ _ _ (.lst ((rngL lo hi).map V.int)) from ⟨?_, acc.toList, c', hr, ?_⟩), rfl, k.lst nf repInts _ (I.hok.fresh (Nat.le_refl _))⟩
      · unfold rngL; rw [List.length_map, upto_length]; exact b3
      · rw [Array.toArray_toList]; exact e'
    · cases e
  · cases e
theorem int_okB : CallR X (.type "int") (rN g intBi) := by
  intro pins s σ H xs us Q I rx ⟨F, ps, r, nf, hp, e, k⟩
  unfold intBi at e
  split at e
  · cases e
    obtain ⟨v, rfl, h⟩ := hp.one
    have e1 := h.int; subst e1
    exact call_int1 pins s σ H _ us Q I rx (.inl ⟨_, rfl, k.int⟩)
  · cases e
theorem wk_call {pins : List (Addr × Obj)} {σ : St} {s s' : Shared} (I : Inv X pins σ H s) (k : ∀ b o, s.heap.get? b = some o → s'.heap.get? b = some o) (g1 : s'.gens = s.gens) (o1 : s'.os = s.os) : Inv X pins σ H s' := by
  obtain ⟨h', g', d', t', o'⟩ := s'
  have e : o' = s.os := o1
  subst e
  have e2 : g' = s.gens := g1
  subst e2
  exact I.call (ch := []) (Un.kept k) (I.hok.kept k) I.bare fun b z => absurd z (by simp)
/-- sorted of anything that can be collected: ints -/
theorem srt_any {pins : List (Addr × Obj)} {σ : St} {s : Shared} {v : Value} {ns : List Int} {Q : VK} (I : Inv X pins σ H s) (hz : ns.length ≤ sizeLine)
    (hcol : ∀ R : List Value → Shared → Prop, (∀ (vs : List Value) (s' : Shared) (ks : List Int), Inv X pins σ H s' → IntsAre vs ks → ks.Perm ns → R vs s') → wpAny (model X.prog X.w) X.A.in1 (collect v) R X.xe s)
    (q : ∀ p, H p = none → Q (.ref p) (upd H p (.lst ((isort ns).map V.int)))) : wpAny (model X.prog X.w) X.A (call (.builtin "sorted") [v]) (EP X pins σ Q) X.xe s := by
  refine Calls.call_function_entry kind_sorted plain_sorted entry_sorted
    (args_sorted1 _) ?_
  unfold Builtin.«sorted»
  refine wpAny_bind (wpAny_pure ?_ : wpAny _ _ (checkCount "sorted" 1 1 _) _ _ _)
  refine wpAny_bind (hcol _ fun vs s1 ks I1 hI hp => ?_)
  have hl : vs.length = ks.length := hI.length
  have hv : vs.length ≤ sizeLine := by rw [hl, hp.length_eq]; exact hz
  refine wpAny_bind (wpAny_newList ?_ hv)
  have hob : (s1.heap.push (seqObj "list" vs.toArray 0)).get? s1.heap.objs.size = some (seqObj "list" vs.toArray 0) := Heap.get?_push_size _ rfl
  have I2 : Inv X pins σ H { s1 with heap := s1.heap.push (seqObj "list" vs.toArray 0) } := I1.kept (t' := s1.toks) fun b o e => Heap.get?_push_of_some _ e
  show wpAny _ _ _ _ _ { s1 with heap := s1.heap.push (seqObj "list" vs.toArray 0) }
  refine wpAny_bind (wpAny_holding (wpAny_call_entry slot_list_sort ⟨_, hob, rfl⟩ entry_list_sort
    (SrtO.list_sort_ord SrtO.swo_int hob hv (fun h2 => SrtO.ints_sortable hI h2) fun out h1 h2 => ⟨_, rfl, ?_⟩) (args_list_sort _)))
  obtain ⟨k1, k2, k3⟩ := SrtO.ints_out hI h1 h2
  obtain ⟨ep, he'⟩ := sortedHeap_at (vs := vs) (out := out.toArray) hob
  have hu : isort ns = out.map SrtO.iv := (isort_uniq (k2.trans hp) k3).symm
  have hlen : ((isort ns).map V.int).length ≤ sizeLine := by
    rw [List.length_map, (isort_perm ns).length_eq]
    exact hz
  refine wpAny_pure ⟨_, rfl, ?_⟩
  refine ⟨.ref s1.heap.objs.size, upd H s1.heap.objs.size (.lst ((isort ns).map V.int)), I1.laid (t' := s1.toks) (fun b u e => ?_) (Nat.le_refl _) ⟨hlen, out, ep, by rw [hu]; exact vals_of_ints k1, he'⟩, rfl, q _ (I1.hok.fresh (Nat.le_refl _))⟩
  have hb : b < s1.heap.objs.size := Heap.lt_size e
  rw [sortedHeap_old (Nat.ne_of_lt hb) (by rw [size_push']; exact Nat.lt_succ_of_lt hb)]
  exact Heap.get?_push_of_some _ e
theorem keyInts_some : ∀ {kvs : List (Key × PV)} {ns : List Int}, keyInts kvs = some ns → kvs.map (·.1) = ns.map Sum.inl
  | [], _, e => by cases e; rfl
  | (.inl i, _) :: r, ns, e => by
    obtain ⟨ms, e1, rfl⟩ := Option.map_eq_some_iff.mp (show (keyInts r).map (i :: ·) = some ns from e)
    rw [List.map_cons, keyInts_some e1]; rfl
  | (.inr _, _) :: _, _, e => by cases e
theorem RepK.keys : ∀ {ps : List (Key × PV)} {vs : List (Key × V)}, RepK g F H ps vs → ps.map (·.1) = vs.map (·.1)
  | _, _, .nil => rfl
  | _, _, .cons a b => by rw [List.map_cons, List.map_cons, b.keys]
theorem sorted_ok (hK : X.K = g.K) (hw : X.w = g.w) (hc : X.calm = true) : CallR X (.builtin "sorted") (rN g sortedF) := by
  intro pins s σ H xs us Q I rx ⟨F, ps, r, nf, hp, e, k⟩
  unfold sortedF at e
  split at e
  · obtain ⟨ns, e1, rfl⟩ := Option.map_eq_some_iff.mp e
    obtain ⟨v, rfl, h⟩ := hp.one
    obtain ⟨a, vs, rfl, ea, l⟩ := h.lst
    have := l.ints e1; subst this
    exact cr_sortedI pins s σ H _ us Q I rx ⟨_, _, rfl, SqL.of ea, fun ns' p hpm hps hn => by
      rw [isort_uniq hpm hps]
      exact k.lst nf repInts p hn⟩
  · obtain ⟨ns, e1, rfl⟩ := Option.map_eq_some_iff.mp e
    obtain ⟨v, rfl, h⟩ := hp.one
    obtain ⟨a, vs, rfl, ea, l⟩ := h.tup
    have := l.ints e1; subst this
    rw [Vals.ref1 rx]
    obtain ⟨its, rv, pt, hz⟩ := I.tuple (SqT.of ea)
    refine srt_any I (by rw [List.length_map] at hz; exact hz) (fun R hR => ?_) fun p hn => k.lst nf repInts p hn
    obtain ⟨ob, ho, hcl, nn, hd⟩ := id pt
    exact wpAny_collect_seq a (.inr rfl) ho hcl hd (fun h' hk => hR _ _ ns (I.kept (t' := s.toks) hk) rv.ints (.refl _)) (by rw [List.size_toArray, ← rv.length]; exact hz)
  · rename_i ys
    cases e
    obtain ⟨v, rfl, h⟩ := hp.one
    obtain ⟨a, S, n, rfl, ea, hs⟩ := h.set
    rw [Vals.ref1 rx]
    have RR := setO_get I (by rw [hw]; exact ea)
    obtain ⟨o, es, ep, t, ho, hex, hd, gd, nd, hm, hb, hf, hn, hr, hl⟩ := RR
    have sa : SetAt s.heap a es ep t := ⟨o, ho, hex.1, hd⟩
    have hpm : (es.toList.map keyOf).Perm ys := by
      refine (List.perm_ext_iff_of_nodup nd hs.1).mpr fun z => ?_
      rw [← hm z, hs.2.2 z]
      simp
    refine srt_any I (ns := ys) (by
      rw [← hpm.length_eq, List.length_map, Array.length_toList]
      exact Nat.le_trans (Nat.le_of_lt hb) (by decide)) (fun R hR => ?_) fun p hn => k.lst nf repInts p hn
    refine collect_set (by show X.A.handled = none; exact I.ok.hd hc) sa hf hb hr hl fun s' out hk1 hk2 hk3 hk4 hk5 => ?_
    have gi : ∀ x ∈ es.toList.map (·.2), ∃ i t, x = Value.int i t := fun x hx => by
      obtain ⟨e, he, rfl⟩ := List.mem_map.mp hx
      obtain ⟨z, tk, hz, _⟩ := gd e he
      exact ⟨z, tk, hz⟩
    have go : IntsAre out (out.map SrtO.iv) := SrtO.ints_iv fun x hx => gi x (hk5.mem_iff.mp hx)
    refine hR out s' (out.map SrtO.iv) (wk_call I hk1 hk3 hk4) go ?_
    refine (hk5.map SrtO.iv).trans (List.Perm.trans (List.Perm.of_eq ?_) hpm)
    rw [List.map_map]
    refine List.map_congr_left fun e he => ?_
    obtain ⟨z, tk, hz, hz2⟩ := gd e he
    show SrtO.iv e.2 = keyOf e
    unfold keyOf
    rw [hz]
    rfl
  · obtain ⟨ns, e1, rfl⟩ := Option.map_eq_some_iff.mp e
    obtain ⟨v, rfl, h⟩ := hp.one
    obtain ⟨a, vs, rfl, ea, l⟩ := h.dk
    rw [Vals.ref1 rx]
    obtain ⟨z, lo, ws, rel, dd⟩ := dk_rd I.hok (.inl ea)
    obtain ⟨ep, hat⟩ := dd.dictAt
    have hkeys : ws.map (·.1) = ns.map Sum.inl := rel.keys.symm.trans (l.keys.symm.trans (keyInts_some e1))
    have hwl : ws.length = ns.length := by
      have e := congrArg List.length hkeys
      rwa [List.length_map, List.length_map] at e
    have hz' : ns.length ≤ sizeLine := by
      rw [← hwl, ← rel.length]; exact z
    refine srt_any I hz' (fun R hR => ?_) fun p hn => k.lst nf repInts p hn
    refine PySem.W.kdu_collect (A := X.A.in1) (PySem.W.kdl_dict (knd := mixKind X.prog X.w) (kvs := ws) (ep := ep) lo) (by show X.A.handled = none; exact I.ok.hd hc) hat (by rw [hwl]; exact hz') fun h' tk acc hk hacc => ?_
    have hal : acc.toList.length = ns.length := by rw [Array.length_toList, hacc.1, hwl]
    refine hR acc.toList _ ns (I.kept hk) (ints_each hal fun j v e => ?_) (.refl _)
    obtain ⟨kk, x, e1, e2⟩ := hacc.2 j v (by rw [← Array.getElem?_toList]; exact e)
    have e3 : (ws.map (·.1))[j]? = some kk := by rw [List.getElem?_map, e1]; rfl
    rw [hkeys, List.getElem?_map] at e3
    obtain ⟨y, e4, rfl⟩ := Option.map_eq_some_iff.mp e3
    rcases keyIs_shape (show keyIs (Sum.inl y) v = true from e2) with ⟨i, t, ek, ev⟩ | ⟨z, t, ek, ev⟩
    · cases ek
      exact ⟨y, t, e4, ev⟩
    · cases ek
  · cases e
theorem mem_dedup {z : Int} : ∀ {l : List Int}, z ∈ dedup l ↔ z ∈ l
  | [] => Iff.rfl
  | x :: r => by
    unfold dedup
    split
    · rename_i h
      rw [mem_dedup, List.mem_cons]
      refine ⟨.inr, fun h' => h'.elim (fun e => ?_) id⟩
      rw [e]; exact mem_dedup.mp (by simpa using h)
    · rw [List.mem_cons, List.mem_cons, mem_dedup]
theorem dedup_nodup : ∀ l : List Int, (dedup l).Nodup
  | [] => List.nodup_nil
  | x :: r => by
    unfold dedup
    split
    · exact dedup_nodup r
    · rename_i h
      exact List.nodup_cons.mpr ⟨by simpa using h, dedup_nodup r⟩
theorem setR_len {w : World} {h : Heap} {a : Addr} {ns : List Int} {c : Nat} (R : SetR w h a (fun j => decide (j ∈ ns)) c) : SetIs (dedup ns) (fun j => decide (j ∈ ns)) c := by
  obtain ⟨o, es, ep, t, ho, hex, hd, gd, nd, hm, hb, hf, hn, hr, hl⟩ := R
  refine ⟨dedup_nodup ns, ?_, fun i => ?_⟩
  · have : (es.toList.map keyOf).Perm (dedup ns) := by
      refine (List.perm_ext_iff_of_nodup nd (dedup_nodup ns)).mpr fun z => ?_
      rw [← hm z, mem_dedup]
      simp
    rw [← this.length_eq, List.length_map, Array.length_toList]
    exact hn.symm
  · rw [Bool.eq_iff_iff]
    simp [mem_dedup]
theorem set_ok (hw : X.w = g.w) (hc : X.calm = true) : CallR X (.type "set") (rN g setBi) := by
  intro pins s σ H xs us Q I rx ⟨F, ps, r, nf, hp, e, k⟩
  unfold setBi at e
  split at e
  · rename_i x
    split at e
    · rename_i ns e1
      split at e
      · rename_i hb
        cases e
        obtain ⟨v, rfl, h⟩ := hp.one
        have fin : ∀ (h' : Heap) (tk c : Nat), SetR X.w h' s.heap.objs.size (fun j => decide (j ∈ ns)) c → (∀ b o, s.heap.get? b = some o → h'.get? b = some o) → EP X pins σ Q (.ref s.heap.objs.size) { s with heap := h', toks := tk } := fun h' tk c R kp => by
          have hn := I.hok.fresh (Nat.le_refl s.heap.objs.size)
          refine ⟨.ref s.heap.objs.size, upd H s.heap.objs.size (SetO g.w s.heap.objs.size (fun j => decide (j ∈ ns)) c), I.laid kp (Nat.le_refl _) (by rw [← hw]; exact setO_new R), rfl, k _ _ _ (.new hn nf (.set upd_same (setR_len R)))⟩
        cases x with
        | lst ys =>
          obtain ⟨a, vs, rfl, ea, l⟩ := h.lst
          have := l.ints e1; subst this
          rw [Vals.ref1 rx]
          obtain ⟨its, rv, pl, hz⟩ := I.list (SqL.of ea)
          exact set_of_list ns (I.ok.hd hc) pl.isList (by simpa using rv.ints) hb fun h' tk c R _ kp => fin h' tk c R kp
        | tup ys =>
          obtain ⟨a, vs, rfl, ea, l⟩ := h.tup
          have := l.ints e1; subst this
          rw [Vals.ref1 rx]
          obtain ⟨its, rv, pl, hz⟩ := I.tuple (SqT.of ea)
          exact call_set_tupI ns (I.ok.hd hc) (show s.heap.IsTuple a its.toArray from pl) (by simpa using rv.ints) hb fun h' tk c R _ kp => fin h' tk c R kp
        | _ => cases e1
      · cases e
    · cases e
  · cases e
theorem range_ok : CallR X (.type "range") (rN g rangeF) := by
  intro pins s σ H xs us Q I rx ⟨F, ps, r, nf, hp, e, k⟩
  have fin : ∀ {lo hi : Int} {p : Addr}, r = (.rng lo hi, false) → H p = none → Q (.ref p) (upd H p (.rng lo hi)) := fun {lo hi p} er hn => by
    subst er
    exact k _ _ _ (.newZ hn (.rng (.inr rfl) upd_same))
  unfold rangeF at e
  split at e
  · split at e
    · cases e
      obtain ⟨v, rfl, h⟩ := hp.one
      have e1 := h.int; subst e1
      obtain ⟨u, rfl, ru⟩ := vals1 rx
      obtain ⟨t, rfl⟩ := ru
      refine call_range_1 ⟨.ref s.heap.objs.size, upd H s.heap.objs.size (.rng 0 _), I.laid (t' := s.toks + 2) (fun b o e => Heap.get?_push_of_some _ e) (Nat.le_refl _) ?_, rfl, fin rfl (I.hok.fresh (Nat.le_refl _))⟩
      exact ⟨_, _, _, Heap.get?_push_size _ rfl⟩
    · cases e
  · split at e
    · cases e
      obtain ⟨v, w, rfl, h1, h2⟩ := hp.two
      have e1 := h1.int; subst e1
      have e2 := h2.int; subst e2
      exact cr_range2 pins s σ H _ us Q I rx ⟨_, _, rfl, fun p hn => fin rfl hn⟩
    · cases e
  · cases e
theorem RepK.put0 {k : Key} {y : PV} {w : V} {ps : List (Key × PV)} {vs : List (Key × V)} (l : RepK g F H ps vs) (r : RepV g F H y w) : RepK g F H (putP ps k y) (putK vs k w) := by
  have any : ∀ {ps : List (Key × PV)} {vs : List (Key × V)}, RepK g F H ps vs → (ps.any fun kv => decide (kv.1 = k)) = (vs.any fun kv => decide (kv.1 = k)) := by
    intro ps
    induction ps with
    | nil => intro vs h; cases h; rfl
    | cons q ps ih => intro vs h; cases h with | cons a b => rw [List.any_cons, List.any_cons, ih b]
  have mp : ∀ {ps : List (Key × PV)} {vs : List (Key × V)}, RepK g F H ps vs → RepK g F H (ps.map fun kv => if kv.1 = k then (kv.1, y) else kv) (vs.map fun kv => if kv.1 = k then (kv.1, w) else kv) := by
    intro ps
    induction ps with
    | nil => intro vs h; cases h; exact .nil
    | cons q ps ih =>
      intro vs h
      cases h with
      | @cons k' _ _ _ _ a b =>
        rw [List.map_cons, List.map_cons]
        by_cases hk : k' = k
        · simp only [hk, if_true]; exact .cons r (ih b)
        · simp only [hk, if_false]; exact .cons a (ih b)
  have ap : ∀ {ps : List (Key × PV)} {vs : List (Key × V)}, RepK g F H ps vs → RepK g F H (ps ++ [(k, y)]) (vs ++ [(k, w)]) := by
    intro ps
    induction ps with
    | nil => intro vs h; cases h; exact .cons r .nil
    | cons q ps ih => intro vs h; cases h with | cons a b => exact .cons a (ih b)
  unfold putP putK
  rw [any l]
  split
  · exact mp l
  · exact ap l
theorem RepK.putAll : ∀ {more : List (Key × PV)} {vs : List (Key × V)} {ps : List (Key × PV)} {ws : List (Key × V)}, RepK g F H more vs → RepK g F H ps ws → RepK g F H (putAllP ps more) (mergeK ws vs)
  | _, _, _, _, .nil, h => h
  | _, _, _, _, .cons (k := k) (x := x) (v := v) a b, h => by
    have h2 := RepK.put0 (k := k) h a
    have := RepK.putAll b h2
    exact this
theorem dict_ok (hc : X.calm = true) : CallR X (.type "dict") (rN g dictF) := by
  intro pins s σ H xs us Q I rx ⟨F, ps, r, nf, hp, e, k⟩
  unfold dictF at e
  split at e
  · rename_i xs
    split at e
    · rename_i kvs e1
      split at e
      · cases e
        obtain ⟨v, rfl, h⟩ := hp.one
        obtain ⟨a, vs, rfl, ea, l⟩ := h.lst
        have key : ∀ {xs : List PV} {vs : List V} {kvs : List (Key × PV)}, RepL g F H xs vs → pairsK xs = some kvs → ∃ (ad : List Addr) (ws : List (Key × V)), vs = ad.map V.ref ∧ Paired (fun p kv => SqT X.K H p [kV kv.1, kv.2]) ad ws ∧ RepK g F H kvs ws := by
          intro xs
          induction xs with
          | nil => intro vs kvs l e; cases l; cases e; exact ⟨[], [], rfl, .nil, .nil⟩
          | cons x xs ih =>
            intro vs kvs l e
            cases l with
            | cons rx' l =>
              unfold pairsK at e
              split at e
              · rename_i heq; cases heq
              · rename_i kx vx rr heq
                cases heq
                split at e
                · rename_i kk rest g1 g2
                  cases e
                  obtain ⟨ad, ws, rfl, pr, rk⟩ := ih l g2
                  cases rx' with
                  | tup fa ha ll =>
                    cases ll with
                    | cons r1 r2 =>
                      cases r2 with
                      | cons r2 r3 =>
                        cases r3
                        have ek := toKey_some (.inl r1) g1
                        subst ek
                        exact ⟨_ :: ad, (kk, _) :: ws, rfl, .cons (SqT.of ha) pr, .cons r2 rk⟩
                · cases e
              · cases e
        obtain ⟨ad, ws, rfl, pr, rk⟩ := key l e1
        exact call_dictP hc pins s σ H _ us Q I rx ⟨a, ad, ws, rfl, SqL.of ea, pr, fun p hn => k _ _ _ (.new hn nf (.dk upd_same ((RepK.putAll rk .nil).mono (fun _ h => h) fun b o _ e => upd_keep hn b o e)))⟩
      · cases e
    · cases e
  · cases e
end
end L2.Pz
set_option Elab.async false
set_option linter.all false
set_option maxRecDepth 100000
set_option maxHeartbeats 4000000
namespace L2.Pz
set_option autoImplicit false
open PySem PySem.Spec PyProof.Rows L2

/-! ## Pz6: environments through ev -/
theorem consume_rel {env env' : En} {o : Opd} {p : PV} (e : consume env o = some (p, env')) : EnvRel env env' := by
  cases o with
  | wk _ _ => cases e
  | vl q f => cases e; exact .refl
  | sl i =>
    unfold consume at e
    simp only at e
    split at e
    · cases e; exact .refl
    · rename_i h; cases e; exact .setFz h (.inr rfl)
    · split at e
      · cases e; exact .refl
      · cases e
    · cases e
theorem consumes_rel : ∀ {os : List Opd} {env env' : En} {ps : List PV}, consumes env os = some (ps, env') → EnvRel env env'
  | [], _, _, _, e => by cases e; exact .refl
  | o :: os, env, _, _, e => by
    unfold consumes at e
    split at e
    · rename_i h1
      split at e
      · rename_i h2
        cases e
        exact (consume_rel h1).trans (consumes_rel h2)
      · cases e
    · cases e
theorem pass_rel : ∀ {ms : List Md} {os : List Opd} {env env' : En} {ps : List PV} {is : List Nat}, pass ms os env = some (ps, is, env') → EnvRel env env'
  | [], [], _, _, _, _, e => by cases e; exact .refl
  | .val :: ms, o :: os, env, _, _, _, e => by
    unfold pass at e
    split at e
    · rename_i h1
      split at e
      · rename_i h2; cases e; exact (consume_rel h1).trans (pass_rel h2)
      · cases e
    · cases e
  | .ro :: ms, o :: os, env, _, _, _, e => by
    unfold pass at e
    split at e
    · split at e
      · rename_i h2
        split at e
        · cases e
        · cases e; exact pass_rel h2
      · cases e
    · cases e
  | .mu :: ms, .sl i :: os, env, _, _, _, e => by
    unfold pass at e
    split at e
    · split at e
      · rename_i h2
        split at e
        · cases e
        · cases e; exact pass_rel h2
      · cases e
    · cases e
  | .mu :: ms, .vl _ _ :: os, env, _, _, _, e => by cases e
  | .mu :: ms, .wk _ _ :: os, env, _, _, _, e => by cases e
  | [], _ :: _, _, _, _, _, e => by cases e
  | .val :: _, [], _, _, _, _, e => by cases e
  | .ro :: _, [], _, _, _, _, e => by cases e
  | .mu :: _, [], _, _, _, _, e => by cases e
/-- the slots that pass gives are own -/
theorem pass_own : ∀ {ms : List Md} {os : List Opd} {env env' : En} {ps : List PV} {is : List Nat}, pass ms os env = some (ps, is, env') → ∀ i ∈ is, (∃ p, env[i]? = some (some ⟨p, .own⟩)) ∧ Opd.sl i ∈ os
  | [], [], _, _, _, _, e => by cases e; exact fun i h => by cases h
  | .val :: ms, o :: os, env, _, _, _, e => by
    unfold pass at e
    split at e
    · rename_i h1
      split at e
      · rename_i h2
        cases e
        intro i hi
        obtain ⟨⟨p, e1⟩, m⟩ := pass_own h2 i hi
        obtain ⟨s, e2, h⟩ := (consume_rel h1).back e1
        rcases h with rfl | ⟨h, _⟩
        · exact ⟨⟨p, e2⟩, List.mem_cons_of_mem _ m⟩
        · obtain ⟨q, k⟩ := s
          cases h
          exact ⟨⟨q, e2⟩, List.mem_cons_of_mem _ m⟩
      · cases e
    · cases e
  | .ro :: ms, o :: os, env, _, _, _, e => by
    unfold pass at e
    split at e
    · split at e
      · rename_i h2
        split at e
        · cases e
        · cases e
          intro i hi
          obtain ⟨h, m⟩ := pass_own h2 i hi
          exact ⟨h, List.mem_cons_of_mem _ m⟩
      · cases e
    · cases e
  | .mu :: ms, .sl i :: os, env, _, _, _, e => by
    unfold pass at e
    split at e
    · rename_i h1
      split at e
      · rename_i h2
        split at e
        · cases e
        · cases e
          intro j hj
          rcases List.mem_cons.mp hj with rfl | hj
          · exact ⟨⟨_, h1⟩, List.mem_cons_self ..⟩
          · obtain ⟨h, m⟩ := pass_own h2 j hj
            exact ⟨h, List.mem_cons_of_mem _ m⟩
      · cases e
    · cases e
  | .mu :: ms, .vl _ _ :: os, env, _, _, _, e => by cases e
  | .mu :: ms, .wk _ _ :: os, env, _, _, _, e => by cases e
  | [], _ :: _, _, _, _, _, e => by cases e
  | .val :: _, [], _, _, _, _, e => by cases e
  | .ro :: _, [], _, _, _, _, e => by cases e
  | .mu :: _, [], _, _, _, _, e => by cases e
theorem consume_other {env env' : En} {o : Opd} {p q : PV} {i : Nat} (e : consume env o = some (p, env')) (h : env[i]? = some (some ⟨q, .own⟩)) (n : o.is i = false) : env'[i]? = some (some ⟨q, .own⟩) := by
  cases o with
  | wk _ _ => cases e
  | vl _ _ => cases e; exact h
  | sl j =>
    have hij : j ≠ i := of_decide_eq_false n
    unfold consume at e
    simp only at e
    split at e
    · cases e; exact h
    · cases e; rw [List.getElem?_set_ne hij]; exact h
    · split at e
      · cases e; exact h
      · cases e
    · cases e
/-- an own slot that is not among the operands stays -/
theorem pass_other : ∀ {ms : List Md} {os : List Opd} {env env' : En} {ps : List PV} {is : List Nat} {i : Nat} {q : PV}, pass ms os env = some (ps, is, env') → env[i]? = some (some ⟨q, .own⟩) → ¬ os.any (Opd.is i) = true → env'[i]? = some (some ⟨q, .own⟩)
  | [], [], _, _, _, _, _, _, e, h, _ => by cases e; exact h
  | .val :: ms, o :: os, env, _, _, _, _, _, e, h, n => by
    unfold pass at e
    simp only [List.any_cons, Bool.or_eq_true, not_or, Bool.not_eq_true] at n
    split at e
    · rename_i h1
      split at e
      · rename_i h2; cases e; exact pass_other h2 (consume_other h1 h n.1) (by rw [n.2]; exact Bool.false_ne_true)
      · cases e
    · cases e
  | .ro :: ms, o :: os, env, _, _, _, _, _, e, h, n => by
    unfold pass at e
    simp only [List.any_cons, Bool.or_eq_true, not_or, Bool.not_eq_true] at n
    split at e
    · split at e
      · rename_i h2
        split at e
        · cases e
        · cases e; exact pass_other h2 h (by rw [n.2]; exact Bool.false_ne_true)
      · cases e
    · cases e
  | .mu :: ms, .sl j :: os, env, _, _, _, _, _, e, h, n => by
    unfold pass at e
    simp only [List.any_cons, Bool.or_eq_true, not_or, Bool.not_eq_true] at n
    split at e
    · split at e
      · rename_i h2
        split at e
        · cases e
        · cases e; exact pass_other h2 h (by rw [n.2]; exact Bool.false_ne_true)
      · cases e
    · cases e
  | .mu :: ms, .vl _ _ :: os, env, _, _, _, _, _, e, _, _ => by cases e
  | .mu :: ms, .wk _ _ :: os, env, _, _, _, _, _, e, _, _ => by cases e
  | [], _ :: _, _, _, _, _, _, _, e, _, _ => by cases e
  | .val :: _, [], _, _, _, _, _, _, e, _, _ => by cases e
  | .ro :: _, [], _, _, _, _, _, _, e, _, _ => by cases e
  | .mu :: _, [], _, _, _, _, _, _, e, _, _ => by cases e
/-- .. and still are behind the passing -/
theorem pass_keeps : ∀ {ms : List Md} {os : List Opd} {env env' : En} {ps : List PV} {is : List Nat}, pass ms os env = some (ps, is, env') → ∀ i ∈ is, ∃ p, env'[i]? = some (some ⟨p, .own⟩)
  | [], [], _, _, _, _, e => by cases e; exact fun i h => by cases h
  | .val :: ms, o :: os, env, _, _, _, e => by
    unfold pass at e
    split at e
    · split at e
      · rename_i h2; cases e; exact pass_keeps h2
      · cases e
    · cases e
  | .ro :: ms, o :: os, env, _, _, _, e => by
    unfold pass at e
    split at e
    · split at e
      · rename_i h2
        split at e
        · cases e
        · cases e; exact pass_keeps h2
      · cases e
    · cases e
  | .mu :: ms, .sl i :: os, env, _, _, _, e => by
    unfold pass at e
    split at e
    · rename_i p h1
      split at e
      · rename_i ps is env1 h2
        split at e
        · cases e
        · rename_i hn
          cases e
          intro j hj
          rcases List.mem_cons.mp hj with rfl | hj
          · exact ⟨_, pass_other h2 h1 hn⟩
          · exact pass_keeps h2 j hj
      · cases e
    · cases e
  | .mu :: ms, .vl _ _ :: os, env, _, _, _, e => by cases e
  | .mu :: ms, .wk _ _ :: os, env, _, _, _, e => by cases e
  | [], _ :: _, _, _, _, _, e => by cases e
  | .val :: _, [], _, _, _, _, e => by cases e
  | .ro :: _, [], _, _, _, _, e => by cases e
  | .mu :: _, [], _, _, _, _, e => by cases e
/-- slots put back as own: at places that are there -/
theorem back_rel : ∀ {is : List Nat} {ps : List PV} {env env' : En}, back is ps env = some env' → (∀ i ∈ is, ∃ p, env[i]? = some (some ⟨p, .own⟩)) → EnvRel env env'
  | [], [], _, _, e, _ => by cases e; exact .refl
  | i :: is, p :: ps, env, _, e, h => by
    unfold back at e
    obtain ⟨q, e1⟩ := h i (List.mem_cons_self ..)
    refine (EnvRel.setFz e1 (.inl rfl)).trans (back_rel e fun j hj => ?_)
    obtain ⟨r, e2⟩ := h j (List.mem_cons_of_mem _ hj)
    by_cases hij : i = j
    · subst hij
      exact ⟨p, by rw [List.getElem?_set_self (lt_of_some e1)]⟩
    · exact ⟨r, by rw [List.getElem?_set_ne hij]; exact e2⟩
  | [], _ :: _, _, _, e, _ => by cases e
  | _ :: _, [], _, _, e, _ => by cases e

/-- through a comprehension: what was wiped is restored -/
theorem wipeE_len (env : En) : ∀ vs : List Nat, (wipeE env vs).length = env.length
  | [] => rfl
  | v :: vs => by rw [wipeE, List.length_set, wipeE_len env vs]
theorem wipeE_get {env : En} {i : Nat} {s : Slot} : ∀ {vs : List Nat}, (wipeE env vs)[i]? = some (some s) → env[i]? = some (some s) ∧ i ∉ vs
  | [], e => ⟨e, by simp⟩
  | v :: vs, e => by
    unfold wipeE at e
    rcases set_get e with ⟨_, q⟩ | ⟨h, e⟩
    · cases q
    · obtain ⟨h1, h2⟩ := wipeE_get e
      exact ⟨h1, by simp only [List.mem_cons, not_or]; exact ⟨fun q => h q.symm, h2⟩⟩
theorem wipeE_out {env : En} {i : Nat} : ∀ {vs : List Nat}, i ∉ vs → (wipeE env vs)[i]? = env[i]?
  | [], _ => rfl
  | v :: vs, h => by
    simp only [List.mem_cons, not_or] at h
    rw [wipeE, List.getElem?_set_ne (fun q => h.1 q.symm), wipeE_out h.2]
theorem wipeE_in {env : En} {i : Nat} : ∀ {vs : List Nat}, i ∈ vs → i < env.length → (wipeE env vs)[i]? = some none
  | v :: vs, h, hl => by
    rw [wipeE]
    by_cases q : v = i
    · subst q; rw [List.getElem?_set_self (by rw [wipeE_len]; exact hl)]
    · rw [List.getElem?_set_ne q]
      exact wipeE_in ((List.mem_cons.mp h).resolve_left fun z => q z.symm) hl
theorem restore_len (old env : En) : ∀ vs : List Nat, (restore old env vs).length = env.length
  | [] => rfl
  | v :: vs => by rw [restore, List.length_set, restore_len old env vs]
theorem restore_out {old env : En} {i : Nat} : ∀ {vs : List Nat}, i ∉ vs → (restore old env vs)[i]? = env[i]?
  | [], _ => rfl
  | v :: vs, h => by
    simp only [List.mem_cons, not_or] at h
    rw [restore, List.getElem?_set_ne (fun q => h.1 q.symm), restore_out h.2]
theorem restore_in {old env : En} {i : Nat} (hl : old.length = env.length) : ∀ {vs : List Nat}, i ∈ vs → (restore old env vs)[i]? = old[i]?
  | v :: vs, h => by
    rw [restore]
    by_cases q : v = i
    · subst q
      by_cases hv : v < env.length
      · rw [List.getElem?_set_self (by rw [restore_len]; exact hv)]
        cases e : old[v]? with
        | none => rw [List.getElem?_eq_none_iff] at e; omega
        | some s => rfl
      · rw [List.getElem?_eq_none (by rw [List.length_set, restore_len]; omega), List.getElem?_eq_none (by omega)]
    · rw [List.getElem?_set_ne q]
      exact restore_in hl ((List.mem_cons.mp h).resolve_left fun z => q z.symm)
theorem isOwn_iff {env : En} {i : Nat} : isOwn env i = true ↔ ∃ p, env[i]? = some (some ⟨p, .own⟩) := by
  unfold isOwn
  split
  · rename_i p h; exact ⟨fun _ => ⟨p, h⟩, fun _ => rfl⟩
  · rename_i h; exact ⟨fun q => (by cases q), fun ⟨p, q⟩ => (h p q).elim⟩
theorem mem_lkOf {env : En} {is : List Nat} {i : Nat} : i ∈ lkOf env is ↔ i ∈ is ∧ ∃ p, env[i]? = some (some ⟨p, .own⟩) := by
  unfold lkOf
  rw [List.mem_filter, isOwn_iff]
theorem lock1_len (env : En) (i : Nat) : (lock1 env i).length = env.length := by
  unfold lock1
  split
  · rw [List.length_set]
  · rfl
theorem lock_len (env : En) : ∀ is : List Nat, (lock env is).length = env.length
  | [] => rfl
  | i :: is => by rw [lock, lock1_len, lock_len env is]
theorem unlock1_len (env : En) (i : Nat) : (unlock1 env i).length = env.length := by
  unfold unlock1
  split
  · rw [List.length_set]
  · rfl
theorem unlock_len (env : En) : ∀ is : List Nat, (unlock env is).length = env.length
  | [] => rfl
  | i :: is => by rw [unlock, unlock1_len, unlock_len env is]
theorem lock1_get {env : En} {i j : Nat} {o : Option Slot} (e : env[j]? = some o) : ((∀ p, i = j → o ≠ some ⟨p, .own⟩) ∧ (lock1 env i)[j]? = some o) ∨ (∃ p, i = j ∧ o = some ⟨p, .own⟩ ∧ (lock1 env i)[j]? = some (some ⟨p, .lk⟩)) := by
  unfold lock1
  split
  · rename_i p h
    by_cases q : i = j
    · subst q
      rw [h] at e; cases e
      exact .inr ⟨p, rfl, rfl, by rw [List.getElem?_set_self (lt_of_some h)]⟩
    · exact .inl ⟨fun _ z => (q z).elim, by rw [List.getElem?_set_ne q]; exact e⟩
  · rename_i h
    exact .inl ⟨fun p z q => h p (by rw [z, e, q]), e⟩
/-- what a slot is while a loop walks is -/
theorem lock_get {env : En} {i : Nat} {s : Slot} (e : env[i]? = some (some s)) : ∀ {is : List Nat}, (i ∉ lkOf env is ∧ (lock env is)[i]? = some (some s)) ∨ (i ∈ lkOf env is ∧ s.k = .own ∧ (lock env is)[i]? = some (some ⟨s.v, .lk⟩))
  | [] => .inl ⟨by simp [lkOf], e⟩
  | j :: is => by
    have ih := lock_get e (is := is)
    rcases ih with ⟨h1, h2⟩ | ⟨h1, h2, h3⟩
    · rcases lock1_get (i := j) h2 with ⟨h3, h4⟩ | ⟨p, h3, h4, h5⟩
      · refine .inl ⟨fun hm => ?_, h4⟩
        obtain ⟨m, p, hp⟩ := mem_lkOf.mp hm
        rw [e] at hp; cases hp
        rcases List.mem_cons.mp m with m | m
        · exact h3 p m.symm rfl
        · exact h1 (mem_lkOf.mpr ⟨m, p, e⟩)
      · cases h4
        subst h3
        exact .inr ⟨mem_lkOf.mpr ⟨List.mem_cons_self .., p, e⟩, rfl, h5⟩
    · obtain ⟨m, p, hp⟩ := mem_lkOf.mp h1
      refine .inr ⟨mem_lkOf.mpr ⟨List.mem_cons_of_mem _ m, p, hp⟩, h2, ?_⟩
      rcases lock1_get (i := j) h3 with ⟨_, h4⟩ | ⟨q, _, h4, _⟩
      · exact h4
      · cases h4
theorem lock_non {env : En} {i : Nat} (e : env[i]? = some none) : ∀ {is : List Nat}, (lock env is)[i]? = some none
  | [] => e
  | j :: is => by
    rcases lock1_get (i := j) (lock_non e (is := is)) with ⟨_, h4⟩ | ⟨q, _, h4, _⟩
    · exact h4
    · cases h4
theorem unlock1_get {env : En} {i j : Nat} : (i ≠ j → (unlock1 env i)[j]? = env[j]?) ∧ (∀ p, i = j → env[j]? = some (some ⟨p, .lk⟩) → (unlock1 env i)[j]? = some (some ⟨p, .own⟩)) ∧ ((∀ p, env[j]? ≠ some (some ⟨p, .lk⟩)) → (unlock1 env i)[j]? = env[j]?) := by
  unfold unlock1
  split
  · rename_i p h
    refine ⟨fun q => by rw [List.getElem?_set_ne q], fun p' q e => ?_, fun hp => ?_⟩
    · subst q; rw [h] at e; cases e; rw [List.getElem?_set_self (lt_of_some h)]
    · by_cases q : i = j
      · subst q; exact (hp p h).elim
      · rw [List.getElem?_set_ne q]
  · rename_i h
    exact ⟨fun _ => rfl, fun p q e => (h p (by rw [q]; exact e)).elim, fun _ => rfl⟩
theorem unlock_get {env : En} {i : Nat} : ∀ {is : List Nat}, (i ∉ is → (unlock env is)[i]? = env[i]?) ∧ (∀ p, i ∈ is → env[i]? = some (some ⟨p, .lk⟩) → (unlock env is)[i]? = some (some ⟨p, .own⟩)) ∧ ((∀ p, env[i]? ≠ some (some ⟨p, .lk⟩)) → (unlock env is)[i]? = env[i]?)
  | [] => ⟨fun _ => rfl, fun p h => (by cases h), fun _ => rfl⟩
  | j :: is => by
    obtain ⟨a1, a2, a3⟩ := unlock_get (env := env) (i := i) (is := is)
    obtain ⟨b1, b2, b3⟩ := unlock1_get (env := unlock env is) (i := j) (j := i)
    refine ⟨fun h => ?_, fun p h e => ?_, fun h => ?_⟩
    · simp only [List.mem_cons, not_or] at h
      rw [unlock, b1 fun q => h.1 q.symm, a1 h.2]
    · by_cases m : i ∈ is
      · have e2 := a2 p m e
        rw [unlock, b3 fun q z => (by rw [e2] at z; cases z)]
        exact e2
      · have e2 := a1 m
        rw [e] at e2
        rcases List.mem_cons.mp h with h | h
        · exact b2 p h.symm e2
        · exact (m h).elim
    · have e2 := a3 h
      rw [unlock, b3 fun q z => h q (by rw [e2] at z; exact z)]
      exact e2
/-- a loop's whole: from env through the locked one and back -/
theorem loop_rel {env env' : En} {o : List Nat} {own : List Nat} (h : EnvRel (wipeE (lock env o) own) env') : EnvRel env (unlock (restore env env' own) (lkOf env o)) := by
  have hl : env'.length = env.length := by rw [h.len, wipeE_len, lock_len]
  refine ⟨by rw [unlock_len, restore_len, hl], fun i s e => ?_, fun i e => ?_⟩
  · obtain ⟨u1, u2, u3⟩ := unlock_get (env := restore env env' own) (i := i) (is := lkOf env o)
    by_cases hi : i ∈ own
    · have e1 : (restore env env' own)[i]? = some (some s) := by rw [restore_in hl.symm hi]; exact e
      by_cases q : i ∈ lkOf env o
      · obtain ⟨_, p, hp⟩ := mem_lkOf.mp q
        rw [e] at hp; cases hp
        exact ⟨_, by rw [u3 fun p z => (by rw [e1] at z; cases z)]; exact e1, .inl rfl⟩
      · exact ⟨s, by rw [u1 q]; exact e1, .inl rfl⟩
    · have e0 := restore_out (old := env) (env := env') hi
      rcases lock_get (is := o) e with ⟨q, e1⟩ | ⟨q, hk, e1⟩
      · obtain ⟨s', e2, h2⟩ := h.pres i s (by rw [wipeE_out hi]; exact e1)
        rw [← e0] at e2
        exact ⟨s', by rw [u1 q]; exact e2, h2⟩
      · obtain ⟨s', e2, h2⟩ := h.pres i _ (by rw [wipeE_out hi]; exact e1)
        rw [← e0] at e2
        rcases h2 with rfl | ⟨h2, _⟩
        · exact ⟨⟨s.v, .own⟩, u2 s.v q e2, .inr ⟨hk, .inl rfl⟩⟩
        · cases h2
  · obtain ⟨u1, u2, u3⟩ := unlock_get (env := restore env env' own) (i := i) (is := lkOf env o)
    have q : i ∉ lkOf env o := fun q => by
      obtain ⟨_, p, hp⟩ := mem_lkOf.mp q
      rw [e] at hp; cases hp
    rw [u1 q]
    by_cases hi : i ∈ own
    · rw [restore_in hl.symm hi]; exact e
    · rw [restore_out hi]
      exact h.non i (by rw [wipeE_out hi]; exact lock_non e)
theorem stores_len {pm : List Nat} : ∀ {is : List Nat} {ps : List PV} {env env' : En}, stores pm is ps env = some env' → env'.length = env.length
  | [], [], _, _, e => by cases e; rfl
  | i :: is, p :: ps, env, _, e => by
    unfold stores at e
    split at e
    · rename_i h
      rw [stores_len e]
      unfold store at h
      split at h
      · cases h
      · split at h
        · cases h
        · cases h; rw [List.length_set]
        · cases h
    · cases e
  | [], _ :: _, _, _, e => by cases e
  | _ :: _, [], _, _, e => by cases e
theorem store_get {pm : List Nat} {i j : Nat} {p : PV} {f : Bool} {env env' : En} (e : store pm i p f env = some env') (h : i ≠ j) : env'[j]? = env[j]? := by
  unfold store at e
  split at e
  · cases e
  · split at e
    · cases e
    · cases e; rw [List.getElem?_set_ne h]
    · cases e
theorem stores_get {pm : List Nat} {j : Nat} : ∀ {is : List Nat} {ps : List PV} {env env' : En}, stores pm is ps env = some env' → j ∉ is → env'[j]? = env[j]?
  | [], [], _, _, e, _ => by cases e; rfl
  | i :: is, p :: ps, env, _, e, h => by
    unfold stores at e
    simp only [List.mem_cons, not_or] at h
    split at e
    · rename_i h1
      rw [stores_get e h.2, store_get h1 fun q => h.1 q.symm]
    · cases e
  | [], _ :: _, _, _, e, _ => by cases e
  | _ :: _, [], _, _, e, _ => by cases e
theorem bind_get {pm : List Nat} {tg : Tg} {x : PV} {env env' : En} {j : Nat} (e : bindTg pm tg x env = some env') (h : j ∉ tg.slots) : env'[j]? = env[j]? := by
  cases tg with
  | one i => exact store_get e fun q => h (by simp [Tg.slots, q])
  | many is =>
    unfold bindTg at e
    simp only at e
    split at e
    · exact stores_get e h
    · cases e
theorem bind_len {pm : List Nat} {tg : Tg} {x : PV} {env env' : En} (e : bindTg pm tg x env = some env') : env'.length = env.length := by
  cases tg with
  | one i =>
    have e : store pm i x false env = some env' := e
    unfold store at e
    split at e
    · cases e
    · split at e
      · cases e
      · cases e; rw [List.length_set]
      · cases e
  | many is =>
    unfold bindTg at e
    simp only at e
    split at e
    · exact stores_len e
    · cases e
/-- a turn of a comprehension: bound, walked, wiped again -/
theorem turn_rel {env1 env2 : En} {own : List Nat} {pm : List Nat} {tg : Tg} {x : PV} {env : En} (hs : ∀ i ∈ tg.slots, i ∈ own) (hb : bindTg pm tg x (wipeE env own) = some env1) (h : EnvRel env1 env2) : EnvRel (wipeE env own) (wipeE env2 own) := by
  have l1 := bind_len hb
  refine ⟨by rw [wipeE_len, h.len, l1], fun i s e => ?_, fun i e => ?_⟩
  · obtain ⟨e0, hi⟩ := wipeE_get e
    have e1 : env1[i]? = some (some s) := by rw [bind_get hb fun q => hi (hs i q)]; exact e
    obtain ⟨s', e2, h2⟩ := h.pres i s e1
    exact ⟨s', by rw [wipeE_out hi]; exact e2, h2⟩
  · by_cases hi : i ∈ own
    · refine wipeE_in hi ?_
      have := lt_of_some e
      rw [wipeE_len] at this
      rw [h.len, l1, wipeE_len]; exact this
    · rw [wipeE_out hi]
      exact h.non i (by rw [bind_get hb fun q => hi (hs i q)]; exact e)

section
variable {M : Nat → List Md} {C : Cl}
/-- what comprehensions' turns come to -/
theorem lcGo_rel {turn : PV → En → Option (Option PV × En)} {a : En} {n : Nat} (h : ∀ x env r env', EnvRel a env → turn x env = some (r, env') → EnvRel env env') : ∀ {xs : List PV} {env : En} {ys : List PV} {env' : En}, EnvRel a env → lcGo turn xs env = some (ys, env') → EnvRel env env'
  | [], _, _, _, _, e => by cases e; exact .refl
  | x :: xs, env, _, _, ha, e => by
    unfold lcGo at e
    split at e
    · rename_i h1
      exact (h _ _ _ _ ha h1).trans (lcGo_rel (n := n) h (ha.trans (h _ _ _ _ ha h1)) e)
    · rename_i h1
      split at e
      · rename_i h2
        cases e
        exact (h _ _ _ _ ha h1).trans (lcGo_rel (n := n) h (ha.trans (h _ _ _ _ ha h1)) h2)
      · cases e
    · cases e
theorem wipe_same {a env : En} {own : List Nat} (h : EnvRel (wipeE a own) env) : wipeE env own = env := by
  apply List.ext_getElem?
  intro i
  by_cases hi : i ∈ own
  · by_cases hl : i < env.length
    · have hl2 : i < a.length := by rw [h.len, wipeE_len] at hl; exact hl
      rw [wipeE_in hi hl, h.non i (wipeE_in hi hl2)]
    · rw [List.getElem?_eq_none (by rw [wipeE_len]; omega), List.getElem?_eq_none (by omega)]
  · exact wipeE_out hi
theorem lcGo2_rel {turn : PV → En → Option (List PV × En)} {a : En} (h : ∀ x env r env', EnvRel a env → turn x env = some (r, env') → EnvRel env env') : ∀ {xs : List PV} {env : En} {ys : List PV} {env' : En}, EnvRel a env → lcGo2 turn xs env = some (ys, env') → EnvRel env env'
  | [], _, _, _, _, e => by cases e; exact .refl
  | x :: xs, env, _, _, ha, e => by
    unfold lcGo2 at e
    split at e
    · rename_i h1
      split at e
      · rename_i h2
        cases e
        exact (h _ _ _ _ ha h1).trans (lcGo2_rel h (ha.trans (h _ _ _ _ ha h1)) h2)
      · cases e
    · cases e
mutual
theorem ev_rel : ∀ (c : E) {env : En} {o : Opd} {env' : En}, ev M C c env = some (o, env') → EnvRel env env'
  | .con _, _, _, _, e => by simp only [ev] at e; cases e; exact .refl
  | .glo _ _, _, _, _, e => by simp only [ev] at e; cases e; exact .refl
  | .dnk, _, _, _, e => by simp only [ev] at e; cases e; exact .refl
  | .dnt, _, _, _, e => by simp only [ev] at e; cases e; exact .refl
  | .var i, _, _, _, e => by
    simp only [ev] at e
    split at e
    · cases e; exact .refl
    · cases e
  | .bin o a b, env, _, _, e => by
    simp only [ev] at e
    repeat' (split at e)
    all_goals first | (cases e; done) | (cases e; exact (ev_rel a (by assumption)).trans (ev_rel b (by assumption)))
  | .un o a, _, _, _, e => by
    simp only [ev] at e
    repeat' (split at e)
    all_goals first | (cases e; done) | (cases e; exact ev_rel a (by assumption))
  | .cmp o a b, env, _, _, e => by
    simp only [ev] at e
    repeat' (split at e)
    all_goals first | (cases e; done) | (cases e; exact (ev_rel a (by assumption)).trans (ev_rel b (by assumption)))
  | .idx a b, env, _, _, e => by
    simp only [ev] at e
    repeat' (split at e)
    all_goals first | (cases e; done) | (cases e; exact (ev_rel a (by assumption)).trans (ev_rel b (by assumption)))
  | .zip a b, env, _, _, e => by
    simp only [ev] at e
    repeat' (split at e)
    all_goals first | (cases e; done) | (cases e; exact (ev_rel a (by assumption)).trans (ev_rel b (by assumption)))
  | .cmp2 o p a b c, env, _, _, e => by
    simp only [ev] at e
    repeat' (split at e)
    all_goals first
      | (cases e; done)
      | (cases e; exact ((ev_rel a (by assumption)).trans (ev_rel b (by assumption))).trans (ev_rel c (by assumption)))
      | (cases e; exact (ev_rel a (by assumption)).trans (ev_rel b (by assumption)))
  | .and a b, _, _, _, e => by
    simp only [ev] at e
    repeat' (split at e)
    all_goals first | (cases e; done) | exact (ev_rel a (by assumption)).trans (ev_rel b e) | (cases e; exact ev_rel a (by assumption))
  | .or a b, _, _, _, e => by
    simp only [ev] at e
    repeat' (split at e)
    all_goals first | (cases e; done) | exact (ev_rel a (by assumption)).trans (ev_rel b e) | (cases e; exact ev_rel a (by assumption))
  | .not a, _, _, _, e => by
    simp only [ev] at e
    repeat' (split at e)
    all_goals first | (cases e; done) | (cases e; exact ev_rel a (by assumption))
  | .ite c a b, _, _, _, e => by
    simp only [ev] at e
    repeat' (split at e)
    all_goals first | (cases e; done) | exact (ev_rel c (by assumption)).trans (ev_rel a e) | exact (ev_rel c (by assumption)).trans (ev_rel b e)
  | .tup es, _, _, _, e => by
    simp only [ev] at e
    repeat' (split at e)
    all_goals first | (cases e; done) | (cases e; exact (evs_rel es (by assumption)).trans (consumes_rel (by assumption)))
  | .lst es, _, _, _, e => by
    simp only [ev] at e
    repeat' (split at e)
    all_goals first | (cases e; done) | (cases e; exact (evs_rel es (by assumption)).trans (consumes_rel (by assumption)))
  | .slc a lo hi, _, _, _, e => by
    simp only [ev] at e
    repeat' (split at e)
    all_goals first | (cases e; done) | (cases e; exact ((ev_rel a (by assumption)).trans (evs_rel lo (by assumption))).trans (evs_rel hi (by assumption)))
  | .rev a, _, _, _, e => by
    simp only [ev] at e
    repeat' (split at e)
    all_goals first | (cases e; done) | (cases e; exact ev_rel a (by assumption))
  | .isi t a, _, _, _, e => by
    simp only [ev] at e
    repeat' (split at e)
    all_goals first | (cases e; done) | (cases e; exact ev_rel a (by assumption))
  | .rngI es, _, _, _, e => by
    simp only [ev] at e
    repeat' (split at e)
    all_goals first | (cases e; done) | (cases e; exact evs_rel es (by assumption))
  | .enum a, _, _, _, e => by
    simp only [ev] at e
    repeat' (split at e)
    all_goals first | (cases e; done) | (cases e; exact ev_rel a (by assumption))
  | .call f es, env, _, _, e => by
    simp only [ev] at e
    split at e
    · rename_i os env1 h1
      split at e
      · rename_i ps is env2 h2
        split at e
        · rename_i r k outs h3
          split at e
          · rename_i env3 h4
            cases e
            refine ((evs_rel es h1).trans (pass_rel h2)).trans (back_rel h4 fun i hi => ?_)
            exact pass_keeps h2 i hi
          · cases e
        · cases e
      · cases e
    · cases e
  | .bi b es, _, _, _, e => by
    simp only [ev] at e
    repeat' (split at e)
    all_goals first | (cases e; done) | (cases e; exact evs_rel es (by assumption))
  | .met m a es, _, _, _, e => by
    simp only [ev] at e
    repeat' (split at e)
    all_goals first | (cases e; done) | (cases e; exact (ev_rel a (by assumption)).trans (evs_rel es (by assumption)))
  | .mm m i es, _, _, _, e => by
    simp only [ev] at e
    repeat' (split at e)
    all_goals first | (cases e; done) | (cases e; exact ((evs_rel es (by assumption)).trans (consumes_rel (by assumption))).trans (EnvRel.setFz (by assumption) (.inl rfl)))
  | .lc tg it ifs elt, env, _, _, e => by
    simp only [ev] at e
    split at e
    · rename_i x env1 h1
      split at e
      · rename_i xs o h2
        split at e
        · rename_i ys env2 h3
          split at e
          · cases e
            refine (ev_rel it h1).trans (loop_rel (lcGo_rel (a := wipeE (lock env1 o) tg.slots) (n := 0) (fun x env r env' ha ht => ?_) .refl h3))
            have hw := wipe_same ha
            have hw2 := ha
            split at ht
            · rename_i env3 hb
              rw [← hw] at hb ⊢
              split at ht
              · rename_i env4 h4
                split at ht
                · rename_i y env5 h5
                  split at ht
                  · rename_i y2 env6 h6
                    cases ht
                    exact turn_rel (fun i h => h) hb (((evIfs_rel ifs h4).trans (ev_rel elt h5)).trans (consume_rel h6))
                  · cases ht
                · cases ht
              · rename_i env4 h4
                cases ht
                exact turn_rel (fun i h => h) hb (evIfs_rel ifs h4)
              · cases ht
            · cases ht
          · cases e
        · cases e
      · cases e
    · cases e
  | .lc2 tg it ifs tg1 it1 ifs1 elt, env, _, _, e => by
    simp only [ev] at e
    split at e
    · rename_i x env1 h1
      split at e
      · rename_i xs o h2
        split at e
        · rename_i ys env2 h3
          split at e
          · cases e
            refine (ev_rel it h1).trans (loop_rel (lcGo2_rel (a := wipeE (lock env1 o) (tg.slots ++ tg1.slots)) (fun x env r env' ha ht => ?_) .refl h3))
            have hw := wipe_same ha
            split at ht
            · rename_i env3 hb
              rw [← hw] at hb ⊢
              split at ht
              · rename_i env4 h4
                split at ht
                · rename_i x1 env5 h5
                  split at ht
                  · rename_i zs o1 h6
                    split at ht
                    · rename_i ys2 env6 h7
                      cases ht
                      refine turn_rel (fun i h => List.mem_append_left _ h) hb (((evIfs_rel ifs h4).trans (ev_rel it1 h5)).trans (loop_rel (lcGo_rel (a := wipeE (lock env5 o1) tg1.slots) (n := 0) (fun x env r env' ha ht => ?_) .refl h7)))
                      have hw := wipe_same ha
                      split at ht
                      · rename_i env3 hb
                        rw [← hw] at hb ⊢
                        split at ht
                        · rename_i env4 h4
                          split at ht
                          · rename_i y env5 h5
                            split at ht
                            · rename_i y2 env6 h6
                              cases ht
                              exact turn_rel (fun i h => h) hb (((evIfs_rel ifs1 h4).trans (ev_rel elt h5)).trans (consume_rel h6))
                            · cases ht
                          · cases ht
                        · rename_i env4 h4
                          cases ht
                          exact turn_rel (fun i h => h) hb (evIfs_rel ifs1 h4)
                        · cases ht
                      · cases ht
                    · cases ht
                  · cases ht
                · cases ht
              · rename_i env4 h4
                cases ht
                exact turn_rel (fun i h => List.mem_append_left _ h) hb (evIfs_rel ifs h4)
              · cases ht
            · cases ht
          · cases e
        · cases e
      · cases e
    · cases e
theorem evs_rel : ∀ (cs : List E) {env : En} {os : List Opd} {env' : En}, evs M C cs env = some (os, env') → EnvRel env env'
  | [], _, _, _, e => by simp only [evs] at e; cases e; exact .refl
  | c :: cs, _, _, _, e => by
    simp only [evs] at e
    repeat' (split at e)
    all_goals first | (cases e; done) | (cases e; exact (ev_rel c (by assumption)).trans (evs_rel cs (by assumption)))
theorem evIfs_rel : ∀ (cs : List E) {env : En} {b : Bool} {env' : En}, evIfs M C cs env = some (b, env') → EnvRel env env'
  | [], _, _, _, e => by simp only [evIfs] at e; cases e; exact .refl
  | c :: cs, _, _, _, e => by
    simp only [evIfs] at e
    repeat' (split at e)
    all_goals first | (cases e; done) | exact (ev_rel c (by assumption)).trans (evIfs_rel cs e) | (cases e; exact ev_rel c (by assumption))
end
end
end L2.Pz
set_option Elab.async false
set_option linter.all false
set_option maxRecDepth 100000
set_option maxHeartbeats 4000000
namespace L2.Pz
set_option autoImplicit false
open PySem PySem.Spec PyProof.Rows L2

/-! ## Pz7: arguments handed over and taken back -/
/-- the slots whose objects are lent, by the modes -/
inductive Lnk (σ : St) : List Md → List V → List Nat → Prop
  | nil : Lnk σ [] [] []
  | val {ms : List Md} {v : V} {vs : List V} {is : List Nat} : Lnk σ ms vs is → Lnk σ (.val :: ms) (v :: vs) is
  | ro {ms : List Md} {v : V} {vs : List V} {is : List Nat} : Lnk σ ms vs is → Lnk σ (.ro :: ms) (v :: vs) is
  | lend {ms : List Md} {a : Addr} {vs : List V} {is : List Nat} {i : Nat} : σ[i]? = some (some (.ref a)) → i ∉ is → Lnk σ ms vs is → Lnk σ (.mu :: ms) (.ref a :: vs) (i :: is)
def endE : List Md → List PV → En
  | .mu :: ms, p :: ps => some ⟨p, .own⟩ :: endE ms ps
  | .mu :: ms, [] => none :: endE ms []
  | .val :: ms, ps => none :: endE ms ps
  | .ro :: ms, ps => none :: endE ms ps
  | [], _ => []
section
variable {g : Gw} {F F' F0 : Ad} {H H' H0 : Hp} {σ : St} {env env' : En} {O0 : Ad}
theorem starts_get : ∀ {ms : List Md} {ps : List PV} {k : Nat} {s : Slot}, (starts ms ps)[k]? = some (some s) → ∃ m, ms[k]? = some m ∧ ps[k]? = some s.v ∧ s.k = kdOf m
  | [], ps, k, s, e => by cases ps <;> simp [starts] at e
  | m :: ms, [], k, s, e => by simp [starts] at e
  | m :: ms, p :: ps, 0, s, e => by
    simp only [starts, List.getElem?_cons_zero, Option.some.injEq] at e
    subst e
    exact ⟨m, rfl, rfl, rfl⟩
  | m :: ms, p :: ps, k + 1, s, e => by
    simp only [starts, List.getElem?_cons_succ] at e
    exact starts_get (k := k) e
theorem Lnk.own : ∀ {ms : List Md} {vs : List V} {is : List Nat} {ps : List PV} {a : Addr}, Lnk σ ms vs is → Own (vs.map some) (starts ms ps) a → ∃ i ∈ is, σ[i]? = some (some (.ref a)) := by
  intro ms vs is ps a h ⟨k, x, e, es⟩
  obtain ⟨m, em, epk, hk⟩ := starts_get e
  have hm : m = .mu := by
    cases m <;> first | rfl | cases hk
  subst hm
  clear e hk epk
  induction h generalizing k with
  | nil => cases em
  | val _ ih =>
    cases k with
    | zero => cases em
    | succ k => exact ih k es em
  | ro _ ih =>
    cases k with
    | zero => cases em
    | succ k => exact ih k es em
  | lend hs _ _ ih =>
    cases k with
    | zero =>
      simp at es
      subst es
      exact ⟨_, List.mem_cons_self .., hs⟩
    | succ k =>
      obtain ⟨i, hi, e⟩ := ih k es em
      exact ⟨i, List.mem_cons_of_mem _ hi, e⟩
theorem Lnk.back : ∀ {ms : List Md} {vs : List V} {is : List Nat} {outs : List PV} {env env' : En}, Lnk σ ms vs is → Pz.back is outs env = some env' → (∀ i ∈ is, i < env.length) →
    (∀ j, j ∉ is → env'[j]? = env[j]?) ∧ ∀ j ∈ is, ∃ (out : PV) (a : Addr) (k : Nat), env'[j]? = some (some ⟨out, .own⟩) ∧ σ[j]? = some (some (.ref a)) ∧ (endE ms outs)[k]? = some (some ⟨out, .own⟩) ∧ (vs.map some)[k]? = some (some (V.ref a)) := by
  intro ms vs is outs env env' h
  induction h generalizing outs env with
  | nil =>
    intro e _
    cases outs with
    | nil => cases e; exact ⟨fun _ _ => rfl, fun j h => by cases h⟩
    | cons _ _ => cases e
  | val _ ih =>
    intro e hl
    obtain ⟨h1, h2⟩ := ih e hl
    exact ⟨h1, fun j hj => by
      obtain ⟨out, a, k, q1, q2, q3, q4⟩ := h2 j hj
      exact ⟨out, a, k + 1, q1, q2, by cases outs <;> exact q3, q4⟩⟩
  | ro _ ih =>
    intro e hl
    obtain ⟨h1, h2⟩ := ih e hl
    exact ⟨h1, fun j hj => by
      obtain ⟨out, a, k, q1, q2, q3, q4⟩ := h2 j hj
      exact ⟨out, a, k + 1, q1, q2, by cases outs <;> exact q3, q4⟩⟩
  | @lend ms a vs is i hs hn _ ih =>
    intro e hl
    cases outs with
    | nil => cases e
    | cons p ps =>
      have e : Pz.back is ps (env.set i (some ⟨p, .own⟩)) = some env' := e
      obtain ⟨h1, h2⟩ := ih e fun j hj => by rw [List.length_set]; exact hl j (List.mem_cons_of_mem _ hj)
      refine ⟨fun j hj => ?_, fun j hj => ?_⟩
      · simp only [List.mem_cons, not_or] at hj
        rw [h1 j hj.2, List.getElem?_set_ne fun q => hj.1 q.symm]
      · rcases List.mem_cons.mp hj with rfl | hj
        · exact ⟨p, a, 0, by rw [h1 j hn, List.getElem?_set_self (hl j (List.mem_cons_self ..))], hs, rfl, rfl⟩
        · obtain ⟨out, b, k, q1, q2, q3, q4⟩ := h2 j hj
          exact ⟨out, b, k + 1, q1, q2, q3, q4⟩
theorem Rep.nil (hd : ∀ a, F a → H a ≠ none) : Rep g F H [] [] := ⟨rfl, fun i s e => by simp at e, fun i j x s a _ e => by simp at e, hd⟩
/-- one slot more in front -/
theorem Rep.consS {v : V} {s : Slot} (R : Rep g F H σ env) (h : RepS g F H s v) (h1 : s.k.ex = true → ∀ a, v = .ref a → Away g F H σ env a)
    (h2 : s.k ≠ .fz → ∀ (j : Nat) (x : Slot) (a : Addr), env[j]? = some (some x) → x.k.ex = true → σ[j]? = some (some (.ref a)) → v = .ref a → RepV g F H s.v (.ref a)) : Rep g F H (some v :: σ) (some s :: env) := by
  refine ⟨by simp [R.len], fun i t e => ?_, fun i j x t a hij e1 k1 e2 k2 es ej => ?_, R.dom⟩
  · cases i with
    | zero => simp at e; subst e; exact ⟨v, rfl, h⟩
    | succ i => exact R.slot i t e
  · cases i with
    | zero =>
      simp at e1 es
      subst e1
      cases j with
      | zero => exact (hij rfl).elim
      | succ j => exact h1 k1 a es j t e2 k2 ej
    | succ i =>
      cases j with
      | zero =>
        simp at e2 ej
        subst e2
        exact h2 k2 i x a e1 k1 es ej
      | succ j => exact R.sep i j x t a (fun q => hij (by rw [q])) e1 k1 e2 k2 es ej
theorem held_alias {N : Ad} {o : Opd} {v : V} {p q : PV} {i : Nat} {a : Addr} (R : Rep g F H σ env) (h : HeldO g F H σ env N o v) (e : deref env o = some p) (ei : env[i]? = some (some ⟨q, .own⟩)) (es : σ[i]? = some (some (.ref a))) (ev : v = .ref a) (n : o.is i = false) : RepV g F H p v := by
  cases o with
  | wk _ _ => cases e
  | vl p' f =>
    cases e
    cases f with
    | false => exact h
    | true =>
      obtain ⟨b, rfl, nf, c, _, aw⟩ := h
      cases ev
      exact (nf (by
        obtain ⟨b, eb, nb, c'⟩ := R.exc ei rfl
        rw [es] at eb; cases eb
        exact c'.inF (aw i _ ei (fun h => nomatch h) es))).elim
  | sl j =>
    obtain ⟨ej, s, esj⟩ := h
    have hij : i ≠ j := fun z => by subst z; simp [Opd.is] at n
    simp only [deref, esj] at e
    cases e
    subst ev
    obtain ⟨w, ew, r⟩ := R.slot j s esj
    rw [ej] at ew; cases ew
    cases hk : s.k with
    | fz => unfold RepS at r; rw [hk] at r; exact r
    | own => exact R.sep i j _ s a hij ei rfl esj (by rw [hk]; exact fun h => nomatch h) es ej
    | ro => exact R.sep i j _ s a hij ei rfl esj (by rw [hk]; exact fun h => nomatch h) es ej
    | lk => exact R.sep i j _ s a hij ei rfl esj (by rw [hk]; exact fun h => nomatch h) es ej
theorem Away.consS {a : Addr} {v : V} {s : Slot} (aw : Away g F H σ env a) (h : s.k ≠ .fz → v = .ref a → RepV g F H s.v (.ref a)) : Away g F H (some v :: σ) (some s :: env) a := fun i t e k es => by
  cases i with
  | zero => simp at e es; subst e; exact h k es
  | succ i => exact aw i t e k es
/-- what is read stays through a freezing -/
theorem Peek.mono {p : PV} {v : V} (h : Peek g F H p v) (m : ∀ a, F a → F' a) : Peek g F' H p v := by
  rcases h with h | ⟨a, e, c⟩
  · exact .inl (h.mono m fun _ _ _ e => e)
  · exact .inr ⟨a, e, c.mono m (fun _ _ _ e => e) fun _ e => e⟩
/-- the arguments are handed over -/
theorem pass_ok : ∀ {ms : List Md} {os : List Opd} {vs : List V} {ps : List PV} {is : List Nat} {F : Ad} {env env' : En}, Rep g F H σ env → Ext F0 H0 O0 F H (Own σ env) → HeldL g F H σ env (New H0 O0) os vs → pass ms os env = some (ps, is, env') →
    ∃ F', (∀ a, F a → F' a) ∧ Ext F0 H0 O0 F' H (Own σ env') ∧ Rep g F' H σ env' ∧ Rep g F' H (vs.map some) (starts ms ps) ∧ Lnk σ ms vs is ∧ vs.length = ps.length ∧ ps.length = ms.length ∧
      ∀ (i : Nat) (q : PV) (a : Addr), env[i]? = some (some ⟨q, .own⟩) → σ[i]? = some (some (.ref a)) → ¬ os.any (Opd.is i) = true → Away g F' H (vs.map some) (starts ms ps) a
  | [], [], _, _, _, F, env, _, R, x, .nil, e => by
    cases e
    exact ⟨F, fun _ h => h, x, R, .nil R.dom, .nil, rfl, rfl, fun _ _ _ _ _ _ i s e => by simp [starts] at e⟩
  | .val :: ms, o :: os, _, _, _, F, env, _, R, x, .cons (v := v) (vs := vs) a b c, e => by
    unfold pass at e
    split at e
    · rename_i p env1 h1
      split at e
      · rename_i ps is env2 h2
        cases e
        obtain ⟨F1, C, r⟩ := consume_ok R x a h1
        obtain ⟨F2, m2, x2, R2, S2, L2, l1, l2, Z⟩ := pass_ok C.rep C.ext (C.heldL R c b) h2
        refine ⟨F2, fun a h => m2 a (C.mono a h), x2, R2, ?_, .val L2, by simp [l1], by simp [l2], fun i q a ei es n => ?_⟩
        · exact S2.consS (s := ⟨p, .fz⟩) (r.mono m2 fun _ _ _ e => e) (fun h => by cases h) fun h => (h rfl).elim
        · simp only [List.any_cons, Bool.or_eq_true, not_or, Bool.not_eq_true] at n
          exact (Z i q a (consume_other h1 ei n.1) es (by rw [n.2]; exact Bool.false_ne_true)).consS (s := ⟨p, .fz⟩) fun h => (h rfl).elim
      · cases e
    · cases e
  | .ro :: ms, o :: os, _, _, _, F, env, _, R, x, .cons (v := v) (vs := vs) a b c, e => by
    unfold pass at e
    split at e
    · rename_i p h1
      split at e
      · rename_i ps is env2 h2
        split at e
        · cases e
        · rename_i hn
          cases e
          obtain ⟨F2, m2, x2, R2, S2, L2, l1, l2, Z⟩ := pass_ok R x c h2
          have pk := (a.peek R h1).mono (F' := F2) m2
          refine ⟨F2, m2, x2, R2, ?_, .ro L2, by simp [l1], by simp [l2], fun i q a' ei es n => ?_⟩
          · refine S2.consS (s := ⟨p, .ro⟩) pk (fun h => by cases h) fun _ j y a' ej kj esj ev => ?_
            have oj : Own (vs.map some) (starts ms ps) a' := by
              obtain ⟨m, em, _, hk⟩ := starts_get ej
              obtain ⟨yv, yk⟩ := y
              cases m with
              | val => simp only [kdOf] at hk; subst hk; cases kj
              | ro => simp only [kdOf] at hk; subst hk; cases kj
              | mu => simp only [kdOf] at hk; subst hk; exact ⟨j, yv, ej, esj⟩
            obtain ⟨i, hi, es⟩ := L2.own oj
            obtain ⟨⟨q, ei⟩, _⟩ := pass_own h2 i hi
            have ni : o.is i = false := by
              cases z : o.is i with
              | false => rfl
              | true => exact (hn (List.any_eq_true.mpr ⟨i, hi, z⟩)).elim
            have r := held_alias R a h1 ei es ev ni
            rw [ev] at r
            exact r.mono m2 fun _ _ _ e => e
          · simp only [List.any_cons, Bool.or_eq_true, not_or, Bool.not_eq_true] at n
            refine (Z i q a' ei es (by rw [n.2]; exact Bool.false_ne_true)).consS (s := ⟨p, .ro⟩) fun _ ev => ?_
            have r := held_alias R a h1 ei es ev n.1
            rw [ev] at r
            exact r.mono m2 fun _ _ _ e => e
      · cases e
    · cases e
  | .mu :: ms, .sl i :: os, _, _, _, F, env, _, R, x, .cons (v := v) (vs := vs) a b c, e => by
    unfold pass at e
    split at e
    · rename_i p h1
      split at e
      · rename_i ps is env2 h2
        split at e
        · cases e
        · rename_i hn
          cases e
          obtain ⟨F2, m2, x2, R2, S2, L2, l1, l2, Z⟩ := pass_ok R x c h2
          obtain ⟨es, _⟩ := a
          obtain ⟨b', eb, nb, cb⟩ := R.exc h1 rfl
          rw [es] at eb; cases eb
          have hi : i ∉ is := fun hi => by
            obtain ⟨_, m⟩ := pass_own h2 i hi
            exact hn (List.any_eq_true.mpr ⟨_, m, by simp [Opd.is]⟩)
          have e2 := pass_other h2 h1 hn
          obtain ⟨b2, eb2, nb2, cb2⟩ := R2.exc e2 rfl
          rw [es] at eb2; cases eb2
          have aw := Z i p b' h1 es hn
          refine ⟨F2, m2, x2, R2, ?_, .lend es hi L2, by simp [l1], by simp [l2], fun j q a' ej esj n => ?_⟩
          · refine S2.consS (s := ⟨p, .own⟩) ⟨b', rfl, nb2, cb2⟩ (fun _ a' ea => by cases ea; exact aw) fun _ j y a' ej kj esj ev => ?_
            cases ev
            have oj : Own (vs.map some) (starts ms ps) b' := by
              obtain ⟨m, em, _, hk⟩ := starts_get ej
              obtain ⟨yv, yk⟩ := y
              cases m with
              | val => simp only [kdOf] at hk; subst hk; cases kj
              | ro => simp only [kdOf] at hk; subst hk; cases kj
              | mu => simp only [kdOf] at hk; subst hk; exact ⟨j, yv, ej, esj⟩
            have r := aw j y ej (by
              intro z; rw [z] at kj; cases kj) esj
            obtain ⟨b3, eb3, nb3, cb3⟩ := S2.exc ej kj
            rw [esj] at eb3; cases eb3
            exact (nb3 (cb3.inF r)).elim
          · simp only [List.any_cons, Bool.or_eq_true, not_or, Bool.not_eq_true] at n
            refine (Z j q a' ej esj (by rw [n.2]; exact Bool.false_ne_true)).consS (s := ⟨p, .own⟩) fun _ ev => ?_
            cases ev
            have hji : j ≠ i := fun z => by subst z; simp [Opd.is] at n
            exact (R.sep j i _ _ _ hji ej rfl h1 (fun h => nomatch h) esj es).mono m2 fun _ _ _ e => e
      · cases e
    · cases e
  | .mu :: ms, .vl _ _ :: os, _, _, _, _, _, _, _, _, _, e => by cases e
  | .mu :: ms, .wk _ _ :: os, _, _, _, _, _, _, _, _, _, e => by cases e
  | [], _ :: _, _, _, _, _, _, _, _, _, _, e => by cases e
  | .val :: _, [], _, _, _, _, _, _, _, _, _, e => by cases e
  | .ro :: _, [], _, _, _, _, _, _, _, _, _, e => by cases e
  | .mu :: _, [], _, _, _, _, _, _, _, _, _, e => by cases e
end
end L2.Pz
set_option Elab.async false
set_option linter.all false
set_option maxRecDepth 100000
set_option maxHeartbeats 4000000
namespace L2.Pz
set_option autoImplicit false
open PySem PySem.Spec PyProof.Rows L2

/-! ## Pz8: a call, from the caller -/
section
variable {g : Gw} {F F' : Ad} {H H' : Hp} {σ : St} {env env' : En}
/-- behind a call -/
theorem call_ok {ms : List Md} {vs : List V} {ps outs : List PV} {is : List Nat} {r : PV} {k : Bool} {v : V} (R : Rep g F H σ env) (S : Rep g F H (vs.map some) (starts ms ps)) (L : Lnk σ ms vs is) (own : ∀ i ∈ is, ∃ p, env[i]? = some (some ⟨p, .own⟩))
    (x : Ext F H (Own (vs.map some) (starts ms ps)) F' H' (Own (vs.map some) (endE ms outs))) (R' : Rep g F' H' (vs.map some) (endE ms outs))
    (h : HeldO g F' H' (vs.map some) (endE ms outs) (New H (Own (vs.map some) (starts ms ps))) (.vl r k) v) (b : back is outs env = some env') :
    Ext F H (Own σ env) F' H' (Own σ env') ∧ Rep g F' H' σ env' ∧ HeldO g F' H' σ env' (New H (Own σ env)) (.vl r k) v := by
  obtain ⟨b1, b2⟩ := L.back b fun i hi => lt_of_some (own i hi).choose_spec
  have sub : ∀ a, Own (vs.map some) (starts ms ps) a → Own σ env a := fun a h => by
    obtain ⟨i, hi, es⟩ := L.own h
    obtain ⟨p, ei⟩ := own i hi
    exact ⟨i, p, ei, es⟩
  have nF : ∀ a, Own (vs.map some) (starts ms ps) a → ¬ F a := fun a h => R.ownF (sub a h)
  have sub2 : ∀ a, Own σ env' a → Own σ env a := fun a ⟨j, q, ej, es⟩ => by
    by_cases hj : j ∈ is
    · obtain ⟨p, ei⟩ := own j hj
      exact ⟨j, p, ei, es⟩
    · rw [b1 j hj] at ej
      exact ⟨j, q, ej, es⟩
  have up : ∀ {q : PV} {w : V}, RepV g F H q w → RepV g F' H' q w := fun h => h.ext x nF
  -- what stands in a slot that was not lent, at a lent address
  have aliasO : ∀ (j : Nat) (s : Slot) (a : Addr), j ∉ is → env[j]? = some (some s) → s.k ≠ .fz → σ[j]? = some (some (.ref a)) → Own (vs.map some) (starts ms ps) a → RepV g F H s.v (.ref a) := fun j s a hj ej hk es ow => by
    obtain ⟨i, hi, ei⟩ := L.own ow
    obtain ⟨p, epi⟩ := own i hi
    exact R.sep i j _ s a (fun q => hj (q ▸ hi)) epi rfl ej hk ei es
  have upC : ∀ (j : Nat) (s : Slot) (a : Addr), j ∉ is → env[j]? = some (some s) → s.k ≠ .fz → σ[j]? = some (some (.ref a)) → RepC g F H a s.v → ¬ F a → RepC g F' H' a s.v ∧ ¬ F' a := fun j s a hj ej hk es c nf => by
    have no : ¬ Own (vs.map some) (starts ms ps) a := fun ow => nf (c.inF (aliasO j s a hj ej hk es ow))
    refine ⟨c.ext x nF no, fun hf => ?_⟩
    rcases x.newF a hf with q | q | q
    · exact nf q
    · exact no q
    · exact c.dom q
  refine ⟨⟨fun a o e n => x.keep a o e fun q => n (sub a q), x.dom, x.mono, fun a q => (x.newF a q).imp id fun z => z.imp (sub a) id, fun a q => .inl (sub2 a q)⟩, ⟨?_, fun j s ej => ?_, fun i j y s a hij ei ki ej kj es ejs => ?_, R'.dom⟩, ?_⟩
  · rw [R.len]
    have : ∀ {is : List Nat} {ps : List PV} {e e' : En}, back is ps e = some e' → e'.length = e.length := by
      intro is
      induction is with
      | nil => intro ps e e' h; cases ps <;> cases h; rfl
      | cons i is ih =>
        intro ps e e' h
        cases ps with
        | nil => cases h
        | cons p ps =>
          have h : back is ps (e.set i (some ⟨p, .own⟩)) = some e' := h
          rw [ih h, List.length_set]
    exact (this b).symm
  · by_cases hj : j ∈ is
    · obtain ⟨out, a, kk, q1, q2, q3, q4⟩ := b2 j hj
      rw [q1] at ej; cases ej
      obtain ⟨w, ew, rr⟩ := R'.slot kk _ q3
      rw [q4] at ew; cases ew
      exact ⟨_, q2, rr⟩
    · rw [b1 j hj] at ej
      obtain ⟨w, ew, rr⟩ := R.slot j s ej
      refine ⟨w, ew, ?_⟩
      obtain ⟨q, kd⟩ := s
      cases kd with
      | fz => exact up rr
      | own =>
        obtain ⟨a, rfl, nf, c⟩ := rr
        obtain ⟨c', nf'⟩ := upC j _ a hj ej (fun h => nomatch h) ew c nf
        exact ⟨a, rfl, nf', c'⟩
      | lk =>
        obtain ⟨a, rfl, nf, c⟩ := rr
        obtain ⟨c', nf'⟩ := upC j _ a hj ej (fun h => nomatch h) ew c nf
        exact ⟨a, rfl, nf', c'⟩
      | ro =>
        rcases rr with rr | ⟨a, rfl, c⟩
        · exact .inl (up rr)
        · by_cases ow : Own (vs.map some) (starts ms ps) a
          · exact .inl (up (aliasO j _ a hj ej (fun h => nomatch h) ew ow))
          · exact .inr ⟨a, rfl, c.ext x nF ow⟩
  · -- apart
    by_cases hi : i ∈ is
    · obtain ⟨out, a1, k1, q1, q2, q3, q4⟩ := b2 i hi
      rw [es] at q2; cases q2
      by_cases hj : j ∈ is
      · obtain ⟨p1, e1⟩ := own i hi
        obtain ⟨p2, e2⟩ := own j hj
        have r1 := R.sep i j _ _ a hij e1 rfl e2 (fun h => nomatch h) es ejs
        obtain ⟨c1, ec, nc, cc⟩ := R.exc e2 rfl
        rw [ejs] at ec; cases ec
        exact (nc (cc.inF r1)).elim
      · rw [b1 j hj] at ej
        obtain ⟨p1, e1⟩ := own i hi
        exact up (R.sep i j _ s a hij e1 rfl ej kj es ejs)
    · rw [b1 i hi] at ei
      by_cases hj : j ∈ is
      · obtain ⟨p2, e2⟩ := own j hj
        have r1 := R.sep i j y _ a hij ei ki e2 (fun h => nomatch h) es ejs
        obtain ⟨c1, ec, nc, cc⟩ := R.exc e2 rfl
        rw [ejs] at ec; cases ec
        exact (nc (cc.inF r1)).elim
      · rw [b1 j hj] at ej
        exact up (R.sep i j y s a hij ei ki ej kj es ejs)
  · cases k with
    | false => exact h
    | true =>
      obtain ⟨a, rfl, nf, c, na, aw⟩ := h
      refine ⟨a, rfl, nf, c, na.imp (sub a) id, fun j s ej kj es => ?_⟩
      by_cases hj : j ∈ is
      · obtain ⟨out, a1, k1, q1, q2, q3, q4⟩ := b2 j hj
        rw [q1] at ej; cases ej
        rw [es] at q2; cases q2
        exact aw k1 _ q3 kj q4
      · rw [b1 j hj] at ej
        rcases na with na | na
        · exact up (aliasO j s a hj ej kj es na)
        · obtain ⟨w, ew, rr⟩ := R.slot j s ej
          rw [es] at ew; cases ew
          obtain ⟨q, kd⟩ := s
          cases kd with
          | fz => exact (kj rfl).elim
          | own => obtain ⟨_, e, _, c⟩ := rr; cases e; exact (c.dom na).elim
          | lk => obtain ⟨_, e, _, c⟩ := rr; cases e; exact (c.dom na).elim
          | ro =>
            rcases rr with rr | ⟨_, e, c⟩
            · exact up rr
            · cases e; exact (c.dom na).elim
end

/-! ### what a def promises, by its pure meaning -/
def spC (g : Gw) (M : Nat → List Md) (C : Cl) (f : Nat) : Sp := fun vs H Q _ => ∃ F ps r outs, vs.length = ps.length ∧ ps.length = (M f).length ∧ Rep g F H (vs.map some) (starts (M f) ps) ∧ C f ps = some (r, outs) ∧
  ∀ v F' H', Ext F H (Own (vs.map some) (starts (M f) ps)) F' H' (Own (vs.map some) (endE (M f) outs)) → Rep g F' H' (vs.map some) (endE (M f) outs) → HeldO g F' H' (vs.map some) (endE (M f) outs) (New H (Own (vs.map some) (starts (M f) ps))) (.vl r.1 r.2) v → Q v H'
/-- the names of the module: its defs by number, built-ins that it leaves, constants -/
structure Nf where
  fn : List Str
  free : List Str
  cst : List (Str × PV)
/-- where code stands -/
structure CxOk (g : Gw) (M : Nat → List Md) (C : Cl) (d : Nat) (N : List Str) (nf : Nf) (X : Cx) : Prop where
  hK : X.K = g.K
  hw : X.w = g.w
  hN : X.N = N
  calm : X.calm = true
  nd : N.Nodup
  room : Room d X.A
  xe : X.xe = fun _ _ => False
  free : ∀ x ∈ nf.free, X.mg x = none
  cst : ∀ q ∈ nf.cst, ∃ u v, X.mg q.1 = some u ∧ RelV v u ∧ ∀ F H, RepV g F H q.2 v
  fn : ∀ (i : Nat) (x : Str), nf.fn[i]? = some x → ∃ fa fd ps, X.mg x = some (.ref fa) ∧ PySem.W.keepIn X.K (.ref fa) = true ∧ Binds X.K fd ps [] ∧ FnOk X.prog X.w X.K X.mg X.base CX0 d fa fd ps (spC g M C i)
end L2.Pz
set_option Elab.async false
set_option linter.all false
set_option maxRecDepth 100000
set_option maxHeartbeats 4000000
namespace L2.Pz
set_option autoImplicit false
open PySem PySem.Spec PyProof.Rows L2

/-! ## Pz9: readings by the pure meaning -/
theorem peI {X : Cx} {e : Expr} {t t' : TE} (h : PE X e t) (f : ∀ σ H Q, t' σ H Q → t σ H Q) : PE X e t' := ⟨fun pins s σ H Q I q => h.run pins s σ H Q I (f σ H Q q)⟩
theorem ptI {X : Cx} {e : Expr} {t t' : TT} (h : PT X e t) (f : ∀ σ H Q, t' σ H Q → t σ H Q) : PT X e t' := ⟨fun pins s σ H Q I q => h.run pins s σ H Q I (f σ H Q q)⟩
theorem pwI {X : Cx} {e : Expr} {t t' : TT} (h : PW X e t) (f : ∀ σ H Q, t' σ H Q → t σ H Q) : PW X e t' := ⟨fun w pins s σ H Q I q => h.run w pins s σ H Q I (f σ H Q q)⟩
theorem paI {X : Cx} {e : List Expr} {t t' : TA} (h : PA X e t) (f : ∀ σ H Q, t' σ H Q → t σ H Q) : PA X e t' := ⟨fun p pins s σ H Q I q => h.run p pins s σ H Q I (f σ H Q q)⟩
section
variable (g : Gw) (M : Nat → List Md) (C : Cl)
/-- what is wanted behind an expression -/
def Fin (σ : St) (F : Ad) (H : Hp) (env : En) (o : Opd) (env' : En) (Q : VK) : Prop :=
  ∀ v F' H', Ext F H (Own σ env) F' H' (Own σ env') → Rep g F' H' σ env' → HeldO g F' H' σ env' (New H (Own σ env)) o v → Q v H'
def FinT (σ : St) (F : Ad) (H : Hp) (env : En) (env' : En) (Q : Hp → Prop) : Prop :=
  ∀ F' H', Ext F H (Own σ env) F' H' (Own σ env') → Rep g F' H' σ env' → Q H'
def FinL (σ : St) (F : Ad) (H : Hp) (env : En) (os : List Opd) (env' : En) (Q : List V → Hp → Prop) : Prop :=
  ∀ vs F' H', Ext F H (Own σ env) F' H' (Own σ env') → Rep g F' H' σ env' → HeldL g F' H' σ env' (New H (Own σ env)) os vs → Q vs H'
def Opd.ok : Opd → Bool
  | .wk _ _ => false
  | _ => true
def tEv (c : E) : TE := fun σ H Q => ∃ F env o env', Rep g F H σ env ∧ ev M C c env = some (o, env') ∧ o.ok = true ∧ Fin g σ F H env o env' Q
def tTs (c : E) : TT := fun σ H Q => ∃ F env o env' k, Rep g F H σ env ∧ ev M C c env = some (o, env') ∧ deref env' o = some (.bl k) ∧ FinT g σ F H env env' (Q k)
def tEs (cs : List E) : TA := fun σ H Q => ∃ F env os env', Rep g F H σ env ∧ evs M C cs env = some (os, env') ∧ os.all Opd.ok = true ∧ FinL g σ F H env os env' Q
end
section
variable {g : Gw} {M : Nat → List Md} {C : Cl} {σ : St} {F F1 F' : Ad} {H H1 H' : Hp} {env env1 env' : En} {o x y : Opd} {Q : VK} {v : V} {N N' : Ad}
theorem HeldO.wid (h : HeldO g F H σ env N o v) (hN : ∀ a, N a → N' a) : HeldO g F H σ env N' o v := by
  cases o with
  | sl i => exact h
  | wk _ _ => exact h
  | vl p f =>
    cases f with
    | false => exact h
    | true => obtain ⟨a, e, nf, c, na, aw⟩ := h; exact ⟨a, e, nf, c, hN a na, aw⟩
theorem HeldL.wid (hN : ∀ a, N a → N' a) : ∀ {os : List Opd} {vs : List V}, HeldL g F H σ env N os vs → HeldL g F H σ env N' os vs
  | _, _, .nil => .nil
  | _, _, .cons a b c => .cons (a.wid hN) b (c.wid hN)
theorem Ext.new (x : Ext F H N F1 H1 N') : ∀ a, New H1 N' a → New H N a := fun a h => by
  rcases h with h | h
  · exact x.newO a h
  · exact .inr (x.dom a h)
theorem Ext.tr {O O1 O2 : Ad} (a : Ext F H O F1 H1 O1) (b : Ext F1 H1 O1 F' H' O2) : Ext F H O F' H' O2 where
  keep := fun x o e n => b.keep x o (a.keep x o e n) fun q => (a.newO x q).elim n fun z => by rw [e] at z; cases z
  dom := fun x e => a.dom x (b.dom x e)
  mono := fun x h => b.mono x (a.mono x h)
  newF := fun x h => by
    rcases b.newF x h with h | h | h
    · exact a.newF x h
    · exact .inr (a.newO x h)
    · exact .inr (.inr (a.dom x h))
  newO := fun x h => by
    rcases b.newO x h with h | h
    · exact a.newO x h
    · exact .inr (a.dom x h)
/-- one step more ahead -/
theorem Fin.pre (h : Fin g σ F H env o env' Q) (x : Ext F H (Own σ env) F1 H1 (Own σ env1)) : Fin g σ F1 H1 env1 o env' Q := fun v F' H' x' R' h' => h v F' H' (x.tr x') R' (h'.wid x.new)
theorem FinT.pre {Q : Hp → Prop} (h : FinT g σ F H env env' Q) (x : Ext F H (Own σ env) F1 H1 (Own σ env1)) : FinT g σ F1 H1 env1 env' Q := fun F' H' x' R' => h F' H' (x.tr x') R'
/-- a value made last -/
theorem Fin.out {r : PV} {k : Bool} (h : Fin g σ F H env (.vl r k) env' Q) (x : Ext F H (Own σ env) F1 H1 (Own σ env')) (R : Rep g F1 H1 σ env') : Out g F1 H1 (r, k) Q := fun v F' H' a =>
  h v F' H' (x.tr (a.ext _)) (a.rep R) ((a.held (O := Own σ env') R).wid fun b hb => x.new b hb)
/-- a value that is there -/
theorem Fin.val {r : PV} (h : Fin g σ F H env (.vl r false) env' Q) (x : Ext F H (Own σ env) F1 H1 (Own σ env')) (R : Rep g F1 H1 σ env') (hv : RepV g F1 H1 r v) : Q v H1 := h v F1 H1 x R hv
theorem PeekL.of {p : PV} {v : V} (h : Peek g F H p v) : PeekL g F H [p] [v] := .cons h .nil
/-- two operands, one behind the other -/
theorem ok_d {p : PV} (h : deref env x = some p) : x.ok = true := by
  cases x <;> first | rfl | cases h
theorem ok_ds : ∀ {os : List Opd} {ps : List PV}, derefs env os = some ps → os.all Opd.ok = true
  | [], _, _ => rfl
  | o :: os, _, h => by
    unfold derefs at h
    split at h
    · rename_i h1 h2; rw [List.all_cons, ok_d h1, ok_ds h2]; rfl
    · cases h
theorem ok_c {p : PV} (h : consume env x = some (p, env')) : x.ok = true := by
  cases x <;> first | rfl | cases h
theorem ok_cs : ∀ {os : List Opd} {ps : List PV} {env env' : En}, consumes env os = some (ps, env') → os.all Opd.ok = true
  | [], _, _, _, _ => rfl
  | o :: os, _, _, _, h => by
    unfold consumes at h
    split at h
    · rename_i h1
      split at h
      · rename_i h2; rw [List.all_cons, ok_c h1, ok_cs h2]; rfl
      · cases h
    · cases h
theorem ok_ps : ∀ {ms : List Md} {os : List Opd} {ps : List PV} {is : List Nat} {env env' : En}, pass ms os env = some (ps, is, env') → os.all Opd.ok = true
  | [], [], _, _, _, _, _ => rfl
  | .val :: ms, o :: os, _, _, _, _, h => by
    unfold pass at h
    split at h
    · rename_i h1
      split at h
      · rename_i h2; rw [List.all_cons, ok_c h1, ok_ps h2]; rfl
      · cases h
    · cases h
  | .ro :: ms, o :: os, _, _, _, _, h => by
    unfold pass at h
    split at h
    · rename_i h1
      split at h
      · rename_i h2; rw [List.all_cons, ok_d h1, ok_ps h2]; rfl
      · cases h
    · cases h
  | .mu :: ms, .sl i :: os, _, _, _, _, h => by
    unfold pass at h
    split at h
    · split at h
      · rename_i h2; rw [List.all_cons, ok_ps h2]; rfl
      · cases h
    · cases h
  | .mu :: ms, .vl _ _ :: os, _, _, _, _, e => by cases e
  | .mu :: ms, .wk _ _ :: os, _, _, _, _, e => by cases e
  | [], _ :: _, _, _, _, _, e => by cases e
  | .val :: _, [], _, _, _, _, e => by cases e
  | .ro :: _, [], _, _, _, _, e => by cases e
  | .mu :: _, [], _, _, _, _, e => by cases e
theorem two_ev {a b : E} {K : V → V → Hp → Prop} (R : Rep g F H σ env) (ea : ev M C a env = some (x, env1)) (eb : ev M C b env1 = some (y, env')) (kx : x.ok = true) (ky : y.ok = true)
    (h : ∀ v w F' H', Ext F H (Own σ env) F' H' (Own σ env') → Rep g F' H' σ env' → HeldO g F' H' σ env' (New H (Own σ env)) x v → HeldO g F' H' σ env' (New H (Own σ env)) y w → K v w H') :
    tEv g M C a σ H fun v H1 => tEv g M C b σ H1 fun w H2 => K v w H2 :=
  ⟨F, env, x, env1, R, ea, kx, fun v F1 H1 x1 R1 h1 => ⟨F1, env1, y, env', R1, eb, ky, fun w F2 H2 x2 R2 h2 =>
    h v w F2 H2 (x1.tr x2) R2 (h1.ext R1 x2 (ev_rel b eb) fun _ z => z) (h2.wid x1.new)⟩⟩
theorem two_op {a b : E} {f : PV → PV → Option Rv} {p q r : PV} {k : Bool} (R : Rep g F H σ env) (ea : ev M C a env = some (x, env1)) (eb : ev M C b env1 = some (y, env'))
    (dx : deref env' x = some p) (dy : deref env' y = some q) (e : f p q = some (r, k)) (fin : Fin g σ F H env (.vl r k) env' Q) : tOp (r2 g f) (tEv g M C a) (tEv g M C b) σ H Q :=
  two_ev R ea eb (ok_d dx) (ok_d dy) fun v w F' H' x' R' h1 h2 => ⟨F', p, q, (r, k), R'.dom, h1.peek R' dx, h2.peek R' dy, e, fin.out x' R'⟩
theorem one_op {a : E} {f : PV → Option Rv} {p r : PV} {k : Bool} (R : Rep g F H σ env) (ea : ev M C a env = some (x, env')) (dx : deref env' x = some p) (e : f p = some (r, k)) (fin : Fin g σ F H env (.vl r k) env' Q) :
    tUn (r1 g f) (tEv g M C a) σ H Q := ⟨F, env, x, env', R, ea, ok_d dx, fun v F' H' x' R' h => ⟨F', p, (r, k), R'.dom, h.peek R' dx, e, fin.out x' R'⟩⟩
/-- operands in a row -/
theorem tEs_cons {c : E} {cs : List E} {Q : List V → Hp → Prop} (h : tEs g M C (c :: cs) σ H Q) : tCons (tEv g M C c) (tEs g M C cs) σ H Q := by
  obtain ⟨F, env, os, env', R, e, ko, k⟩ := h
  simp only [evs] at e
  split at e
  · rename_i o env1 h1
    split at e
    · rename_i os1 env2 h2
      cases e
      rw [List.all_cons, Bool.and_eq_true] at ko
      refine ⟨F, env, o, env1, R, h1, ko.1, fun v F1 H1 x1 R1 a1 => ⟨F1, env1, _, _, R1, h2, ko.2, fun vs F2 H2 x2 R2 a2 => ?_⟩⟩
      refine k (v :: vs) F2 H2 (x1.tr x2) R2 (.cons (a1.ext R1 x2 (evs_rel cs h2) fun _ z => z) (fun hf kk o' eo hf' ev => ?_) (a2.wid x1.new))
      obtain ⟨a, rfl, nf, hd, _, aw⟩ := a1.fresh hf
      obtain ⟨w, ew, hw⟩ := a2.get eo
      rw [ev] at ew; cases ew
      obtain ⟨b, eb, _, _, nb, _⟩ := hw.fresh hf'
      cases eb
      rcases nb with nb | nb
      · exact aw.notOwn R1 nf nb
      · exact hd nb
    · cases e
  · cases e
theorem tEs_nil {Q : List V → Hp → Prop} (h : tEs g M C [] σ H Q) : tNil σ H Q := by
  obtain ⟨F, env, os, env', R, e, ko, k⟩ := h
  simp only [evs] at e
  cases e
  exact k [] F H .refl R .nil
end
end L2.Pz
set_option Elab.async false
set_option linter.all false
set_option maxRecDepth 100000
set_option maxHeartbeats 4000000
namespace L2.Pz
set_option autoImplicit false
open PySem PySem.Spec PyProof.Rows L2

/-! ## Pz10: subscripts, slices, kinds of values -/
section
variable {g : Gw} {X : Cx}
theorem ixN_lt {n : Nat} {i : Int} {j : Nat} (e : L2.ixN n i = some j) : j < n := by
  unfold L2.ixN at e
  split at e
  · split at e
    · cases e; omega
    · cases e
  · split at e
    · cases e; omega
    · cases e
theorem RepL.at {F : Ad} {H : Hp} {xs : List PV} {vs : List V} {i : Int} {p : PV} (l : RepL g F H xs vs) (e : atP xs i = some p) : ∃ v, L2.atI vs i = some v ∧ RepV g F H p v := by
  unfold atP at e
  obtain ⟨j, e1, e2⟩ := Option.bind_eq_some_iff.mp e
  obtain ⟨v, e3, r⟩ := l.get e2
  refine ⟨v, ?_, r⟩
  unfold L2.atI
  rw [← l.length, e1]
  exact e3
theorem ix_dict (hu : X.A.units + 1 < cLine) : IxR X (fun x y H Q => ∃ a v, x = .ref a ∧ DGet H a y (some v) ∧ Q v H) := by
  intro value slice pins s σ H x y v u Q I rx ry h hs
  obtain ⟨a, z, rfl, d, q⟩ := h
  cases rx
  exact tail_any (dict_typeIs I d) PySem.F.slot_dict_getitem.lookup (d_getItem hu I d ry fun w' s' I' r' => ⟨z, H, I', r', q⟩) hs
def ixF1 (p q : PV) : Option Rv := (idxF p q).map fun r => (r, false)
theorem idx_ok (hK : X.K = g.K) (hu : X.A.units + 1 < cLine) : IxR X (r2 g ixF1) := by
  intro value slice pins s σ H x y v u Q I rx ry ⟨F, p, q, r, nf, hp, hq, e, k⟩ hs
  obtain ⟨z, e1, rfl⟩ := Option.map_eq_some_iff.mp e
  unfold idxF at e1
  split at e1
  · obtain ⟨a, vs, rfl, ea, l⟩ := hp.lst
    have := hq.int; subst this
    obtain ⟨w, ew, rw'⟩ := l.at e1
    exact ix_list value slice pins s σ H _ _ v u Q I rx ry ⟨_, _, _, _, rfl, rfl, SqL.of ea, ew, k _ F H (.same rw' rfl)⟩ hs
  · obtain ⟨a, vs, rfl, ea, l⟩ := hp.tup
    have := hq.int; subst this
    obtain ⟨w, ew, rw'⟩ := l.at e1
    exact ix_tup value slice pins s σ H _ _ v u Q I rx ry ⟨_, _, _, _, rfl, rfl, SqT.of ea, ew, k _ F H (.same rw' rfl)⟩ hs
  · obtain ⟨kk, e2, e3⟩ := Option.bind_eq_some_iff.mp e1
    obtain ⟨a, r, rfl, d, h1, _⟩ := dget hp hq rfl e2
    obtain ⟨w, rfl, rw'⟩ := h1 z e3
    exact ix_dict hu value slice pins s σ H _ _ v u Q I rx ry ⟨a, w, rfl, d, k _ F H (.same rw' rfl)⟩ hs
  · obtain ⟨kk, e2, e3⟩ := Option.bind_eq_some_iff.mp e1
    obtain ⟨a, r, rfl, d, h1, _⟩ := dgetT hp hq rfl e2
    obtain ⟨w, rfl, rw'⟩ := h1 z e3
    exact ix_dict hu value slice pins s σ H _ _ v u Q I rx ry ⟨a, w, rfl, d, k _ F H (.same rw' rfl)⟩ hs
  · cases e1
theorem RepL.cut {F : Ad} {H : Hp} {xs : List PV} {vs : List V} (l : RepL g F H xs vs) (lo hi : Option Int) : RepL g F H (cutP xs lo hi) (cutV vs lo hi) := by
  unfold cutP cutV
  rw [l.length]
  exact (l.drop _).take _
def rSlc (g : Gw) : V → Option Int → Option Int → Hp → VK → Prop := fun x lo hi H Q => ∃ F p r, Dm F H ∧ Peek g F H p x ∧ slcF p lo hi = some r ∧ Out g F H r Q
theorem slc_ok (hK : X.K = g.K) : SlR X (rSlc g) := by
  intro pins s σ H x v vl vu lo hi sl Q I rx hs pl pu ⟨F, p, r, nf, hp, e, k⟩
  unfold slcF at e
  split at e
  · cases e
    obtain ⟨a, vs, rfl, ea, l⟩ := hp.lst
    exact sl_list pins s σ H _ v vl vu lo hi sl Q I rx hs pl pu ⟨_, _, rfl, SqL.of ea, k.lst nf (l.cut lo hi)⟩
  · cases e
    obtain ⟨a, vs, rfl, ea, l⟩ := hp.tup
    refine sl_tupA pins s σ H _ v vl vu lo hi sl Q I rx hs pl pu ⟨_, _, rfl, SqT.of ea, fun hw => ?_, fun _ => k.tup (l.cut lo hi)⟩
    refine k _ F H (.same ?_ rfl)
    rename_i xs
    have : cutP xs lo hi = xs := by
      unfold cutP
      rw [l.length, hw.1, hw.2]
      simp [← l.length]
    simp only [this]
    exact hp.tupV
  · cases e
def tyName : Ty → String
  | .int => "int" | .bool => "bool" | .str => "str" | .tuple => "tuple" | .list => "list" | .dict => "dict"
def knName : Kn → String
  | .non => "NoneType" | .bool => "bool" | .int => "int" | .str => "str" | .tuple => "tuple" | .list => "list" | .dict => "dict" | .set => "set"
theorem kit_kn (t : Ty) (k : Kn) : kitB (knName k) (tyName t) = some (knIs t k) := by
  cases t <;> cases k <;> decide +kernel
theorem peek_ty {F : Ad} {H : Hp} {p : PV} {x : V} {k : Kn} (h : Peek g F H p x) (e : p.kn = some k) (hk : k ≠ .set) : TyX g.K H x (.type (knName k)) := by
  rcases h with h | ⟨a, rfl, h⟩
  · cases h with
    | non => cases e; exact .base .non
    | bl b => cases e; exact .base (.bl b)
    | int i => cases e; exact .base (.int i)
    | str s => cases e; exact .base (.str s)
    | tup f r l => cases e; exact .base (.tup r)
    | lst f r l => cases e; exact .base (.lst r)
    | scr f r =>
      cases e
      rcases r with r | ⟨o, r⟩
      · exact .base (.lst r)
      · exact .base (.frz r)
    | scrK r => cases e; obtain ⟨o, its, n, h1, h2, _⟩ := r; exact .kList h1 h2
    | rng _ _ => cases e
    | dk f r l => cases e; exact .base (.dK r)
    | dt f r l => cases e; exact .base (.dT r)
    | set _ _ _ => cases e; exact (hk rfl).elim
  · cases h with
    | lst r l => cases e; exact .base (.lst r)
    | dk r l => cases e; exact .base (.dK r)
    | dt r l => cases e; exact .base (.dT r)
    | set _ _ => cases e; exact (hk rfl).elim
/-- isinstance(x, T) -/
theorem isi_ok (hK : X.K = g.K) (t : Ty) : CallR X (.builtin "isinstance") (fun xs H Q => ∃ x, xs = [x, .ty (tyName t)] ∧ r1 g (isiF t) x H Q) := by
  intro pins s σ H xs us Q I rx ⟨x, ex, F, p, r, nf, hp, e, k⟩
  subst ex
  unfold isiF at e
  split at e
  · cases e
  · rename_i kn hne hk
    cases e
    exact call_isi pins s σ H _ us Q I rx ⟨x, _, _, _, _, rfl, .ty _, by rw [hK]; exact peek_ty hp hk hne, kit_ty (kit_kn t kn), k.bl⟩
  · cases e
end
end L2.Pz
set_option Elab.async false
set_option linter.all false
set_option maxRecDepth 100000
set_option maxHeartbeats 4000000
namespace L2.Pz
set_option autoImplicit false
open PySem PySem.Spec PyProof.Rows L2

/-! ## Pz11: the checker of expressions -/
def visB (Γ : Scope) (x : Str) : Bool := match Γ.names.lookup x with
  | some .local | some .cell | some .free => true
  | _ => false
def glB (Γ : Scope) (x : Str) : Bool := (match Γ.names.lookup x with
  | some .globalImplicit => true
  | _ => false) && (!(x == ("__debug__" : Str)) && decide (x ≠ ("__name__" : Str)))
def nmB (N : List Str) (Γ : Scope) (i : Nat) (x : Str) : Bool := decide (N[i]? = some x) && visB Γ x && !(x == ("__debug__" : Str)) && !(x == ("__classdict__" : Str))
def locB (Γ : Scope) (x : Str) : Bool := match Γ.names.lookup x with
  | some .local | some .cell => true
  | _ => false
def nstar : Expr → Bool
  | .Starred _ _ => false
  | _ => true
def conB : PV → Expr → Bool
  | .int i, .Constant (.int j) _ _ => decide (i = j)
  | .bl b, .Constant (.bool c) _ _ => b == c
  | .non, .Constant .none _ _ => true
  | .str s, .Constant (.str t) _ _ => decide (s = t)
  | _, _ => false
def uopIs : Uop → UnaryOp → Bool
  | .neg, .USub | .inv, .Invert => true
  | _, _ => false
def plainIxB : Expr → Bool
  | .Slice _ _ _ _ => false
  | _ => true
/-- the built-in function's name, and whether it is a type -/
def biName : Bi → String
  | .len => "len" | .sum => "sum" | .min => "min" | .max => "max" | .abs => "abs" | .all => "all" | .any => "any" | .sorted => "sorted" | .set => "set" | .tuple => "tuple" | .list => "list" | .dict => "dict"
  | .int => "int" | .str => "str" | .bool => "bool" | .range => "range" | .zip => "zip" | .enumerate => "enumerate" | .reversed => "reversed"
def biTy : Bi → Bool
  | .set | .tuple | .list | .dict | .int | .str | .bool | .range | .zip | .enumerate | .reversed => true
  | _ => false
def biOk : Bi → Bool
  | .len | .sum | .min | .max | .abs | .all | .any | .sorted | .set | .tuple | .list | .dict | .int | .range => true
  | _ => false
def mmName : Mm → String
  | .append => "append" | .pop => "pop" | .update => "update" | .setdefault => "setdefault" | .add => "add"
def mtName : Mt → String
  | .get => "get" | .items => "items" | .values => "values" | .index => "index" | .count => "count" | .join => "join" | .split => "split" | .find => "find" | .keys => "keys"
def mtOk : Mt → Bool
  | .get => true
  | _ => false
def mmOk : Mm → Nat → Bool
  | .append, 1 => true
  | .pop, 0 => true
  | .pop, 1 => true
  | _, _ => false
def plainO : Expr → Bool
  | .Call (.Name _ _) [] [] _ => false
  | _ => true
def isTupE : Expr → Bool
  | .Tuple _ _ _ => true
  | _ => false
def notSetE : Expr → Bool
  | .Set _ _ _ => false
  | _ => true
def itB (c : E) (tg it : Expr) : Bool := (match c with
  | .zip _ _ | .enum _ => isTupE tg
  | .ite _ _ _ | .and _ _ | .or _ _ => false
  | _ => true) && notSetE it
section
variable (N : List Str) (nf : Nf)
/-- a target -/
def tgB (Γ : Scope) : Tg → Expr → Bool
  | .one i, .Name x _ => decide (N[i]? = some x) && locB Γ x
  | .many is, .Tuple es _ _ => tgsB Γ is es
  | _, _ => false
where tgsB (Γ : Scope) : List Nat → List Expr → Bool
  | [], [] => true
  | i :: is, .Name x _ :: es => decide (N[i]? = some x) && locB Γ x && tgsB Γ is es
  | _, _ => false
def ownN (is : List Nat) : List (Str × Nat) := is.map fun i => (N.getD i (Str.ofString ""), i)
mutual
def chkE (Γ : Scope) : E → Expr → Bool
  | .con c, e => conB c e
  | .glo x c, .Name y _ => decide (x = y) && glB Γ x && nf.cst.any fun q => decide (q.1 = x) && (match q.2, c with
    | .int i, .int j => decide (i = j)
    | .str i, .str j => decide (i = j)
    | _, _ => false)
  | .var i, .Name x _ => nmB N Γ i x
  | .bin o a b, .BinOp a' o' b' _ => bopIs o o' && chkE Γ a a' && chkE Γ b b'
  | .un o a, .UnaryOp o' a' _ => uopIs o o' && chkE Γ a a'
  | .cmp o a b, .Compare a' [o'] [b'] _ => copIs o o' && chkE Γ a a' && chkE Γ b b' && !behindInMarks o' b'
  | .cmp2 o p a b c, .Compare a' [o', p'] [b', c'] _ => copIs o o' && copIs p p' && chkE Γ a a' && chkE Γ b b' && chkE Γ c c' && !lastMarks [o', p'] [b', c']
  | .and a b, .BoolOp .And (x :: y :: r) pos => chkE Γ a x && (match r with
    | [] => chkE Γ b y
    | _ :: _ => chkE Γ b (.BoolOp .And (y :: r) pos))
  | .or a b, .BoolOp .Or (x :: y :: r) pos => chkE Γ a x && (match r with
    | [] => chkE Γ b y
    | _ :: _ => chkE Γ b (.BoolOp .Or (y :: r) pos))
  | .not a, .UnaryOp .Not a' _ => chkE Γ a a'
  | .ite c a b, .IfExp c' a' b' _ => chkE Γ c c' && chkE Γ a a' && chkE Γ b b'
  | .tup es, .Tuple es' _ _ => chkEs Γ es es'
  | .lst es, .List es' _ => chkEs Γ es es'
  | .dnk, .Dict [] [] _ => true
  | .dnt, .Dict [] [] _ => true
  | .idx a i, .Subscript a' i' _ => chkE Γ a a' && chkE Γ i i' && plainIxB i'
  | .slc a lo hi, .Subscript a' (.Slice lo' hi' none _) _ => chkE Γ a a' && chkO Γ lo lo' && chkO Γ hi hi'
  | .rev a, .Subscript a' (.Slice none none (some (.UnaryOp .USub (.Constant (.int 1) _ _) _)) _) _ => chkE Γ a a'
  | .isi t a, .Call (.Name f _) [a', .Name ty _] [] _ => decide (f = Str.ofString "isinstance") && glB Γ f && decide (f ∈ nf.free) && chkE Γ a a' && nstar a' && decide (ty = Str.ofString (tyName t)) && glB Γ ty && decide (ty ∈ nf.free)
  | .call f es, .Call (.Name x _) es' [] _ => decide (nf.fn[f]? = some x) && glB Γ x && chkEs Γ es es'
  | .bi b es, .Call (.Name x _) (e' :: es') [] _ => biOk b && decide (x = Str.ofString (biName b)) && glB Γ x && decide (x ∈ nf.free) && chkEs Γ es (e' :: es')
  | .met m o es, .Call (.Attribute o' x ap) (e' :: es') [] cp => mtOk m && decide (x = Str.ofString (mtName m)) && chkE Γ o o' && plainO o' && chkEs Γ es (e' :: es') && (ap.endLine == cp.line) && decide (es'.length < 2)
  | .mm m i es, .Call (.Attribute (.Name y yp) x ap) es' [] cp => mmOk m es'.length && decide (x = Str.ofString (mmName m)) && nmB N Γ i y && chkEs Γ es es' && (ap.endLine == cp.line)
  | .zip a b, .Call (.Name x _) [a', b'] [] _ => decide (x = Str.ofString "zip") && glB Γ x && decide (x ∈ nf.free) && chkE Γ a a' && nstar a' && chkE Γ b b' && nstar b'
  | .enum a, .Call (.Name x _) [a'] [] _ => decide (x = Str.ofString "enumerate") && glB Γ x && decide (x ∈ nf.free) && chkE Γ a a' && nstar a'
  | .rngI es, .Call (.Name x _) es' [] _ => decide (x = Str.ofString "range") && glB Γ x && decide (x ∈ nf.free) && chkEs Γ es es'
  | .lc tg it ifs elt, .ListComp elt' [⟨tg', it', ifs', k⟩] scope _ => decide (k = 0) && chkE Γ it it' && itB it tg' it' && tgB N scope tg tg' && blkC N Γ scope (ownN N tg.slots) && chkIf (relS scope Γ) ifs ifs' && chkE (relS scope Γ) elt elt'
  | .lc2 tg it ifs tg1 it1 ifs1 elt, .ListComp elt' [⟨tg', it', ifs', k⟩, ⟨tg1', it1', ifs1', k1⟩] scope _ => decide (k = 0) && decide (k1 = 0) && chkE Γ it it' && itB it tg' it' && tgB N scope tg tg' && blkC N Γ scope (ownN N (tg.slots ++ tg1.slots)) && chkIf (relS scope Γ) ifs ifs' &&
      chkE (relS scope Γ) it1 it1' && itB it1 tg1' it1' && tgB N scope tg1 tg1' && chkIf (relS scope Γ) ifs1 ifs1' && chkE (relS scope Γ) elt elt'
  | _, _ => false
def chkEs (Γ : Scope) : List E → List Expr → Bool
  | [], [] => true
  | c :: cs, e :: es => chkE Γ c e && nstar e && chkEs Γ cs es
  | _, _ => false
def chkIf (Γ : Scope) : List E → List Expr → Bool
  | [], [] => true
  | [c], [e] => chkE Γ c e
  | _, _ => false
def chkO (Γ : Scope) : List E → Option Expr → Bool
  | [], none => true
  | [c], some e => chkE Γ c e
  | _, _ => false
end
end
theorem star_cons {e : Expr} (h : nstar e = true) (es : List Expr) (env : Env) : starEach (e :: es) env = (false, eval e env) :: starEach es env := by
  cases e <;> first | rfl | cases h
def plainT : Expr → Bool
  | .UnaryOp .Not _ _ => false
  | .BoolOp _ _ _ => false
  | .IfExp _ _ _ _ => false
  | .Compare _ _ _ _ => false
  | _ => true
theorem plainT_ok {e : Expr} (h : plainT e = true) (env : Env) : ∀ whole, isTrue e env whole = (do let v ← whole; standAt e.pos; holding [v] (truthy v)) := by
  intro whole
  cases e with
  | UnaryOp op a p => cases op <;> first | rfl | cases h
  | BoolOp _ _ _ => cases h
  | IfExp _ _ _ _ => cases h
  | Compare _ _ _ _ => cases h
  | _ => rfl
theorem plainIx_ok {e : Expr} (h : plainIxB e = true) : PlainIx e := by
  intro o i
  cases e <;> first | rfl | cases h
section
variable {g : Gw} {M : Nat → List Md} {C : Cl} {d : Nat} {N : List Str} {nf : Nf} {X : Cx}
structure Snd (g : Gw) (M : Nat → List Md) (C : Cl) (X : Cx) (c : E) (e : Expr) : Prop where
  pe : PE X e (tEv g M C c)
  pt : PT X e (tTs g M C c)
  pw : ∀ op l p, e = .BoolOp op l p → PW X e (tTs g M C c)
theorem pt_of {c : E} {e : Expr} (h : PE X e (tEv g M C c)) (he : plainT e = true) : PT X e (tTs g M C c) :=
  ptI (pt_val h (plainT_ok he _)) fun σ H Q ⟨F, env, o, env', k, R, e, dk, fin⟩ => ⟨F, env, o, env', R, e, ok_d dk, fun v F' H' x R' h => ⟨k, (h.peek R' dk).bl, fin F' H' x R'⟩⟩
theorem snd_of {c : E} {e : Expr} (h : PE X e (tEv g M C c)) (he : plainT e = true) : Snd g M C X c e := ⟨h, pt_of h he, fun op l p z => by subst z; cases he⟩
theorem CxOk.line (ok : CxOk g M C d N nf X) : X.A.units + 65 < cLine := by have := ok.room.un; omega
theorem visB_ok {Γ : Scope} {x : Str} (h : visB Γ x = true) : Γ.names.lookup x = some .local ∨ Γ.names.lookup x = some .cell ∨ Γ.names.lookup x = some .free := by
  unfold visB at h
  split at h <;> first | (rename_i e; simp [e]; done) | cases h
theorem glB_ok {Γ : Scope} {x : Str} (h : glB Γ x = true) : Γ.names.lookup x = some .globalImplicit ∧ (x == ("__debug__" : Str)) = false ∧ x ≠ ("__name__" : Str) := by
  unfold glB at h
  simp only [Bool.and_eq_true, Bool.not_eq_true', decide_eq_true_eq] at h
  refine ⟨?_, h.2.1, h.2.2⟩
  have h1 := h.1
  split at h1
  · assumption
  · cases h1
theorem nmB_ok {Γ : Scope} {i : Nat} {x : Str} (h : nmB N Γ i x = true) : N[i]? = some x ∧ (Γ.names.lookup x = some .local ∨ Γ.names.lookup x = some .cell ∨ Γ.names.lookup x = some .free) ∧ (x == ("__debug__" : Str)) = false ∧ (x == ("__classdict__" : Str)) = false := by
  unfold nmB at h
  simp only [Bool.and_eq_true, Bool.not_eq_true', decide_eq_true_eq] at h
  exact ⟨h.1.1.1, visB_ok h.1.1.2, h.1.2, h.2⟩
theorem con_ok {c : PV} {e : Expr} (h : conB c e = true) : PE X e (tEv g M C (.con c)) ∧ plainT e = true := by
  unfold conB at h
  split at h
  · have := of_decide_eq_true h; subst this
    refine ⟨peI pe_int fun σ H Q ⟨F, env, o, env', R, e, hk, fin⟩ => ?_, rfl⟩
    simp only [ev] at e; cases e
    exact fin.val .refl R (.int _)
  · have := eq_of_beq h; subst this
    refine ⟨peI pe_bl fun σ H Q ⟨F, env, o, env', R, e, hk, fin⟩ => ?_, rfl⟩
    simp only [ev] at e; cases e
    exact fin.val .refl R (.bl _)
  · refine ⟨peI pe_non fun σ H Q ⟨F, env, o, env', R, e, hk, fin⟩ => ?_, rfl⟩
    simp only [ev] at e; cases e
    exact fin.val .refl R .non
  · have := of_decide_eq_true h; subst this
    refine ⟨peI pe_str fun σ H Q ⟨F, env, o, env', R, e, hk, fin⟩ => ?_, rfl⟩
    simp only [ev] at e; cases e
    exact fin.val .refl R (.str _)
  · cases h
theorem var_ok (ok : CxOk g M C d N nf X) {i : Nat} {x : Str} {p : Pos} (h : nmB N X.env.scope i x = true) : PE X (.Name x p) (tEv g M C (.var i)) := by
  obtain ⟨h1, h2, h3, h4⟩ := nmB_ok h
  refine peI (pe_var (i := i) (by rw [ok.hN]; exact h1) h2 h3 h4) fun σ H Q ⟨F, env, o, env', R, e, hk, fin⟩ => ?_
  simp only [ev] at e
  split at e
  · rename_i s es
    cases e
    obtain ⟨v, ev, _⟩ := R.slot i s es
    exact ⟨v, ev, fin v F H .refl R ⟨ev, s, es⟩⟩
  · cases e
theorem bin_snd (ok : CxOk g M C d N nf X) {o : Bop} {a b : E} {a' b' : Expr} {o' : Operator} {p : Pos} (ho : bopIs o o' = true) (ha : PE X a' (tEv g M C a)) (hb : PE X b' (tEv g M C b)) : PE X (.BinOp a' o' b' p) (tEv g M C (.bin o a b)) := by
  refine peI (pe_op (bin_ok ok.hK ho) ha hb) fun σ H Q ⟨F, env, o, env', R, e, hk, fin⟩ => ?_
  simp only [ev] at e
  repeat' (split at e)
  all_goals first | (cases e; done) | skip
  rename_i h1 _ _ _ h2 _ _ _ _ h3 h4 _ _ _ h5
  cases e
  exact two_op R h1 h2 h3 h4 h5 fin
theorem un_ok {u : Uop} {o : UnaryOp} (h : uopIs u o = true) : UnR X (unaryOp o) (r1 g fun p => (unF u p).map fun r => (r, false)) := by
  intro pins s σ H x v Q I rx ⟨F, p, r, nf, hp, e, k⟩
  obtain ⟨z, e1, rfl⟩ := Option.map_eq_some_iff.mp e
  unfold unF at e1
  cases u <;> cases o <;> first | (cases h; done) | skip
  · split at e1
    · cases e1; have := hp.int; subst this; exact un_neg pins s σ H _ v Q I rx ⟨_, rfl, k.int⟩
    · rename_i h2; cases h2
    · cases e1
  · split at e1
    · rename_i h2; cases h2
    · cases e1; have := hp.int; subst this; exact un_inv pins s σ H _ v Q I rx ⟨_, rfl, k.int⟩
    · cases e1
theorem finB {σ : St} {F : Ad} {H : Hp} {env env' : En} {r : Bool} {Q : Bool → Hp → Prop} (h : FinT g σ F H env env' (Q r)) : Fin g σ F H env (.vl (.bl r) false) env' (fun x H' => ∃ k, x = .bl k ∧ Q k H') := fun v F' H' x R' hv =>
  ⟨r, (show Peek g F' H' (.bl r) v from .inl hv).bl, h F' H' x R'⟩
theorem pes_ok {Γ : Scope} : ∀ {cs : List E} {es : List Expr}, chkEs N nf Γ cs es = true → (∀ c ∈ cs, ∀ e, chkE N nf Γ c e = true → Snd g M C X c e) → PA X es (tEs g M C cs)
  | [], [], _, _ => paI pa_nil fun _ _ _ h => tEs_nil h
  | [], _ :: _, h, _ => by simp [chkEs] at h
  | _ :: _, [], h, _ => by simp [chkEs] at h
  | c :: cs, e :: es, h, f => by
    simp only [chkEs, Bool.and_eq_true] at h
    exact paI (pa_cons (f c (List.mem_cons_self ..) e h.1.1).pe (pes_ok h.2 fun c hc => f c (List.mem_cons_of_mem _ hc)) (star_cons h.1.2 _ _)) fun _ _ _ h => tEs_cons h
theorem chk_star {Γ : Scope} {p : Pos} {env : Env} : ∀ {cs : List E} {es : List Expr}, chkEs N nf Γ cs es = true → (backTo p (starEach es env)).any (·.1) = false
  | [], [], _ => rfl
  | [], _ :: _, h => by simp [chkEs] at h
  | _ :: _, [], h => by simp [chkEs] at h
  | c :: cs, e :: es, h => by
    simp only [chkEs, Bool.and_eq_true] at h
    rw [star_cons h.1.2]
    have ih := chk_star (p := p) (env := env) h.2
    unfold backTo at ih ⊢
    rw [List.map_cons, List.any_cons, ih]
    rfl
theorem pt_ifExp {c a b : Expr} {tc ta tb : TT} {p : Pos} (hc : PT X c tc) (ha : PT X a ta) (hb : PT X b tb) : PT X (.IfExp c a b p) (fun σ H Q => tc σ H fun k H1 => if k = true then ta σ H1 Q else tb σ H1 Q) := by
  refine ⟨fun pins s σ H Q I h => ?_⟩
  show wpAny _ _ (isTrue c X.env (eval c X.env) >>= _) _ _ s
  refine wpAny_bind (thn (hc.run pins s σ H _ I h) fun k s1 ⟨H1, I1, q1⟩ => ?_)
  cases k with
  | true => exact ha.run pins s1 σ H1 Q I1 q1
  | false => exact hb.run pins s1 σ H1 Q I1 q1
end
end L2.Pz
set_option Elab.async false
set_option linter.all false
set_option maxRecDepth 100000
set_option maxHeartbeats 4000000
namespace L2.Pz
set_option autoImplicit false
open PySem PySem.Spec PyProof.Rows L2

/-! ## Pz12: checked expressions do what ev says -/
section
variable {g : Gw} {M : Nat → List Md} {C : Cl} {d : Nat} {N : List Str} {nf : Nf} {X : Cx}
theorem mb_some {f : PV → PV → Option Bool} {p q : PV} {k : Bool} (h : f p q = some k) : (f p q).map (fun b => (PV.bl b, false)) = some ((.bl k, false) : Rv) := by rw [h]; rfl
theorem cmp_snd (ok : CxOk g M C d N nf X) {o : Cop} {a b : E} {a' b' : Expr} {o' : CmpOp} {p : Pos} (ho : copIs o o' = true) (hm : behindInMarks o' b' = false) (ha : PE X a' (tEv g M C a)) (hb : PE X b' (tEv g M C b)) : Snd g M C X (.cmp o a b) (.Compare a' [o'] [b'] p) := by
  have hop := cmp_ok (g := g) ok.hK ok.hw ok.line ho
  refine ⟨peI (pe_cmpR hop ha hb hm) fun σ H Q ⟨F, env, o, env', R, e, hk, fin⟩ => ?_, ptI (pt_cmpR hop ha hb hm) fun σ H Q ⟨F, env, o, env', k, R, e, dk, fin⟩ => ?_, fun op l p z => by cases z⟩
  · simp only [ev] at e
    repeat' (split at e)
    all_goals first | (cases e; done) | skip
    rename_i h1 _ _ _ h2 _ _ _ _ h3 h4 _ _ h5
    cases e
    exact two_op R h1 h2 h3 h4 (by rw [h5]; rfl) fin
  · simp only [ev] at e
    repeat' (split at e)
    all_goals first | (cases e; done) | skip
    rename_i h1 _ _ _ h2 _ _ _ _ h3 h4 _ _ h5
    cases e
    cases dk
    exact two_op R h1 h2 h3 h4 (by rw [h5]; rfl) (finB fin)
/-- what a chain of two comparisons comes to -/
theorem chain_rd {o p : Cop} {a b c : E} {σ : St} {H : Hp} {Q : VK} {F : Ad} {env env' : En} {x : Opd} (R : Rep g F H σ env) (e : ev M C (.cmp2 o p a b c) env = some (x, env')) (fin : Fin g σ F H env x env' Q) :
    tChain (rB g (cmpF o)) (rB g (cmpF p)) (tEv g M C a) (tEv g M C b) (tEv g M C c) σ H Q := by
  simp only [ev] at e
  split at e
  · rename_i x1 env1 h1
    split at e
    · rename_i y env2 h2
      split at e
      · rename_i u v h3 h4
        split at e
        · rename_i h5
          split at e
          · rename_i z env3 h6
            split at e
            · rename_i v' w h7 h8
              split at e
              · rename_i k h9
                cases e
                refine two_ev R h1 h2 (ok_d h3) (ok_d h4) fun a1 b1 F1 H1 x1 R1 ha hb => ⟨F1, u, v, _, R1.dom, ha.peek R1 h3, hb.peek R1 h4, mb_some h5, fun z1 F2 H2 al => ?_⟩
                cases al.val rfl
                refine ⟨true, rfl, ?_⟩
                rw [if_pos rfl]
                have R2 := al.rep R1
                have hb2 := hb.ext R1 (al.ext _) .refl fun _ z => z
                refine ⟨F2, _, _, _, R2, h6, ok_d h8, fun c1 F3 H3 x3 R3 hc => ⟨F3, v', w, _, R3.dom, (hb2.ext R2 x3 (ev_rel c h6) fun _ z => z).peek R3 h7, hc.peek R3 h8, mb_some h9, ?_⟩⟩
                exact fin.out ((x1.tr (al.ext _)).tr x3) R3
              · cases e
            · cases e
          · cases e
        · rename_i h5
          cases e
          refine two_ev R h1 h2 (ok_d h3) (ok_d h4) fun a1 b1 F1 H1 x1 R1 ha hb => ⟨F1, u, v, _, R1.dom, ha.peek R1 h3, hb.peek R1 h4, mb_some h5, fun z1 F2 H2 al => ?_⟩
          cases al.val rfl
          refine ⟨false, rfl, ?_⟩
          rw [if_neg Bool.false_ne_true]
          exact fin.val (x1.tr (al.ext _)) (al.rep R1) (.bl _)
        · cases e
      · cases e
    · cases e
  · cases e
theorem cmp2_bl {o p : Cop} {a b c : E} {env env' : En} {x : Opd} (e : ev M C (.cmp2 o p a b c) env = some (x, env')) : ∃ k, x = .vl (.bl k) false := by
  simp only [ev] at e
  repeat' (split at e)
  all_goals first | (cases e; done) | (cases e; exact ⟨_, rfl⟩)
theorem cmp2_snd (ok : CxOk g M C d N nf X) {o p : Cop} {a b c : E} {a' b' c' : Expr} {o' p' : CmpOp} {q : Pos} (ho : copIs o o' = true) (hp : copIs p p' = true) (hm : lastMarks [o', p'] [b', c'] = false) (ha : PE X a' (tEv g M C a)) (hb : PE X b' (tEv g M C b)) (hc : PE X c' (tEv g M C c)) :
    Snd g M C X (.cmp2 o p a b c) (.Compare a' [o', p'] [b', c'] q) := by
  have h1 := cmp_ok (g := g) ok.hK ok.hw ok.line ho
  have h2 := cmp_ok (g := g) ok.hK ok.hw ok.line hp
  refine ⟨peI (pe_chain h1 h2 ha hb hc hm) fun σ H Q ⟨F, env, o, env', R, e, hk, fin⟩ => chain_rd R e fin, ptI (pt_chain h1 h2 ha hb hc hm) fun σ H Q ⟨F, env, o, env', k, R, e, dk, fin⟩ => ?_, fun op l p z => by cases z⟩
  obtain ⟨k', rfl⟩ := cmp2_bl e
  cases dk
  exact chain_rd R e (finB fin)
/-- a bool ahead -/
theorem bl_ahead {a : E} {σ : St} {H : Hp} {F : Ad} {env env1 : En} {x : Opd} {k : Bool} {K : Bool → Hp → Prop} (R : Rep g F H σ env) (e : ev M C a env = some (x, env1)) (dx : deref env1 x = some (.bl k)) (h : ∀ F1 H1, Ext F H (Own σ env) F1 H1 (Own σ env1) → Rep g F1 H1 σ env1 → K k H1) :
    tEv g M C a σ H fun v H1 => ∃ c, v = .bl c ∧ K c H1 := ⟨F, env, x, env1, R, e, ok_d dx, fun v F1 H1 x1 R1 hv => ⟨k, (hv.peek R1 dx).bl, h F1 H1 x1 R1⟩⟩
theorem bl_aheadT {a : E} {σ : St} {H : Hp} {F : Ad} {env env1 : En} {x : Opd} {k : Bool} {K : Bool → Hp → Prop} (R : Rep g F H σ env) (e : ev M C a env = some (x, env1)) (dx : deref env1 x = some (.bl k)) (h : ∀ F1 H1, Ext F H (Own σ env) F1 H1 (Own σ env1) → Rep g F1 H1 σ env1 → K k H1) :
    tTs g M C a σ H K := ⟨F, env, x, env1, k, R, e, dx, fun F1 H1 x1 R1 => h F1 H1 x1 R1⟩
theorem and_snd {a b : E} {x y : Expr} {r : List Expr} {p : Pos} (ha : Snd g M C X a x) (hb : PE X (.BoolOp .And (y :: r) p) (tEv g M C b)) (hw : PW X (.BoolOp .And (y :: r) p) (tTs g M C b)) : Snd g M C X (.and a b) (.BoolOp .And (x :: y :: r) p) := by
  have pw : PW X (.BoolOp .And (x :: y :: r) p) (tTs g M C (.and a b)) := pwI (pw_and ha.pt hw) fun σ H Q ⟨F, env, o, env', k, R, e, dk, fin⟩ => by
    simp only [ev] at e
    split at e
    · rename_i x1 env1 h1
      split at e
      · rename_i h2
        exact bl_aheadT R h1 h2 fun F1 H1 x1 R1 => by
          rw [if_pos rfl]
          exact ⟨F1, _, _, _, k, R1, e, dk, fin.pre x1⟩
      · rename_i h2
        cases e; cases dk
        exact bl_aheadT R h1 h2 fun F1 H1 x1 R1 => by
          rw [if_neg Bool.false_ne_true]
          exact fin F1 H1 x1 R1
      · cases e
    · cases e
  refine ⟨peI (pe_and ha.pe hb) fun σ H Q ⟨F, env, o, env', R, e, hk, fin⟩ => ?_, pw.pt, fun op l p z => by cases z; exact pw⟩
  simp only [ev] at e
  split at e
  · rename_i x1 env1 h1
    split at e
    · rename_i h2
      exact bl_ahead R h1 h2 (K := fun c H1 => if c = true then tEv g M C b σ H1 Q else Q (.bl false) H1) fun F1 H1 x1 R1 => by
        rw [if_pos rfl]
        exact ⟨F1, _, _, _, R1, e, hk, fin.pre x1⟩
    · rename_i h2
      cases e
      exact bl_ahead R h1 h2 (K := fun c H1 => if c = true then tEv g M C b σ H1 Q else Q (.bl false) H1) fun F1 H1 x1 R1 => by
        rw [if_neg Bool.false_ne_true]
        exact fin.val x1 R1 (.bl _)
    · cases e
  · cases e
theorem or_snd {a b : E} {x y : Expr} {r : List Expr} {p : Pos} (ha : Snd g M C X a x) (hb : PE X (.BoolOp .Or (y :: r) p) (tEv g M C b)) (hw : PW X (.BoolOp .Or (y :: r) p) (tTs g M C b)) : Snd g M C X (.or a b) (.BoolOp .Or (x :: y :: r) p) := by
  have pw : PW X (.BoolOp .Or (x :: y :: r) p) (tTs g M C (.or a b)) := pwI (pw_or ha.pt hw) fun σ H Q ⟨F, env, o, env', k, R, e, dk, fin⟩ => by
    simp only [ev] at e
    split at e
    · rename_i x1 env1 h1
      split at e
      · rename_i h2
        cases e; cases dk
        exact bl_aheadT R h1 h2 fun F1 H1 x1 R1 => by
          rw [if_pos rfl]
          exact fin F1 H1 x1 R1
      · rename_i h2
        exact bl_aheadT R h1 h2 fun F1 H1 x1 R1 => by
          rw [if_neg Bool.false_ne_true]
          exact ⟨F1, _, _, _, k, R1, e, dk, fin.pre x1⟩
      · cases e
    · cases e
  refine ⟨peI (pe_or ha.pe hb) fun σ H Q ⟨F, env, o, env', R, e, hk, fin⟩ => ?_, pw.pt, fun op l p z => by cases z; exact pw⟩
  simp only [ev] at e
  split at e
  · rename_i x1 env1 h1
    split at e
    · rename_i h2
      cases e
      exact bl_ahead R h1 h2 (K := fun c H1 => if c = true then Q (.bl true) H1 else tEv g M C b σ H1 Q) fun F1 H1 x1 R1 => by
        rw [if_pos rfl]
        exact fin.val x1 R1 (.bl _)
    · rename_i h2
      exact bl_ahead R h1 h2 (K := fun c H1 => if c = true then Q (.bl true) H1 else tEv g M C b σ H1 Q) fun F1 H1 x1 R1 => by
        rw [if_neg Bool.false_ne_true]
        exact ⟨F1, _, _, _, R1, e, hk, fin.pre x1⟩
    · cases e
  · cases e
theorem not_snd {a : E} {x : Expr} {p : Pos} (ha : Snd g M C X a x) : Snd g M C X (.not a) (.UnaryOp .Not x p) := by
  refine ⟨peI (pe_not ha.pe) fun σ H Q ⟨F, env, o, env', R, e, hk, fin⟩ => ?_, ptI (pt_not ha.pt) fun σ H Q ⟨F, env, o, env', k, R, e, dk, fin⟩ => ?_, fun op l p z => by cases z⟩
  · simp only [ev] at e
    split at e
    · rename_i x1 env1 h1
      split at e
      · rename_i k h2
        cases e
        exact bl_ahead R h1 h2 (K := fun c H1 => Q (.bl (!c)) H1) fun F1 H1 x1 R1 => fin.val x1 R1 (.bl _)
      · cases e
    · cases e
  · simp only [ev] at e
    split at e
    · rename_i x1 env1 h1
      split at e
      · rename_i k h2
        cases e; cases dk
        exact bl_aheadT R h1 h2 fun F1 H1 x1 R1 => fin F1 H1 x1 R1
      · cases e
    · cases e
theorem ite_snd {c a b : E} {c' a' b' : Expr} {p : Pos} (hc : Snd g M C X c c') (ha : Snd g M C X a a') (hb : Snd g M C X b b') : Snd g M C X (.ite c a b) (.IfExp c' a' b' p) := by
  refine ⟨peI (pe_ifExp hc.pt ha.pe hb.pe) fun σ H Q ⟨F, env, o, env', R, e, hk, fin⟩ => ?_, ptI (pt_ifExp hc.pt ha.pt hb.pt) fun σ H Q ⟨F, env, o, env', k, R, e, dk, fin⟩ => ?_, fun op l p z => by cases z⟩
  · simp only [ev] at e
    split at e
    · rename_i x1 env1 h1
      split at e
      · rename_i h2
        exact bl_aheadT R h1 h2 fun F1 H1 x1 R1 => by
          rw [if_pos rfl]
          exact ⟨F1, _, _, _, R1, e, hk, fin.pre x1⟩
      · rename_i h2
        exact bl_aheadT R h1 h2 fun F1 H1 x1 R1 => by
          rw [if_neg Bool.false_ne_true]
          exact ⟨F1, _, _, _, R1, e, hk, fin.pre x1⟩
      · cases e
    · cases e
  · simp only [ev] at e
    split at e
    · rename_i x1 env1 h1
      split at e
      · rename_i h2
        exact bl_aheadT R h1 h2 fun F1 H1 x1 R1 => by
          rw [if_pos rfl]
          exact ⟨F1, _, _, _, k, R1, e, dk, fin.pre x1⟩
      · rename_i h2
        exact bl_aheadT R h1 h2 fun F1 H1 x1 R1 => by
          rw [if_neg Bool.false_ne_true]
          exact ⟨F1, _, _, _, k, R1, e, dk, fin.pre x1⟩
      · cases e
    · cases e
theorem tup_ok {es : List E} {es' : List Expr} {n : Nat} {p : Pos} (h : PA X es' (tEs g M C es)) : PE X (.Tuple es' n p) (tEv g M C (.tup es)) := peI (pe_tup h) fun σ H Q ⟨F, env, o, env', R, e, hk, fin⟩ => by
  simp only [ev] at e
  split at e
  · rename_i os env1 h1
    split at e
    · rename_i ps env2 h2
      split at e
      · rename_i hz
        cases e
        refine ⟨F, env, os, env1, R, h1, ok_cs h2, fun vs F1 H1 x1 R1 hl => ?_⟩
        obtain ⟨F2, m2, x2, R2, _, l⟩ := consumes_ok R1 x1 hl h2
        exact ⟨by rw [← l.length]; exact hz, (fin.out x2 R2).tup l⟩
      · cases e
    · cases e
  · cases e
theorem lst_ok {es : List E} {es' : List Expr} {p : Pos} (h : PA X es' (tEs g M C es)) : PE X (.List es' p) (tEv g M C (.lst es)) := peI (pe_lst h) fun σ H Q ⟨F, env, o, env', R, e, hk, fin⟩ => by
  simp only [ev] at e
  split at e
  · rename_i os env1 h1
    split at e
    · rename_i ps env2 h2
      split at e
      · rename_i hz
        cases e
        refine ⟨F, env, os, env1, R, h1, ok_cs h2, fun vs F1 H1 x1 R1 hl => ?_⟩
        obtain ⟨F2, m2, x2, R2, _, l⟩ := consumes_ok R1 x1 hl h2
        exact ⟨by rw [← l.length]; exact hz, (fin.out x2 R2).lst R2.dom l⟩
      · cases e
    · cases e
  · cases e
theorem dnk_ok {p : Pos} : PE X (.Dict [] [] p) (tEv g M C .dnk) := peI pe_dnewK fun σ H Q ⟨F, env, o, env', R, e, hk, fin⟩ => by
  simp only [ev] at e; cases e
  exact fun q hq => fin.out .refl R _ _ _ (.new hq R.dom (.dk upd_same .nil))
theorem dnt_ok {p : Pos} : PE X (.Dict [] [] p) (tEv g M C .dnt) := peI pe_dnewT fun σ H Q ⟨F, env, o, env', R, e, hk, fin⟩ => by
  simp only [ev] at e; cases e
  exact fun q hq => fin.out .refl R _ _ _ (.new hq R.dom (.dt upd_same .nil))
theorem idx_snd (ok : CxOk g M C d N nf X) {a i : E} {a' i' : Expr} {p : Pos} (ha : PE X a' (tEv g M C a)) (hi : PE X i' (tEv g M C i)) (hp : plainIxB i' = true) : PE X (.Subscript a' i' p) (tEv g M C (.idx a i)) :=
  peI (pe_ix (idx_ok ok.hK (by have := ok.line; omega)) ha hi (plainIx_ok hp)) fun σ H Q ⟨F, env, o, env', R, e, hk, fin⟩ => by
    simp only [ev] at e
    repeat' (split at e)
    all_goals first | (cases e; done) | skip
    rename_i h1 _ _ _ h2 _ _ _ _ h3 h4 _ _ h5
    cases e
    exact two_op R h1 h2 h3 h4 (by unfold ixF1; rw [h5]; rfl) fin
theorem un_snd {u : Uop} {a : E} {a' : Expr} {o : UnaryOp} {p : Pos} (ho : uopIs u o = true) (ha : PE X a' (tEv g M C a)) : PE X (.UnaryOp o a' p) (tEv g M C (.un u a)) := peI (pe_un (un_ok ho) ha) fun σ H Q ⟨F, env, o, env', R, e, hk, fin⟩ => by
  simp only [ev] at e
  repeat' (split at e)
  all_goals first | (cases e; done) | skip
  rename_i h1 _ _ h2 _ _ h3
  cases e
  exact one_op R h1 h2 (by show Option.map _ _ = _; rw [h3]; rfl) fin
def tO (g : Gw) (M : Nat → List Md) (C : Cl) : List E → TO
  | [] => tNoPart
  | c :: _ => tPart (tEv g M C c)
theorem tO_run {lo : List E} {σ : St} {H : Hp} {F : Ad} {env env1 : En} {l : List Opd} {i : Option Int} {K : Option Int → Hp → Prop} (hl : lo.length ≤ 1) (R : Rep g F H σ env) (e : evs M C lo env = some (l, env1)) (ei : ((derefs env1 l).bind asInts).bind asOpt = some i)
    (h : ∀ F1 H1, Ext F H (Own σ env) F1 H1 (Own σ env1) → Rep g F1 H1 σ env1 → K i H1) : tO g M C lo σ H K := by
  cases lo with
  | nil =>
    simp only [evs] at e
    cases e
    cases ei
    exact h F H .refl R
  | cons c cs =>
    cases cs with
    | cons _ _ => simp at hl
    | nil =>
      simp only [evs] at e
      split at e
      · rename_i o env2 h1
        cases e
        cases q : deref env1 o with
        | none => simp only [derefs, q] at ei; cases ei
        | some p =>
          refine ⟨F, env, o, _, R, h1, ok_d q, fun v F1 H1 x1 R1 hv => ?_⟩
          simp only [derefs, q] at ei
          cases p with
          | int j =>
            cases ei
            exact ⟨j, (hv.peek R1 q).int, h F1 H1 x1 R1⟩
          | _ => cases ei
      · cases e
theorem slc_snd (ok : CxOk g M C d N nf X) {a : E} {lo hi : List E} {a' : Expr} {lo' hi' : Option Expr} {p q : Pos} (ha : PE X a' (tEv g M C a)) (l1 : lo.length ≤ 1) (l2 : hi.length ≤ 1) (hlo : PO X lo' (tO g M C lo)) (hhi : PO X hi' (tO g M C hi)) :
    PE X (.Subscript a' (.Slice lo' hi' none q) p) (tEv g M C (.slc a lo hi)) := peI (pe_slice (slc_ok ok.hK) ha hlo hhi) fun σ H Q ⟨F, env, o, env', R, e, hk, fin⟩ => by
  simp only [ev] at e
  split at e
  · rename_i x env1 h1
    split at e
    · rename_i l env2 h2
      split at e
      · rename_i lo1 h3
        split at e
        · rename_i hh env3 h4
          split at e
          · rename_i hi1 h5
            split at e
            · rename_i pv h6
              split at e
              · rename_i r f h7
                cases e
                refine ⟨F, env, x, env1, R, h1, ok_d h6, fun v F1 H1 x1 R1 hv => tO_run l1 R1 h2 h3 fun F2 H2 x2 R2 => tO_run l2 R2 h4 h5 fun F3 H3 x3 R3 => ?_⟩
                exact ⟨F3, pv, _, R3.dom, ((hv.ext R1 x2 (evs_rel lo h2) fun _ z => z).ext R2 x3 (evs_rel hi h4) fun _ z => z).peek R3 h6, h7, fin.out ((x1.tr x2).tr x3) R3⟩
              · cases e
            · cases e
          · cases e
        · cases e
      · cases e
    · cases e
  · cases e
theorem rev_ok {a : E} {a' : Expr} {k : Nat} {p1 p2 p3 p : Pos} (ha : PE X a' (tEv g M C a)) : PE X (.Subscript a' (.Slice none none (some (.UnaryOp .USub (.Constant (.int 1) k p1) p2)) p3) p) (tEv g M C (.rev a)) := peI (pe_revL ha) fun σ H Q ⟨F, env, o, env', R, e, hk, fin⟩ => by
  simp only [ev] at e
  split at e
  · rename_i x env1 h1
    split at e
    · rename_i xs h2
      cases e
      refine ⟨F, env, x, _, R, h1, ok_d h2, fun v F1 H1 x1 R1 hv => ?_⟩
      obtain ⟨a, vs, rfl, ea, l⟩ := (hv.peek R1 h2).lst
      exact ⟨a, vs, rfl, SqL.of ea, (fin.out x1 R1).lst R1.dom l.rev⟩
    · cases e
  · cases e
theorem bltn_ty (ok : CxOk g M C d N nf X) {x : Str} {n : String} {p : Pos} (hg : glB X.env.scope x = true) (hf : x ∈ nf.free) (hv : bootBuiltins x = some (.type n)) : PE X (.Name x p) (tC (.ty n)) := by
  obtain ⟨h1, h2, h3⟩ := glB_ok hg
  exact pe_bltn h1 (ok.free x hf) hv rfl h3 h2
theorem boot_ty (t : Ty) : bootBuiltins (Str.ofString (tyName t)) = some (.type (tyName t)) := by
  cases t <;> decide +kernel
theorem boot_isi : bootBuiltins (Str.ofString "isinstance") = some (.builtin "isinstance") := by decide +kernel
theorem isi_snd (ok : CxOk g M C d N nf X) {t : Ty} {a : E} {a' : Expr} {f ty : Str} {p q r : Pos} (hf : f = Str.ofString "isinstance") (gf : glB X.env.scope f = true) (ff : f ∈ nf.free) (ha : PE X a' (tEv g M C a)) (ns : nstar a' = true) (ht : ty = Str.ofString (tyName t)) (gt : glB X.env.scope ty = true) (ft : ty ∈ nf.free) :
    PE X (.Call (.Name f p) [a', .Name ty q] [] r) (tEv g M C (.isi t a)) := by
  subst hf ht
  obtain ⟨h1, h2, h3⟩ := glB_ok gf
  refine peI (pe_callB (isi_ok ok.hK t) h1 (ok.free _ ff) boot_isi (pa_cons ha (pa_cons (bltn_ty ok gt ft (boot_ty t)) pa_nil) (star_cons ns _ _)) h3 h2 (star_cons ns _ _) rfl) fun σ H Q ⟨F, env, o, env', R, e, hk, fin⟩ => ?_
  simp only [ev] at e
  split at e
  · rename_i x env1 h1
    split at e
    · rename_i pv h2
      split at e
      · rename_i rr k h3
        cases e
        exact ⟨F, env, x, _, R, h1, ok_d h2, fun v F1 H1 x1 R1 hv => ⟨v, rfl, F1, pv, _, R1.dom, hv.peek R1 h2, h3, fin.out x1 R1⟩⟩
      · cases e
    · cases e
  · cases e
theorem boot_bi {b : Bi} (h : biOk b = true) : bootBuiltins (Str.ofString (biName b)) = some (if biTy b then .type (biName b) else .builtin (biName b)) := by
  cases b <;> first | (cases h; done) | decide +kernel
theorem bi_fin {b : Bi} {es : List E} {σ : St} {H : Hp} {Q : VK} {F : Ad} {env env' : En} {o : Opd} (R : Rep g F H σ env) (e : ev M C (.bi b es) env = some (o, env')) (fin : Fin g σ F H env o env' Q) : tCB (rN g (biF b)) (tEs g M C es) σ H Q := by
  simp only [ev] at e
  split at e
  · rename_i os env1 h1
    split at e
    · rename_i ps h2
      split at e
      · rename_i r f h3
        cases e
        exact ⟨F, env, os, _, R, h1, ok_ds h2, fun vs F1 H1 x1 R1 hl => ⟨F1, ps, _, R1.dom, hl.peek R1 h2, h3, fin.out x1 R1⟩⟩
      · cases e
    · cases e
  · cases e
theorem bi_call (hK : X.K = g.K) (hw : X.w = g.w) (hc : X.calm = true) {b : Bi} (h : biOk b = true) : CallR X (if biTy b then .type (biName b) else .builtin (biName b)) (rN g (biF b)) := by
  cases b <;> first | (cases h; done) | skip
  · exact len_ok hK hw
  · exact sum_ok hc
  · exact min_ok hc
  · exact max_ok hc
  · exact abs_ok
  · exact all_ok hc
  · exact any_ok hc
  · exact sorted_ok hK hw hc
  · exact set_ok hw hc
  · exact tuple_ok hc
  · exact list_ok hK hc
  · exact dict_ok hc
  · exact int_okB
  · exact range_ok
theorem bi_snd (ok : CxOk g M C d N nf X) {b : Bi} {es : List E} {e' : Expr} {es' : List Expr} {x : Str} {p r : Pos} (hb : biOk b = true) (hx : x = Str.ofString (biName b)) (gx : glB X.env.scope x = true) (fx : x ∈ nf.free) (hc : chkEs N nf X.env.scope es (e' :: es') = true) (h : PA X (e' :: es') (tEs g M C es)) :
    PE X (.Call (.Name x p) (e' :: es') [] r) (tEv g M C (.bi b es)) := by
  subst hx
  obtain ⟨h1, h2, h3⟩ := glB_ok gx
  have cr := bi_call (g := g) ok.hK ok.hw ok.calm hb
  have bt := boot_bi hb
  cases es with
  | nil => simp [chkEs] at hc
  | cons c cs =>
    simp only [chkEs, Bool.and_eq_true] at hc
    have st := star_cons hc.1.2 es' X.env
    have sf := chk_star (p := r) (env := X.env) hc.2
    cases q : biTy b with
    | true =>
      rw [q] at cr bt
      exact peI (pe_callTy cr h1 (ok.free _ fx) bt h h3 h2 st sf) fun σ H Q ⟨F, env, o, env', R, e, hk, fin⟩ => bi_fin R e fin
    | false =>
      rw [q] at cr bt
      exact peI (pe_callB cr h1 (ok.free _ fx) bt h h3 h2 st sf) fun σ H Q ⟨F, env, o, env', R, e, hk, fin⟩ => bi_fin R e fin
/-- a def is called -/
theorem call_fin {f : Nat} {es : List E} {σ : St} {H : Hp} {Q : VK} {F : Ad} {env env' : En} {o : Opd} (R : Rep g F H σ env) (e : ev M C (.call f es) env = some (o, env')) (fin : Fin g σ F H env o env' Q) (E : XK) : tCall (spC g M C f) [] E (tEs g M C es) σ H Q := by
  simp only [ev] at e
  split at e
  · rename_i os env1 h1
    split at e
    · rename_i ps is env2 h2
      split at e
      · rename_i r k outs h3
        split at e
        · rename_i env3 h4
          cases e
          refine ⟨F, env, os, env1, R, h1, ok_ps h2, fun vs F1 H1 x1 R1 hl => ?_⟩
          obtain ⟨F2, m2, x2, R2, S2, L2, l1, l2, _⟩ := pass_ok R1 x1 hl h2
          rw [List.append_nil]
          refine ⟨F2, ps, _, outs, l1, l2, S2, h3, fun v F3 H3 x3 R3 hv => ?_⟩
          obtain ⟨x4, R4, h4'⟩ := call_ok R2 S2 L2 (pass_keeps h2) x3 R3 hv h4
          exact fin v F3 H3 (x2.tr x4) R4 (h4'.wid x2.new)
        · cases e
      · cases e
    · cases e
  · cases e
theorem call_snd (ok : CxOk g M C d N nf X) {f : Nat} {es : List E} {es' : List Expr} {x : Str} {p r : Pos} (hx : nf.fn[f]? = some x) (gx : glB X.env.scope x = true) (hc : chkEs N nf X.env.scope es es' = true) (h : PA X es' (tEs g M C es)) :
    PE X (.Call (.Name x p) es' [] r) (tEv g M C (.call f es)) := by
  obtain ⟨h1, h2, h3⟩ := glB_ok gx
  obtain ⟨fa, fd, ps, hm, hk, hb, ho⟩ := ok.fn f x hx
  cases es' with
  | nil =>
    refine peI (pe_call0 (E := fun _ _ _ => False) ho ok.room h1 hm hk hb .nil pass0 h2) fun σ H Q ⟨F, env, o, env', R, e, hk, fin⟩ => ?_
    cases es with
    | nil =>
      have := call_fin R e fin fun _ _ _ => False
      unfold tCall at this ⊢
      exact tEs_nil this
    | cons c cs => simp [chkEs] at hc
  | cons e' es' =>
    cases es with
    | nil => simp [chkEs] at hc
    | cons c cs =>
      simp only [chkEs, Bool.and_eq_true] at hc
      exact peI (pe_call (E := fun _ _ _ => False) ho ok.room h1 hm hk hb .nil pass0 h h2 (star_cons hc.1.2 es' X.env) (chk_star hc.2)) fun σ H Q ⟨F, env, o, env', R, e, hk, fin⟩ => call_fin R e fin _
end
end L2.Pz
set_option Elab.async false
set_option linter.all false
set_option maxRecDepth 100000
set_option maxHeartbeats 4000000
namespace L2.Pz
set_option autoImplicit false
open PySem PySem.Spec PyProof.Rows L2

/-! ## Pz13: what is walked -/
/-- locked or unlocked slots -/
structure LkR (a b : En) : Prop where
  len : b.length = a.length
  back : ∀ (i : Nat) (s : Slot), b[i]? = some (some s) → ∃ s0, a[i]? = some (some s0) ∧ s0.v = s.v ∧ (s0 = s ∨ (s0.k.ex = true ∧ s.k.ex = true))
theorem LkR.refl {a : En} : LkR a a := ⟨rfl, fun _ s e => ⟨s, e, rfl, .inl rfl⟩⟩
theorem LkR.trans {a b c : En} (x : LkR a b) (y : LkR b c) : LkR a c := ⟨y.len.trans x.len, fun i s e => by
  obtain ⟨s1, e1, v1, h1⟩ := y.back i s e
  obtain ⟨s0, e0, v0, h0⟩ := x.back i s1 e1
  refine ⟨s0, e0, v0.trans v1, ?_⟩
  rcases h1 with rfl | ⟨h1, h1'⟩
  · exact h0
  · rcases h0 with rfl | ⟨h0, _⟩
    · exact .inr ⟨h1, h1'⟩
    · exact .inr ⟨h0, h1'⟩⟩
theorem lock1_lkr (env : En) (i : Nat) : LkR env (lock1 env i) := by
  unfold lock1
  split
  · rename_i p h
    refine ⟨by rw [List.length_set], fun j s e => ?_⟩
    rcases set_get e with ⟨rfl, q⟩ | ⟨_, e⟩
    · cases q; exact ⟨_, h, rfl, .inr ⟨rfl, rfl⟩⟩
    · exact ⟨s, e, rfl, .inl rfl⟩
  · exact .refl
theorem unlock1_lkr (env : En) (i : Nat) : LkR env (unlock1 env i) := by
  unfold unlock1
  split
  · rename_i p h
    refine ⟨by rw [List.length_set], fun j s e => ?_⟩
    rcases set_get e with ⟨rfl, q⟩ | ⟨_, e⟩
    · cases q; exact ⟨_, h, rfl, .inr ⟨rfl, rfl⟩⟩
    · exact ⟨s, e, rfl, .inl rfl⟩
  · exact .refl
theorem lock_lkr (env : En) : ∀ is : List Nat, LkR env (lock env is)
  | [] => .refl
  | i :: is => (lock_lkr env is).trans (lock1_lkr _ i)
theorem unlock_lkr (env : En) : ∀ is : List Nat, LkR env (unlock env is)
  | [] => .refl
  | i :: is => (unlock_lkr env is).trans (unlock1_lkr _ i)
theorem lock1_own {env : En} {i j : Nat} {x : PV} (e : (lock1 env i)[j]? = some (some ⟨x, .own⟩)) : env[j]? = some (some ⟨x, .own⟩) ∧ j ≠ i := by
  unfold lock1 at e
  split at e
  · rename_i p h
    rcases set_get e with ⟨rfl, q⟩ | ⟨n, e⟩
    · cases q
    · exact ⟨e, Ne.symm n⟩
  · rename_i h
    exact ⟨e, fun z => h x (by rw [← z]; exact e)⟩
theorem lock_own {env : En} {j : Nat} {x : PV} : ∀ {is : List Nat}, (lock env is)[j]? = some (some ⟨x, .own⟩) → env[j]? = some (some ⟨x, .own⟩) ∧ j ∉ is
  | [], e => ⟨e, by simp⟩
  | i :: is, e => by
    obtain ⟨e1, n⟩ := lock1_own e
    obtain ⟨e2, m⟩ := lock_own e1
    exact ⟨e2, by simp only [List.mem_cons, not_or]; exact ⟨n, m⟩⟩
theorem enumP_get : ∀ {xs : List PV} {n i : Nat} {z : PV}, (enumP n xs)[i]? = some z → ∃ x, xs[i]? = some x ∧ z = .tup [.int ((n + i : Nat) : Int), x]
  | [], _, _, _, e => by cases e
  | x :: xs, n, 0, z, e => by cases e; exact ⟨x, rfl, rfl⟩
  | x :: xs, n, i + 1, z, e => by
    obtain ⟨y, h1, h2⟩ := enumP_get (xs := xs) (n := n + 1) (i := i) e
    exact ⟨y, h1, by rw [h2]; congr 4; omega⟩
theorem enumP_len : ∀ (xs : List PV) (n : Nat), (enumP n xs).length = xs.length
  | [], _ => rfl
  | x :: xs, n => congrArg Nat.succ (enumP_len xs (n + 1))
theorem zipP_get : ∀ {xs ys : List PV} {i : Nat} {z : PV}, (zipP xs ys)[i]? = some z → ∃ x y, xs[i]? = some x ∧ ys[i]? = some y ∧ z = .tup [x, y]
  | x :: xs, y :: ys, 0, z, e => by cases e; exact ⟨x, y, rfl, rfl, rfl⟩
  | x :: xs, y :: ys, i + 1, z, e => zipP_get (xs := xs) (ys := ys) (i := i) e
  | [], _, _, _, e => by simp [zipP] at e
  | _ :: _, [], _, _, e => by simp [zipP] at e
theorem zipP_len : ∀ (xs ys : List PV), xs.length ≤ (zipP xs ys).length ∨ ys.length ≤ (zipP xs ys).length
  | x :: xs, y :: ys => (zipP_len xs ys).imp Nat.succ_le_succ Nat.succ_le_succ
  | [], _ => .inl (Nat.zero_le _)
  | _ :: _, [] => .inr (Nat.zero_le _)
def E.sv : E → Bool
  | .zip _ _ | .enum _ | .rngI _ | .ite _ _ _ | .and _ _ | .or _ _ => false
  | _ => true
theorem ev_okW {M : Nat → List Md} {C : Cl} {c : E} {env env' : En} {x : Opd} (h : c.sv = true) (e : ev M C c env = some (x, env')) : x.ok = true := by
  cases c <;> first | (cases h; done) | skip
  all_goals (simp only [ev] at e; (repeat' split at e) <;> first | (cases e; rfl) | cases e)

/-- an iterator over data: what it yields, as long as what lay then lies -/
structure Wlk (g : Gw) (J : It) (xs : List PV) (F0 : Ad) (H0 : Hp) (O0 : Ad) : Prop where
  go : ∀ F H O, Ext F0 H0 O0 F H O → ∀ i x, xs[i]? = some x → J.go i H
  yld : ∀ F H O, Ext F0 H0 O0 F H O → ∀ i x v H', xs[i]? = some x → J.yld i H v H' → ∃ F', AllocR g F H (x, false) v F' H'
  stop : ∀ F H O, Ext F0 H0 O0 F H O → J.stop xs.length H

section
variable {g : Gw} {M : Nat → List Md} {C : Cl} {d : Nat} {N : List Str} {nf : Nf} {X : Cx} {F F0 : Ad} {H H0 : Hp} {σ : St} {env env' : En} {O0 N0 : Ad} {o : Opd} {v : V} {p : PV} {a : Addr}
theorem Rep.lkr (R : Rep g F H σ env) (h : LkR env env') : Rep g F H σ env' := by
  refine ⟨R.len.trans h.len.symm, fun i s e => ?_, fun i j x s b hij e1 k1 e2 k2 es ej => ?_, R.dom⟩
  · obtain ⟨s0, e0, v0, h0⟩ := h.back i s e
    rcases h0 with rfl | ⟨h0, h0'⟩
    · exact R.slot i _ e0
    · obtain ⟨b, es, nb, c⟩ := R.exc e0 h0
      refine ⟨_, es, ?_⟩
      obtain ⟨q, k⟩ := s
      subst v0
      cases k with
      | fz => cases h0'
      | ro => cases h0'
      | own => exact ⟨b, rfl, nb, c⟩
      | lk => exact ⟨b, rfl, nb, c⟩
  · obtain ⟨x0, e1', _, h1⟩ := h.back i x e1
    obtain ⟨s0, e2', v2, h2⟩ := h.back j s e2
    have k1' : x0.k.ex = true := by
      rcases h1 with rfl | ⟨h1, _⟩
      · exact k1
      · exact h1
    have k2' : s0.k ≠ .fz := by
      rcases h2 with rfl | ⟨h2, _⟩
      · exact k2
      · intro z; rw [z] at h2; cases h2
    have := R.sep i j x0 s0 b hij e1' k1' e2' k2' es ej
    rw [v2] at this
    exact this
theorem Own.lock {l : List Nat} (h : Own σ (lock env l) a) : Own σ env a := by
  obtain ⟨j, x, e, es⟩ := h
  exact ⟨j, x, (lock_own e).1, es⟩
/-- what is in no name's hands -/
def OldA (g : Gw) (F : Ad) (H : Hp) (σ : St) (env : En) (a : Addr) : Prop := H a ≠ none ∧ ¬ F a ∧ Away g F H σ env a
theorem olds {l : List Nat} {F' : Ad} {H' : Hp} (R : Rep g F H σ env) (x : Ext F H (Own σ env) F' H' (Own σ env')) (er : EnvRel env env') (R' : Rep g F' H' σ env') (hO : ∀ a, O0 a → Own σ (lock env' l) a ∨ OldA g F H σ env a) :
    (∀ a, O0 a → ¬ F' a) ∧ ∀ a, O0 a → Own σ (lock env' l) a ∨ (¬ F' a ∧ Away g F' H' σ env' a ∧ ¬ New H (Own σ env) a) := by
  have key : ∀ a, OldA g F H σ env a → ¬ F' a ∧ Away g F' H' σ env' a ∧ ¬ New H (Own σ env) a := fun a ⟨h1, h2, h3⟩ => by
    have no := h3.notOwn R h2
    refine ⟨fun h => ?_, h3.ext R x er h2, fun h => h.elim no h1⟩
    rcases x.newF a h with h | h | h
    · exact h2 h
    · exact no h
    · exact h1 h
  refine ⟨fun a h => ?_, fun a h => (hO a h).imp id (key a)⟩
  rcases hO a h with h | h
  · exact R'.ownF h.lock
  · exact (key a h).1
/-- where the walked lies, nothing is owned meanwhile -/
theorem src_ok {xs : List PV} {l : List Nat} (R : Rep g F H σ env) (h : HeldO g F H σ env N0 o v) (e : deref env o = some p) (w : walkF p = some xs) (hl : ∀ i ∈ o.slot, i ∈ l) :
    ∃ a vs, v = .ref a ∧ RepL g F H xs vs ∧ (∀ D, (Own σ (lock env l) D ∨ (¬ F D ∧ Away g F H σ env D ∧ ¬ N0 D)) → D ≠ a) ∧ ((p = .lst xs ∧ H a = some (.lst vs)) ∨ (p = .tup xs ∧ H a = some (.tup vs))) := by
  have pk := h.peek R e
  have key : ∀ a, v = .ref a → (RepV g F H p (.ref a) → F a) → RepV g F H p v ∨ RepC g F H a p → ∀ D, (Own σ (lock env l) D ∨ (¬ F D ∧ Away g F H σ env D ∧ ¬ N0 D)) → D ≠ a := fun a ev inF rr D hD z => by
    subst ev
    subst z
    rcases hD with ow | ⟨nb, aw0, nn⟩
    · obtain ⟨j, x, ej, es⟩ := ow
      obtain ⟨ej0, nj⟩ := lock_own ej
      obtain ⟨b, eb, nb, cb⟩ := R.exc ej0 rfl
      rw [es] at eb; cases eb
      cases o with
      | wk _ _ => cases e
      | vl q f =>
        cases e
        cases f with
        | false => exact nb (inF h)
        | true =>
          obtain ⟨c, ec, nc, cc, _, aw⟩ := h
          cases ec
          exact aw.notOwn R nc ⟨j, x, ej0, es⟩
      | sl i =>
        obtain ⟨ei, s, esi⟩ := h
        have hij : j ≠ i := fun z => nj (hl j (by rw [z]; exact List.mem_cons_self ..))
        simp only [deref, esi] at e
        cases e
        obtain ⟨w', ew, r⟩ := R.slot i s esi
        rw [ei] at ew; cases ew
        by_cases hk : s.k = .fz
        · unfold RepS at r; rw [hk] at r; exact nb (inF r)
        · exact nb (inF (R.sep j i _ _ D hij ej0 rfl esi hk es ei))
    · cases o with
      | wk _ _ => cases e
      | vl q f =>
        cases e
        cases f with
        | false => exact nb (inF h)
        | true =>
          obtain ⟨c, ec, nc, cc, n0, aw⟩ := h
          cases ec
          exact nn n0
      | sl i =>
        obtain ⟨ei, s, esi⟩ := h
        simp only [deref, esi] at e
        cases e
        obtain ⟨w', ew, r⟩ := R.slot i s esi
        rw [ei] at ew; cases ew
        by_cases hk : s.k = .fz
        · unfold RepS at r; rw [hk] at r; exact nb (inF r)
        · exact nb (inF (aw0 i s esi hk ei))
  cases p with
  | lst ys =>
    cases w
    obtain ⟨a, vs, rfl, ea, l'⟩ := pk.lst
    refine ⟨a, vs, rfl, l', key a rfl (fun r => by cases r; assumption) ?_, .inl ⟨rfl, ea⟩⟩
    rcases pk with r | ⟨b, eb, c⟩
    · exact .inl r
    · cases eb; exact .inr c
  | tup ys =>
    cases w
    obtain ⟨a, vs, rfl, ea, l'⟩ := pk.tup
    refine ⟨a, vs, rfl, l', key a rfl (fun r => by cases r; assumption) ?_, .inr ⟨rfl, ea⟩⟩
    rcases pk with r | ⟨b, eb, c⟩
    · exact .inl r
    · cases eb; exact .inr c
  | _ => cases w
theorem wlk_list {xs : List PV} {vs : List V} (K : PySem.W.Frag) (nF : ∀ a, O0 a → ¬ F0 a) (e : H0 a = some (.lst vs)) (l : RepL g F0 H0 xs vs) (n : ¬ O0 a) : Wlk g (Itl K a) xs F0 H0 O0 where
  go := fun F H O x i y hy => by
    obtain ⟨v, hv, _⟩ := l.get hy
    exact ⟨vs, v, SqL.of (x.keep _ _ e n), hv⟩
  yld := fun F H O x i y v H' hy ⟨e', h⟩ => by
    subst e'
    obtain ⟨w, hw, r⟩ := (l.ext x nF).get hy
    have := h vs (SqL.of (x.keep _ _ e n))
    rw [hw] at this; cases this
    exact ⟨F, .same r rfl⟩
  stop := fun F H O x => ⟨vs, SqL.of (x.keep _ _ e n), by rw [l.length]; exact Nat.le_refl _⟩
theorem wlk_tup {xs : List PV} {vs : List V} (K : PySem.W.Frag) (nF : ∀ a, O0 a → ¬ F0 a) (e : H0 a = some (.tup vs)) (l : RepL g F0 H0 xs vs) (n : ¬ O0 a) : Wlk g (Itt K a) xs F0 H0 O0 where
  go := fun F H O x i y hy => by
    obtain ⟨v, hv, _⟩ := l.get hy
    exact ⟨vs, v, SqT.of (x.keep _ _ e n), hv⟩
  yld := fun F H O x i y v H' hy ⟨e', h⟩ => by
    subst e'
    obtain ⟨w, hw, r⟩ := (l.ext x nF).get hy
    have := h vs (SqT.of (x.keep _ _ e n))
    rw [hw] at this; cases this
    exact ⟨F, .same r rfl⟩
  stop := fun F H O x => ⟨vs, SqT.of (x.keep _ _ e n), by rw [l.length]; exact Nat.le_refl _⟩
theorem wlk_enum {xs : List PV} {vs : List V} (K : PySem.W.Frag) (nF : ∀ a, O0 a → ¬ F0 a) (e : H0 a = some (.lst vs)) (l : RepL g F0 H0 xs vs) (n : ¬ O0 a) : Wlk g (Ite K a) (enumP 0 xs) F0 H0 O0 where
  go := fun F H O x i y hy => by
    obtain ⟨z, hz, _⟩ := enumP_get hy
    obtain ⟨v, hv, _⟩ := l.get hz
    exact ⟨vs, v, SqL.of (x.keep _ _ e n), hv⟩
  yld := fun F H O x i y v H' hy ⟨T, u, e1, e2, e3, h⟩ => by
    subst e1 e3
    obtain ⟨z, hz, rfl⟩ := enumP_get hy
    obtain ⟨w, hw, r⟩ := (l.ext x nF).get hz
    have := h vs (SqL.of (x.keep _ _ e n))
    rw [hw] at this; cases this
    refine ⟨_, AllocR.newT e2 (.cons ?_ (.cons r .nil))⟩
    rw [Nat.zero_add]
    exact .int _
  stop := fun F H O x => ⟨vs, SqL.of (x.keep _ _ e n), by rw [← l.length, enumP_len]; exact Nat.le_refl _⟩
theorem wlk_zip {xs ys : List PV} {vs ws : List V} {b : Addr} (K : PySem.W.Frag) (nF : ∀ a, O0 a → ¬ F0 a) (e : H0 a = some (.lst vs)) (l : RepL g F0 H0 xs vs) (n : ¬ O0 a) (e' : H0 b = some (.lst ws)) (l' : RepL g F0 H0 ys ws) (n' : ¬ O0 b) : Wlk g (Itz K a b) (zipP xs ys) F0 H0 O0 where
  go := fun F H O x i y hy => by
    obtain ⟨z, z', hz, hz', _⟩ := zipP_get hy
    obtain ⟨v, hv, _⟩ := l.get hz
    obtain ⟨w, hw, _⟩ := l'.get hz'
    exact ⟨vs, ws, v, w, SqL.of (x.keep _ _ e n), SqL.of (x.keep _ _ e' n'), hv, hw⟩
  yld := fun F H O x i y v H' hy ⟨T, u, u', e1, e2, e3, h, h'⟩ => by
    subst e1 e3
    obtain ⟨z, z', hz, hz', rfl⟩ := zipP_get hy
    obtain ⟨w, hw, r⟩ := (l.ext x nF).get hz
    obtain ⟨w', hw', r'⟩ := (l'.ext x nF).get hz'
    have := h vs (SqL.of (x.keep _ _ e n))
    rw [hw] at this; cases this
    have := h' ws (SqL.of (x.keep _ _ e' n'))
    rw [hw'] at this; cases this
    exact ⟨_, AllocR.newT e2 (.cons r (.cons r' .nil))⟩
  stop := fun F H O x => ⟨vs, ws, SqL.of (x.keep _ _ e n), SqL.of (x.keep _ _ e' n'), by rw [← l.length, ← l'.length]; exact zipP_len xs ys⟩
theorem wlk_zipT {xs ys : List PV} {vs ws : List V} {b : Addr} (K : PySem.W.Frag) (nF : ∀ a, O0 a → ¬ F0 a) (e : H0 a = some (.tup vs)) (l : RepL g F0 H0 xs vs) (n : ¬ O0 a) (e' : H0 b = some (.tup ws)) (l' : RepL g F0 H0 ys ws) (n' : ¬ O0 b) : Wlk g (RZ.ItzT K a b) (zipP xs ys) F0 H0 O0 where
  go := fun F H O x i y hy => by
    obtain ⟨z, z', hz, hz', _⟩ := zipP_get hy
    obtain ⟨v, hv, _⟩ := l.get hz
    obtain ⟨w, hw, _⟩ := l'.get hz'
    exact ⟨vs, ws, v, w, SqT.of (x.keep _ _ e n), SqT.of (x.keep _ _ e' n'), hv, hw⟩
  yld := fun F H O x i y v H' hy ⟨T, u, u', e1, e2, e3, h, h'⟩ => by
    subst e1 e3
    obtain ⟨z, z', hz, hz', rfl⟩ := zipP_get hy
    obtain ⟨w, hw, r⟩ := (l.ext x nF).get hz
    obtain ⟨w', hw', r'⟩ := (l'.ext x nF).get hz'
    have := h vs (SqT.of (x.keep _ _ e n))
    rw [hw] at this; cases this
    have := h' ws (SqT.of (x.keep _ _ e' n'))
    rw [hw'] at this; cases this
    exact ⟨_, AllocR.newT e2 (.cons r (.cons r' .nil))⟩
  stop := fun F H O x => ⟨vs, ws, SqT.of (x.keep _ _ e n), SqT.of (x.keep _ _ e' n'), by rw [← l.length, ← l'.length]; exact zipP_len xs ys⟩
theorem wlk_rng {lo : Int} {n : Nat} : Wlk g (Itr lo n) ((upto lo n).map PV.int) F0 H0 O0 where
  go := fun F H O x i y hy => by
    have h1 := lt_of_some hy
    rw [List.length_map, upto_length] at h1
    exact h1
  yld := fun F H O x i y v H' hy ⟨e1, e2⟩ => by
    subst e1 e2
    have h1 := lt_of_some hy
    rw [List.length_map, upto_length] at h1
    rw [List.getElem?_map, upto_get n lo i h1] at hy
    cases hy
    exact ⟨F, .same (.int _) rfl⟩
  stop := fun F H O x => by
    show n ≤ _
    rw [List.length_map, upto_length]
    exact Nat.le_refl _
variable (g M C) in
def tIt (c : E) : TI := fun σ H R => ∃ F env x env' xs l, Rep g F H σ env ∧ ev M C c env = some (x, env') ∧ walkO env' x = some (xs, l) ∧
  ∀ J F' H', Ext F H (Own σ env) F' H' (Own σ env') → Rep g F' H' σ env' → (∀ O0 : Ad, (∀ a, O0 a → Own σ (lock env' l) a ∨ OldA g F H σ env a) → Wlk g J xs F' H' O0) → R J H'
/-- a list or a tuple, walked -/
theorem pi_val {c : E} {e tg : Expr} (he : PE X e (tEv g M C c)) (hw : c.sv = true) : PI X tg e (tIt g M C c) := by
  refine ⟨fun pins s σ H R I ⟨F, env, x, env', xs, l, Rp, ee, ew, k⟩ => ?_⟩
  have ok := ev_okW hw ee
  have ed : ∃ p, deref env' x = some p ∧ walkF p = some xs ∧ l = x.slot := by
    cases x with
    | wk _ _ => cases ok
    | sl i =>
      simp only [walkO] at ew
      split at ew
      · rename_i p hp
        split at ew
        · rename_i ys hy; cases ew; exact ⟨p, hp, hy, rfl⟩
        · cases ew
      · cases ew
    | vl q f =>
      simp only [walkO] at ew
      split at ew
      · rename_i p hp
        split at ew
        · rename_i ys hy; cases ew; exact ⟨p, hp, hy, rfl⟩
        · cases ew
      · cases ew
  obtain ⟨p, dp, wp, rfl⟩ := ed
  have goal : tEv g M C c σ H fun v H1 => ∃ (a : Addr) (vs : List V), v = .ref a ∧ ((H1 a = some (.lst vs) ∧ R (Itl X.K a) H1) ∨ (H1 a = some (.tup vs) ∧ R (Itt X.K a) H1)) := by
    refine ⟨F, env, x, env', Rp, ee, ok, fun v F' H' x' R' h => ?_⟩
    obtain ⟨a, vs, rfl, l', n, q⟩ := src_ok R' h dp wp (fun i hi => hi)
    refine ⟨a, vs, rfl, ?_⟩
    rcases q with ⟨_, q⟩ | ⟨_, q⟩
    · exact .inl ⟨q, k _ F' H' x' R' fun O0 hO => (let ⟨z1, z2⟩ := olds Rp x' (ev_rel c ee) R' hO; wlk_list X.K z1 q l' fun h => n _ (z2 a h) rfl)⟩
    · exact .inr ⟨q, k _ F' H' x' R' fun O0 hO => (let ⟨z1, z2⟩ := olds Rp x' (ev_rel c ee) R' hO; wlk_tup X.K z1 q l' fun h => n _ (z2 a h) rfl)⟩
  refine thn (he.run pins s σ H _ I goal) fun u s1 ⟨v, H1, I1, r1, a, vs, e1, q1⟩ => ?_
  subst e1
  cases r1
  rcases q1 with ⟨q1, q⟩ | ⟨q1, q⟩
  · obtain ⟨its, rv, p, hz⟩ := I1.list (SqL.of q1)
    refine wpAny_pyIter_list p.isList ?_
    refine ⟨s1.heap.objs.size, [s1.heap.objs.size], _, _, H1, rfl, I1.kept (t' := s1.toks) fun b o e => Heap.get?_push_of_some _ e, turn_list a _, ⟨_, Heap.get?_push_size _ rfl, rfl, rfl⟩, fun b hb => ?_, q⟩
    have e : b = s1.heap.objs.size := by simpa using hb
    subst e
    exact I1.fpOk (Nat.le_refl _) (I1.hok.fresh (Nat.le_refl _))
  · obtain ⟨its, rv, p, hz⟩ := I1.tuple (SqT.of q1)
    refine wpAny_pyIter_tuple (show s1.heap.IsTuple a its.toArray from p) ?_
    refine ⟨s1.heap.objs.size, [s1.heap.objs.size], _, _, H1, rfl, I1.kept (t' := s1.toks) fun b o e => Heap.get?_push_of_some _ e, turn_tuple a _, ⟨_, Heap.get?_push_size _ rfl, rfl, rfl⟩, fun b hb => ?_, q⟩
    have e : b = s1.heap.objs.size := by simpa using hb
    subst e
    exact I1.fpOk (Nat.le_refl _) (I1.hok.fresh (Nat.le_refl _))
theorem pi_rng (ok : CxOk g M C d N nf X) {es : List E} {es' : List Expr} {x : Str} {p r : Pos} {tg : Expr} (hx : x = Str.ofString "range") (gx : glB X.env.scope x = true) (fx : x ∈ nf.free) (hc : chkEs N nf X.env.scope es es' = true) (h : PA X es' (tEs g M C es)) :
    PI X tg (.Call (.Name x p) es' [] r) (tIt g M C (.rngI es)) := by
  subst hx
  obtain ⟨h1, h2, h3⟩ := glB_ok gx
  have len : ∀ {cs : List E} {ds : List Expr}, chkEs N nf X.env.scope cs ds = true → cs.length = ds.length := by
    intro cs
    induction cs with
    | nil => intro ds h; cases ds with | nil => rfl | cons _ _ => simp [chkEs] at h
    | cons c cs ih => intro ds h; cases ds with
      | nil => simp [chkEs] at h
      | cons e ds => simp only [chkEs, Bool.and_eq_true] at h; exact congrArg Nat.succ (ih h.2)
  have fin : ∀ {σ : St} {H : Hp} {R : It → Hp → Prop}, tIt g M C (.rngI es) σ H R → tEs g M C es σ H fun vs H1 => ∃ ns : List Int, vs = ns.map V.int ∧ ns.length = es.length ∧ ((∃ j, ns = [j] ∧ inB j = true ∧ R (Itr 0 j.toNat) H1) ∨ (∃ i j, ns = [i, j] ∧ inB i = true ∧ inB j = true ∧ R (Itr i (j - i).toNat) H1)) := by
    rintro σ H R ⟨F, env, y, env', xs, l, Rp, ee, ew, k⟩
    simp only [ev] at ee
    split at ee
    · rename_i os env1 h1
      split at ee
      · rename_i ns h2
        split at ee
        · rename_i ys h3
          cases ee
          obtain ⟨ps, e1, e2⟩ := Option.bind_eq_some_iff.mp h2
          refine ⟨F, env, os, _, Rp, h1, ok_ds e1, fun vs F1 H1 x1 R1 hl => ?_⟩
          have pk := hl.peek R1 e1
          have vn : ∀ {ps : List PV} {ns : List Int} {vs : List V}, PeekL g F1 H1 ps vs → asInts ps = some ns → vs = ns.map V.int := by
            intro ps
            induction ps with
            | nil => intro ns vs h e; cases h; cases e; rfl
            | cons q ps ih =>
              intro ns vs h e
              cases h with
              | cons a b =>
                cases q with
                | int i =>
                  obtain ⟨ms, e3, rfl⟩ := Option.map_eq_some_iff.mp (show (asInts ps).map (i :: ·) = some ns from e)
                  rw [a.int, ih b e3]; rfl
                | _ => cases e
          have ev := vn pk e2
          have le : os.length = es.length := by
            have : ∀ {cs : List E} {os : List Opd} {env env' : En}, evs M C cs env = some (os, env') → os.length = cs.length := by
              intro cs
              induction cs with
              | nil => intro os env env' h; simp only [evs] at h; cases h; rfl
              | cons c cs ih =>
                intro os env env' h
                simp only [evs] at h
                split at h
                · split at h
                  · rename_i h4; cases h; exact congrArg Nat.succ (ih h4)
                  · cases h
                · cases h
            exact this h1
          refine ⟨ns, ev, ?_, ?_⟩
          · rw [← le, hl.length, ev, List.length_map]
          · unfold rngIF at h3
            simp only [walkO, Option.some.injEq, Prod.mk.injEq] at ew
            obtain ⟨ew1, ew2⟩ := ew
            subst ew1 ew2
            split at h3
            · rename_i j
              split at h3
              · rename_i hb
                cases h3
                refine .inl ⟨j, rfl, hb, k _ F1 H1 x1 R1 fun O0 _ => ?_⟩
                have := wlk_rng (g := g) (F0 := F1) (H0 := H1) (O0 := O0) (lo := 0) (n := j.toNat)
                unfold rngL
                rw [Int.sub_zero]
                exact this
              · cases h3
            · rename_i i j
              split at h3
              · rename_i hb
                cases h3
                exact .inr ⟨i, j, rfl, hb.1, hb.2, k _ F1 H1 x1 R1 fun _ _ => wlk_rng⟩
              · cases h3
            · cases h3
        · cases ee
      · cases ee
    · cases ee
  have bd : ∀ {i : Int}, inB i = true → -(2 ^ 62) ≤ i ∧ i < 2 ^ 62 := fun h => by
    unfold inB at h
    simp only [Bool.and_eq_true, decide_eq_true_eq] at h
    exact h
  cases es with
  | nil =>
    cases es' with
    | cons _ _ => simp [chkEs] at hc
    | nil =>
      refine ⟨fun pins s σ H R I q => ?_⟩
      have q := tEs_nil (fin q)
      obtain ⟨ns, _, hl, q⟩ := q
      rcases q with ⟨j, rfl, _⟩ | ⟨i, j, rfl, _⟩ <;> cases hl
  | cons c cs =>
    cases es' with
    | nil => simp [chkEs] at hc
    | cons e1 es' =>
      simp only [chkEs, Bool.and_eq_true] at hc
      cases cs with
      | nil =>
        cases es' with
        | cons _ _ => simp [chkEs] at hc
        | nil =>
          have := pi_range1 (tg := tg) (p := p) (pos := r) h1 (ok.free _ fx) h (star_cons hc.1.2 _ _)
          refine ⟨fun pins s σ H R I q => this.run pins s σ H R I ?_⟩
          obtain ⟨F, env, os, env', Rp, h1, h2, k⟩ := fin q
          refine ⟨F, env, os, env', Rp, h1, h2, fun vs F1 H1 x1 R1 hl => ?_⟩
          obtain ⟨ns, ev, hl', q⟩ := k vs F1 H1 x1 R1 hl
          rcases q with ⟨j, rfl, hb, q⟩ | ⟨i, j, rfl, _⟩
          · exact ⟨j, ev, (bd hb).1, (bd hb).2, q⟩
          · cases hl'
      | cons c2 cs =>
        cases es' with
        | nil => simp [chkEs] at hc
        | cons e2 es' =>
          cases cs with
          | nil =>
            cases es' with
            | cons _ _ => simp [chkEs] at hc
            | nil =>
              have hc2 := hc.2
              simp only [chkEs, Bool.and_eq_true] at hc2
              have := pi_range2 (tg := tg) (p := p) (pos := r) h1 (ok.free _ fx) h (by rw [star_cons hc.1.2, star_cons hc2.1.2]; rfl) (star_cons hc2.1.2 _ _)
              refine ⟨fun pins s σ H R I q => this.run pins s σ H R I ?_⟩
              obtain ⟨F, env, os, env', Rp, h1, h2, k⟩ := fin q
              refine ⟨F, env, os, env', Rp, h1, h2, fun vs F1 H1 x1 R1 hl => ?_⟩
              obtain ⟨ns, ev, hl', q⟩ := k vs F1 H1 x1 R1 hl
              rcases q with ⟨j, rfl, _⟩ | ⟨i, j, rfl, hb, hb', q⟩
              · cases hl'
              · exact ⟨i, j, ev, ⟨(bd hb).1, (bd hb).2, (bd hb').1, (bd hb').2⟩, q⟩
          | cons c3 cs =>
            refine ⟨fun pins s σ H R I q => ?_⟩
            exfalso
            obtain ⟨F, env, y, env', xs, l, Rp, ee, ew, k⟩ := q
            simp only [ev] at ee
            split at ee
            · rename_i os env1 h1
              split at ee
              · rename_i ns h2
                split at ee
                · rename_i ys h3
                  obtain ⟨ps, e1, e2⟩ := Option.bind_eq_some_iff.mp h2
                  have l1 : ∀ {ps : List PV} {ns : List Int}, asInts ps = some ns → ns.length = ps.length := by
                    intro ps
                    induction ps with
                    | nil => intro ns e; cases e; rfl
                    | cons q ps ih =>
                      intro ns e
                      cases q with
                      | int i =>
                        obtain ⟨ms, e3, rfl⟩ := Option.map_eq_some_iff.mp (show (asInts ps).map (i :: ·) = some ns from e)
                        exact congrArg Nat.succ (ih e3)
                      | _ => cases e
                  have l2 : ∀ {os : List Opd} {ps : List PV}, derefs env1 os = some ps → ps.length = os.length := by
                    intro os
                    induction os with
                    | nil => intro ps e; cases e; rfl
                    | cons o os ih =>
                      intro ps e
                      unfold derefs at e
                      split at e
                      · rename_i h4 h5; cases e; exact congrArg Nat.succ (ih h5)
                      · cases e
                  have l3 : ∀ {cs : List E} {os : List Opd} {env env' : En}, evs M C cs env = some (os, env') → os.length = cs.length := by
                    intro cs
                    induction cs with
                    | nil => intro os env env' h; simp only [evs] at h; cases h; rfl
                    | cons c cs ih =>
                      intro os env env' h
                      simp only [evs] at h
                      split at h
                      · split at h
                        · rename_i h4; cases h; exact congrArg Nat.succ (ih h4)
                        · cases h
                      · cases h
                  have := (l1 e2).trans ((l2 e1).trans (l3 h1))
                  unfold rngIF at h3
                  split at h3
                  · simp at this
                  · simp at this
                  · cases h3
                · cases ee
              · cases ee
            · cases ee
theorem pi_enumB (ok : CxOk g M C d N nf X) {a : E} {a' : Expr} {x : Str} {p r q : Pos} {elts : List Expr} {kk : Nat} (hx : x = Str.ofString "enumerate") (gx : glB X.env.scope x = true) (fx : x ∈ nf.free) (ns : nstar a' = true) (h : PE X a' (tEv g M C a)) :
    PI X (.Tuple elts kk q) (.Call (.Name x p) [a'] [] r) (tIt g M C (.enum a)) := by
  subst hx
  obtain ⟨h1, h2, h3⟩ := glB_ok gx
  have := pi_enum (p := p) (pos := r) (tpos := q) (elts := elts) (kk := kk) h1 (ok.free _ fx) (pa_cons h pa_nil (star_cons ns _ _)) (star_cons ns _ _)
  refine ⟨fun pins s σ H R I ⟨F, env, y, env', xs, l, Rp, ee, ew, k⟩ => this.run pins s σ H R I ?_⟩
  simp only [ev] at ee
  split at ee
  · rename_i y1 env1 h1
    split at ee
    · rename_i ys h2
      cases ee
      cases ew
      refine ⟨F, env, y1, _, Rp, h1, ok_d h2, fun v F1 H1 x1 R1 hv => ?_⟩
      obtain ⟨b, vs, rfl, l', n, q⟩ := src_ok R1 hv h2 rfl (fun i hi => hi)
      rcases q with ⟨_, q⟩ | ⟨q, _⟩
      · exact ⟨b, vs, rfl, SqL.of q, k _ F1 H1 x1 R1 fun O0 hO => (let ⟨z1, z2⟩ := olds Rp x1 (ev_rel a h1) R1 hO; wlk_enum X.K z1 q l' fun h => n _ (z2 b h) rfl)⟩
      · cases q
    · cases ee
  · cases ee
theorem pi_zipB (ok : CxOk g M C d N nf X) {a b : E} {a' b' : Expr} {x : Str} {p r q : Pos} {elts : List Expr} {kk : Nat} (hx : x = Str.ofString "zip") (gx : glB X.env.scope x = true) (fx : x ∈ nf.free) (ns : nstar a' = true) (ns' : nstar b' = true) (h : PE X a' (tEv g M C a)) (h' : PE X b' (tEv g M C b)) :
    PI X (.Tuple elts kk q) (.Call (.Name x p) [a', b'] [] r) (tIt g M C (.zip a b)) := by
  subst hx
  obtain ⟨h1, h2, h3⟩ := glB_ok gx
  have := RZ.pi_zipA (p := p) (pos := r) (tpos := q) (elts := elts) (kk := kk) h1 (ok.free _ fx) (pa_cons h (pa_cons h' pa_nil (star_cons ns' _ _)) (star_cons ns _ _)) (star_cons ns _ _) (by rw [star_cons ns']; rfl)
  refine ⟨fun pins s σ H R I ⟨F, env, y, env', xs, l, Rp, ee, ew, k⟩ => this.run pins s σ H R I ?_⟩
  rw [show X.K = X.K from rfl]
  simp only [ev] at ee
  split at ee
  · rename_i y1 env1 h1
    split at ee
    · rename_i y2 env2 h2
      split at ee
      · rename_i us ws d1 d2
        cases ee
        cases ew
        refine two_ev (K := fun v w H2 => _) Rp h1 h2 (ok_d d1) (ok_d d2) fun v w F1 H1 x1 R1 hv hw => ?_
        obtain ⟨a1, vs, rfl, l1, n1, q1⟩ := src_ok (l := y1.slot ++ y2.slot) R1 hv d1 rfl (fun i hi => List.mem_append_left _ hi)
        obtain ⟨a2, vs2, rfl, l2, n2, q2⟩ := src_ok (l := y1.slot ++ y2.slot) R1 hw d2 rfl (fun i hi => List.mem_append_right _ hi)
        rcases q1 with ⟨_, q1⟩ | ⟨q1, _⟩
        · rcases q2 with ⟨_, q2⟩ | ⟨q2, _⟩
          · exact ⟨a1, a2, vs, vs2, rfl, .inl ⟨SqL.of q1, SqL.of q2, k _ F1 H1 x1 R1 fun O0 hO => (let ⟨z1, z2⟩ := olds Rp x1 ((ev_rel a h1).trans (ev_rel b h2)) R1 hO; wlk_zip X.K z1 q1 l1 (fun h => n1 _ (z2 a1 h) rfl) q2 l2 fun h => n2 _ (z2 a2 h) rfl)⟩⟩
          · cases q2
        · cases q1
      · rename_i us ws d1 d2
        cases ee
        cases ew
        refine two_ev (K := fun v w H2 => _) Rp h1 h2 (ok_d d1) (ok_d d2) fun v w F1 H1 x1 R1 hv hw => ?_
        obtain ⟨a1, vs, rfl, l1, n1, q1⟩ := src_ok (l := y1.slot ++ y2.slot) R1 hv d1 rfl (fun i hi => List.mem_append_left _ hi)
        obtain ⟨a2, vs2, rfl, l2, n2, q2⟩ := src_ok (l := y1.slot ++ y2.slot) R1 hw d2 rfl (fun i hi => List.mem_append_right _ hi)
        rcases q1 with ⟨q1, _⟩ | ⟨_, q1⟩
        · cases q1
        · rcases q2 with ⟨q2, _⟩ | ⟨_, q2⟩
          · cases q2
          · exact ⟨a1, a2, vs, vs2, rfl, .inr ⟨SqT.of q1, SqT.of q2, k _ F1 H1 x1 R1 fun O0 hO => (let ⟨z1, z2⟩ := olds Rp x1 ((ev_rel a h1).trans (ev_rel b h2)) R1 hO; wlk_zipT X.K z1 q1 l1 (fun h => n1 _ (z2 a1 h) rfl) q2 l2 fun h => n2 _ (z2 a2 h) rfl)⟩⟩
      · cases ee
    · cases ee
  · cases ee
end
end L2.Pz
set_option Elab.async false
set_option linter.all false
set_option maxRecDepth 100000
set_option maxHeartbeats 4000000
namespace L2.Pz
set_option autoImplicit false
open PySem PySem.Spec PyProof.Rows L2

/-! ## Pz14: stores, targets, wiped slots -/
section
variable {g : Gw} {M : Nat → List Md} {C : Cl} {d : Nat} {N : List Str} {nf : Nf} {X : Cx} {F F0 F' : Ad} {H H0 H' : Hp} {σ : St} {env env' : En} {O0 N0 : Ad} {o : Opd} {v : V} {p : PV} {a : Addr} {i : Nat} {f : Bool}
/-- a value is stored at a name -/
theorem rep_store (R : Rep g F H σ env) (h : HeldO g F H σ env N0 (.vl p f) v) : Rep g F H (σ.set i (some v)) (env.set i (some ⟨p, kd f⟩)) := by
  have hlen : (σ.set i (some v)).length = (env.set i (some ⟨p, kd f⟩)).length := by rw [List.length_set, List.length_set]; exact R.len
  refine ⟨hlen, fun j s e => ?_, fun j k x s b hjk e1 k1 e2 k2 es ej => ?_, R.dom⟩
  · rcases set_get e with ⟨rfl, q⟩ | ⟨n, e⟩
    · cases q
      have hl : i < σ.length := by have := lt_of_some e; rw [List.length_set, ← R.len] at this; exact this
      refine ⟨v, by rw [List.getElem?_set_self hl], ?_⟩
      cases f with
      | false => exact h
      | true => obtain ⟨a, ev, na, c, _, _⟩ := h; exact ⟨a, ev, na, c⟩
    · obtain ⟨w, ew, r⟩ := R.slot j s e
      exact ⟨w, by rw [List.getElem?_set_ne n]; exact ew, r⟩
  · have es' : (i = j ∧ V.ref b = v) ∨ (i ≠ j ∧ σ[j]? = some (some (.ref b))) := by
      rcases set_get es with ⟨q, z⟩ | z
      · cases z; exact .inl ⟨q, rfl⟩
      · exact .inr z
    have ej' : (i = k ∧ V.ref b = v) ∨ (i ≠ k ∧ σ[k]? = some (some (.ref b))) := by
      rcases set_get ej with ⟨q, z⟩ | z
      · cases z; exact .inl ⟨q, rfl⟩
      · exact .inr z
    rcases set_get e1 with ⟨rfl, q⟩ | ⟨n1, f1⟩
    · cases q
      rcases es' with ⟨_, rfl⟩ | ⟨z, _⟩
      · cases f with
        | false => cases k1
        | true =>
          obtain ⟨a, ev, na, c, _, aw⟩ := h
          cases ev
          rcases set_get e2 with ⟨z, _⟩ | ⟨_, e2⟩
          · exact (hjk z).elim
          · rcases ej' with ⟨z, _⟩ | ⟨_, ej⟩
            · exact (hjk z).elim
            · exact aw k s e2 k2 ej
      · exact (z rfl).elim
    · rcases es' with ⟨z, _⟩ | ⟨_, fs⟩
      · exact (n1 z).elim
      · rcases set_get e2 with ⟨rfl, q⟩ | ⟨n2, e2⟩
        · cases q
          rcases ej' with ⟨_, rfl⟩ | ⟨z, _⟩
          · cases f with
            | false => exact h
            | true =>
              obtain ⟨a, ev, na, c, _, aw⟩ := h
              cases ev
              obtain ⟨b', eb, nb, c'⟩ := R.exc f1 k1
              rw [fs] at eb; cases eb
              exact (na (c'.inF (aw j x f1 (by intro z; rw [z] at k1; cases k1) fs))).elim
          · exact (z rfl).elim
        · rcases ej' with ⟨z, _⟩ | ⟨_, ej⟩
          · exact (n2 z).elim
          · exact R.sep j k x s b hjk f1 k1 e2 k2 fs ej
theorem own_store (h : Own (σ.set i (some v)) (env.set i (some ⟨p, kd f⟩)) a) : (f = true ∧ v = .ref a) ∨ Own σ env a := by
  obtain ⟨j, x, e, es⟩ := h
  rcases set_get e with ⟨rfl, q⟩ | ⟨n, e⟩
  · cases f with
    | false => cases q
    | true =>
      rcases set_get es with ⟨_, z⟩ | ⟨z, _⟩
      · cases z; exact .inl ⟨rfl, rfl⟩
      · exact (z rfl).elim
  · rw [List.getElem?_set_ne n] at es
    exact .inr ⟨j, x, e, es⟩
theorem Away.storeF (aw : Away g F H σ env a) : Away g F H (σ.set i (some v)) (env.set i (some ⟨p, .fz⟩)) a := by
  intro j s e k es
  rcases set_get e with ⟨rfl, q⟩ | ⟨n, e⟩
  · cases q; exact (k rfl).elim
  · rw [List.getElem?_set_ne n] at es
    exact aw j s e k es
theorem store_eq {pm : List Nat} (e : store pm i p f env = some env') : env' = env.set i (some ⟨p, kd f⟩) ∧ i ∉ pm ∧ (∀ q, env[i]? ≠ some (some ⟨q, .lk⟩)) ∧ i < env.length := by
  unfold store at e
  split at e
  · cases e
  · rename_i hp
    split at e
    · cases e
    · rename_i h2 h1
      cases e
      exact ⟨rfl, fun z => hp (by simpa using z), fun q z => (by rw [z] at h1; cases h1; exact h2 q rfl), lt_of_some h1⟩
    · cases e
/-- several frozen stores -/
def setL (σ : St) : List Nat → List V → St
  | i :: is, v :: vs => setL (σ.set i (some v)) is vs
  | _, _ => σ
theorem stores_ok {pm : List Nat} : ∀ {is : List Nat} {ps : List PV} {vs : List V} {σ : St} {env env' : En}, Rep g F H σ env → stores pm is ps env = some env' → RepL g F H ps vs →
    Rep g F H (setL σ is vs) env' ∧ (∀ a, Own (setL σ is vs) env' a → Own σ env a) ∧ (∀ a, Away g F H σ env a → Away g F H (setL σ is vs) env' a) ∧ (∀ vs' : List Nat, (∀ i ∈ is, i ∈ vs') → ∀ j, j ∉ vs' → (setL σ is vs)[j]? = σ[j]?) ∧ vs.length = is.length ∧ (setL σ is vs).length = σ.length
  | [], [], _, σ, env, _, R, e, .nil => by cases e; exact ⟨R, fun _ h => h, fun _ h => h, fun _ _ _ _ => rfl, rfl, rfl⟩
  | i :: is, q :: ps, _, σ, env, _, R, e, .cons (v := v) (vs := vs) r l => by
    unfold stores at e
    split at e
    · rename_i env1 h1
      obtain ⟨rfl, _⟩ := store_eq h1
      have R1 : Rep g F H (σ.set i (some v)) (env.set i (some ⟨q, kd false⟩)) := rep_store (N0 := fun _ => True) (f := false) R r
      obtain ⟨R2, o2, a2, g2, l2, l3⟩ := stores_ok R1 e l
      refine ⟨R2, fun a h => ?_, fun a h => a2 a h.storeF, fun vs' hv j hj => ?_, by simp [l2], by show (setL (σ.set i (some v)) is vs).length = _; rw [l3, List.length_set]⟩
      · rcases own_store (o2 a h) with ⟨z, _⟩ | z
        · cases z
        · exact z
      · show (setL (σ.set i (some v)) is vs)[j]? = _
        rw [g2 vs' (fun i hi => hv i (List.mem_cons_of_mem _ hi)) j hj, List.getElem?_set_ne fun z => hj (by rw [← z]; exact hv i (List.mem_cons_self ..))]
    · cases e
  | [], _ :: _, _, _, _, _, _, e, _ => by cases e
  | _ :: _, [], _, _, _, _, _, e, _ => by cases e
/-- a target's reading -/
def gTg : Tg → TG
  | .one i => fun v σ H Q => Q (σ.set i (some v)) H
  | .many is => fun v σ H Q => ∃ a vs, v = .ref a ∧ H a = some (.tup vs) ∧ vs.length = is.length ∧ Q (setL σ is vs) H
theorem pgs_names (hN : X.N.Nodup) (hk : X.N = N) {Γ : Scope} (hf : ∀ x, locB Γ x = true → Loc X.env.scope x ∧ (X.fn x = true ∨ X.env.scope.names.lookup x = some .local)) : ∀ {is : List Nat} {es : List Expr}, tgB.tgsB N Γ is es = true →
    PGs X es (fun vs σ H Q => vs.length = is.length ∧ Q (setL σ is vs) H) ∧ (assignEach es X.env).length = is.length ∧ (assignEach es X.env).findIdx? (·.1) = none
  | [], [], _ => ⟨⟨fun pins s σ H vs us Q I r h => pgs_nil.run pins s σ H vs us Q I r (by
      obtain ⟨h1, h2⟩ := h
      cases vs with
      | nil => exact ⟨rfl, h2⟩
      | cons _ _ => cases h1)⟩, rfl, rfl⟩
  | [], _ :: _, h => by simp [tgB.tgsB] at h
  | _ :: _, [], h => by simp [tgB.tgsB] at h
  | i :: is, e :: es, h => by
    cases e with
    | Name x q =>
      simp only [tgB.tgsB, Bool.and_eq_true, decide_eq_true_eq] at h
      obtain ⟨ih, l, fi⟩ := pgs_names hN hk hf h.2
      have h1 : PG X (.Name x q) (gName i) := pg_name hN (by rw [hk]; exact h.1.1) (hf x h.1.2).1 (hf x h.1.2).2
      refine ⟨⟨fun pins s σ H vs us Q I r hq => (pgs_cons h1 ih).run pins s σ H vs us Q I r ?_⟩, ?_, ?_⟩
      · obtain ⟨q1, q2⟩ := hq
        cases vs with
        | nil => cases q1
        | cons v vs => exact ⟨v, vs, rfl, by simpa using q1, q2⟩
      · show (assignEach es X.env).length + 1 = is.length + 1
        rw [l]
      · show List.findIdx? _ ((false, _) :: assignEach es X.env) = none
        rw [List.findIdx?_cons, fi]
        rfl
    | _ => simp [tgB.tgsB] at h
theorem pg_tg (hc : X.calm = true) (hN : X.N.Nodup) (hk : X.N = N) {Γ : Scope} (hf : ∀ x, locB Γ x = true → Loc X.env.scope x ∧ (X.fn x = true ∨ X.env.scope.names.lookup x = some .local)) {tg : Tg} {e : Expr} (h : tgB N Γ tg e = true) : PG X e (gTg tg) := by
  cases tg with
  | one i =>
    cases e with
    | Name x q =>
      simp only [tgB, Bool.and_eq_true, decide_eq_true_eq] at h
      exact pg_name hN (by rw [hk]; exact h.1) (hf x h.2).1 (hf x h.2).2
    | _ => simp [tgB] at h
  | many is =>
    cases e with
    | Tuple es k q =>
      simp only [tgB] at h
      obtain ⟨h1, h2, h3⟩ := pgs_names hN hk hf h
      have := pg_tup (pos := q) (k := k) hc h1 h2 h3
      exact ⟨fun pins s σ H v u Q I r ⟨a, vs, e1, e2, e3, e4⟩ => this.run pins s σ H v u Q I r ⟨a, vs, e1, SqT.of e2, e3, e3, e4⟩⟩
    | _ => simp [tgB] at h
/-- a frozen value goes to a target -/
theorem bind_ok {pm : List Nat} {tg : Tg} {x : PV} {Q : St → Hp → Prop} (R : Rep g F H σ env) (e : bindTg pm tg x env = some env') (r : RepV g F H x v)
    (h : ∀ σ1, Rep g F H σ1 env' → (∀ a, Own σ1 env' a → Own σ env a) → (∀ a, Away g F H σ env a → Away g F H σ1 env' a) → (∀ j, j ∉ tg.slots → σ1[j]? = σ[j]?) → σ1.length = σ.length → Q σ1 H) : gTg tg v σ H Q := by
  cases tg with
  | one i =>
    obtain ⟨rfl, _⟩ := store_eq (show store pm i x false env = some env' from e)
    refine h _ (rep_store (N0 := fun _ => True) (f := false) R r) (fun a ho => ?_) (fun a aw => aw.storeF) (fun j hj => ?_) (by rw [List.length_set])
    · rcases own_store ho with ⟨z, _⟩ | z
      · cases z
      · exact z
    · rw [List.getElem?_set_ne fun z => hj (by rw [z]; exact List.mem_cons_self ..)]
  | many is =>
    simp only [bindTg] at e
    split at e
    · rename_i ps
      cases r with
      | tup fa ha l =>
        obtain ⟨R1, o1, a1, g1, l1, l2⟩ := stores_ok R e l
        exact ⟨_, _, rfl, ha, l1, h _ R1 o1 a1 (g1 is fun _ z => z) l2⟩
    · cases e
theorem wipe_in {σ : St} {i : Nat} : ∀ {vs : List Nat}, i ∈ vs → i < σ.length → (wipe σ vs)[i]? = some none
  | w :: vs, h, hl => by
    unfold wipe
    by_cases q : w = i
    · subst q; rw [List.getElem?_set_self (by rw [wipe_length]; exact hl)]
    · rw [List.getElem?_set_ne q]
      rcases List.mem_cons.mp h with h | h
      · exact (q h.symm).elim
      · exact wipe_in h hl
theorem wipe_ext {σ σ' : St} {vs : List Nat} (hl : σ'.length = σ.length) (h : ∀ j, j ∉ vs → σ'[j]? = σ[j]?) : wipe σ' vs = wipe σ vs := by
  apply List.ext_getElem?
  intro j
  by_cases hj : j ∈ vs
  · by_cases hl' : j < σ.length
    · rw [wipe_in hj hl', wipe_in hj (by rw [hl]; exact hl')]
    · rw [List.getElem?_eq_none (by rw [wipe_length]; omega), List.getElem?_eq_none (by rw [wipe_length]; omega)]
  · rw [wipe_out hj, wipe_out hj, h j hj]
theorem wipe_wipe {σ : St} {vs : List Nat} : wipe (wipe σ vs) vs = wipe σ vs := wipe_ext (wipe_length σ vs) fun j hj => wipe_out hj
theorem Rep.wiped (R : Rep g F H σ env) (vs : List Nat) : Rep g F H (wipe σ vs) (wipeE env vs) := by
  refine ⟨by rw [wipe_length, wipeE_len]; exact R.len, fun i s e => ?_, fun i j x s b hij e1 k1 e2 k2 es ej => ?_, R.dom⟩
  · obtain ⟨e1, n⟩ := wipeE_get e
    obtain ⟨w, ew, r⟩ := R.slot i s e1
    exact ⟨w, by rw [wipe_out n]; exact ew, r⟩
  · exact R.sep i j x s b hij (wipeE_get e1).1 k1 (wipeE_get e2).1 k2 (wipe_some es).1 (wipe_some ej).1
theorem Own.wiped {vs : List Nat} (h : Own (wipe σ vs) (wipeE env vs) a) : Own σ env a := by
  obtain ⟨i, x, e, es⟩ := h
  exact ⟨i, x, (wipeE_get e).1, (wipe_some es).1⟩
theorem Away.wiped {vs : List Nat} (aw : Away g F H σ env a) : Away g F H (wipe σ vs) (wipeE env vs) a := fun i s e k es => aw i s (wipeE_get e).1 k (wipe_some es).1
theorem ne_nf {b : Addr} (nf : ¬ F a) (hb : F b) : b ≠ a := fun z => nf (by rw [← z]; exact hb)
/-- an object that no name has changes -/
theorem Rep.updA {u : HO} (R : Rep g F H σ env) (nf : ¬ F a) (aw : Away g F H σ env a) : Rep g F (upd H a u) σ env := by
  have up : ∀ {q : PV} {w : V}, RepV g F H q w → RepV g F (upd H a u) q w := fun r => r.mono (fun _ h => h) fun b o hb e => by rw [upd_ne (ne_nf nf hb)]; exact e
  have upC : ∀ {q : PV} {b : Addr}, b ≠ a → RepC g F H b q → RepC g F (upd H a u) b q := fun n r => r.mono (fun _ h => h) (fun b o hb e => by rw [upd_ne (ne_nf nf hb)]; exact e) fun o e => by rw [upd_ne n]; exact e
  refine ⟨R.len, fun i s e => ?_, fun i j x s b hij e1 k1 e2 k2 es ej => up (R.sep i j x s b hij e1 k1 e2 k2 es ej), fun b hb => by rw [upd_ne (ne_nf nf hb)]; exact R.dom b hb⟩
  obtain ⟨w, ew, r⟩ := R.slot i s e
  refine ⟨w, ew, ?_⟩
  obtain ⟨q, k⟩ := s
  cases k with
  | fz => exact up r
  | own =>
    obtain ⟨b, rfl, nb, c⟩ := r
    exact ⟨b, rfl, nb, upC (fun z => by subst z; exact nf (c.inF (aw i _ e (fun h => nomatch h) ew))) c⟩
  | lk =>
    obtain ⟨b, rfl, nb, c⟩ := r
    exact ⟨b, rfl, nb, upC (fun z => by subst z; exact nf (c.inF (aw i _ e (fun h => nomatch h) ew))) c⟩
  | ro =>
    rcases r with r | ⟨b, rfl, c⟩
    · exact .inl (up r)
    · by_cases z : b = a
      · subst z; exact .inl (up (aw i _ e (fun h => nomatch h) ew))
      · exact .inr ⟨b, rfl, upC z c⟩
theorem Away.updA {u : HO} (nf : ¬ F a) (aw : Away g F H σ env a) : Away g F (upd H a u) σ env a := fun i s e k es => (aw i s e k es).mono (fun _ h => h) fun b o hb e => by rw [upd_ne (ne_nf nf hb)]; exact e
/-- the own slots through a sub-environment with the same places -/
theorem EnvRel.own (er : EnvRel env env') (h : Own σ env' a) : Own σ env a := by
  obtain ⟨i, x, e, es⟩ := h
  obtain ⟨s, e0, h0⟩ := er.back e
  rcases h0 with rfl | ⟨h0, _⟩
  · exact ⟨i, x, e0, es⟩
  · obtain ⟨q, k⟩ := s
    simp only at h0
    subst h0
    exact ⟨i, q, e0, es⟩
theorem Away.lkr (aw : Away g F H σ env a) (h : LkR env env') : Away g F H σ env' a := fun i s e k es => by
  obtain ⟨s0, e0, v0, h0⟩ := h.back i s e
  have := aw i s0 e0 (by
    rcases h0 with rfl | ⟨h0, _⟩
    · exact k
    · intro z; rw [z] at h0; cases h0) es
  rw [v0] at this
  exact this
theorem away_none (R : Rep g F H σ env) (hD : H a = none) : Away g F H σ env a := fun i s e k es => by
  obtain ⟨w, ew, r⟩ := R.slot i s e
  rw [es] at ew; cases ew
  obtain ⟨q, kk⟩ := s
  cases kk with
  | fz => exact (k rfl).elim
  | own => obtain ⟨_, eb, _, c⟩ := r; cases eb; exact (c.dom hD).elim
  | lk => obtain ⟨_, eb, _, c⟩ := r; cases eb; exact (c.dom hD).elim
  | ro =>
    rcases r with r | ⟨_, eb, c⟩
    · exact r
    · cases eb; exact (c.dom hD).elim
/-- behind a block: the slots as they were, but for what was frozen meanwhile; what E holds may have changed -/
theorem blk_back {vs l : List Nat} {env1 env3 : En} {F1 F3 E : Ad} {H1 H3 : Hp} (R1 : Rep g F1 H1 σ env1) (hE : ∀ a, E a → ¬ F1 a ∧ Away g F1 H1 σ env1 a) (x : Ext F1 H1 (fun a => Own (wipe σ vs) (wipeE (lock env1 l) vs) a ∨ E a) F3 H3 (Own (wipe σ vs) env3)) (R3 : Rep g F3 H3 (wipe σ vs) env3) (er : EnvRel (wipeE (lock env1 l) vs) env3) :
    Ext F1 H1 (fun a => Own σ env1 a ∨ E a) F3 H3 (Own σ (unlock (restore env1 env3 vs) (lkOf env1 l))) ∧ Rep g F3 H3 σ (unlock (restore env1 env3 vs) (lkOf env1 l)) ∧ ∀ D, ¬ F1 D → Away g F1 H1 σ env1 D → Away g F3 H3 (wipe σ vs) env3 D → Away g F3 H3 σ (unlock (restore env1 env3 vs) (lkOf env1 l)) D := by
  have sub : ∀ a, (Own (wipe σ vs) (wipeE (lock env1 l) vs) a ∨ E a) → Own σ env1 a ∨ E a := fun a h => h.imp (fun h => h.wiped.lock) id
  have er2 := loop_rel er
  have nF : ∀ a, (Own (wipe σ vs) (wipeE (lock env1 l) vs) a ∨ E a) → ¬ F1 a := fun a h => (sub a h).elim (fun h => R1.ownF h) fun h => (hE a h).1
  have hl : env3.length = env1.length := by rw [er.len, wipeE_len, lock_len]
  have up : ∀ {q : PV} {w : V}, RepV g F1 H1 q w → RepV g F3 H3 q w := fun r => r.ext x nF
  -- an address of a wiped slot is not touched
  have noO : ∀ (i : Nat) (s : Slot) (b : Addr), i ∈ vs → env1[i]? = some (some s) → s.k ≠ .fz → σ[i]? = some (some (.ref b)) → RepC g F1 H1 b s.v → ¬ F1 b → ¬ (Own (wipe σ vs) (wipeE (lock env1 l) vs) b ∨ E b) := fun i s b hi e k es c nb h => by
    rcases h with ⟨j, y, ej, esj⟩ | h
    · obtain ⟨ej1, nj⟩ := wipeE_get ej
      have hij : j ≠ i := fun z => nj (z ▸ hi)
      exact nb (c.inF (R1.sep j i _ s b hij (lock_own ej1).1 rfl e k (wipe_some esj).1 es))
    · exact nb (c.inF ((hE b h).2 i s e k es))
  -- a slot behind
  have cases' : ∀ (i : Nat) (s : Slot), (unlock (restore env1 env3 vs) (lkOf env1 l))[i]? = some (some s) → (i ∈ vs ∧ env1[i]? = some (some s)) ∨ (i ∉ vs ∧ ∃ s3, env3[i]? = some (some s3) ∧ s3.v = s.v ∧ (s3 = s ∨ (s3.k.ex = true ∧ s.k.ex = true))) := fun i s e => by
    by_cases hi : i ∈ vs
    · left
      refine ⟨hi, ?_⟩
      obtain ⟨s0, e0, v0, h0⟩ := (unlock_lkr (restore env1 env3 vs) (lkOf env1 l)).back i s e
      have e0' := e0
      rw [restore_in hl.symm hi] at e0
      obtain ⟨u1, u2, u3⟩ := unlock_get (env := restore env1 env3 vs) (i := i) (is := lkOf env1 l)
      by_cases q : i ∈ lkOf env1 l
      · obtain ⟨_, p, hp⟩ := mem_lkOf.mp q
        rw [e0] at hp; cases hp
        have := u3 fun p z => (by rw [e0'] at z; cases z)
        rw [e, e0'] at this
        rw [e0]; exact this.symm
      · have := u1 q
        rw [e, e0'] at this
        rw [e0]; exact this.symm
    · right
      obtain ⟨s0, e0, v0, h0⟩ := (unlock_lkr (restore env1 env3 vs) (lkOf env1 l)).back i s e
      rw [restore_out hi] at e0
      exact ⟨hi, s0, e0, v0, h0⟩
  refine ⟨⟨fun b o e n => x.keep b o e fun q => n (sub b q), x.dom, x.mono, fun b h => (x.newF b h).imp id fun z => z.imp (sub b) id, fun b h => .inl (.inl (er2.own h))⟩, ⟨?_, fun i s e => ?_, fun i j y s b hij e1 k1 e2 k2 es ej => ?_, R3.dom⟩, fun D _ hD aw i s e k es => ?_⟩
  · rw [unlock_len, restore_len, hl]; exact R1.len
  · rcases cases' i s e with ⟨hi, e1⟩ | ⟨hi, s3, e3, v3, h3⟩
    · obtain ⟨w, ew, r⟩ := R1.slot i s e1
      refine ⟨w, ew, ?_⟩
      have key : ∀ b, w = .ref b → s.k ≠ .fz → RepC g F1 H1 b s.v → ¬ F1 b → RepC g F3 H3 b s.v ∧ ¬ F3 b := fun b eb k c nb => by
        subst eb
        have no := noO i s b hi e1 k ew c nb
        refine ⟨c.ext x nF no, fun h => ?_⟩
        rcases x.newF b h with h | h | h
        · exact nb h
        · exact no h
        · exact c.dom h
      obtain ⟨q, k⟩ := s
      cases k with
      | fz => exact up r
      | own =>
        obtain ⟨b, rfl, nb, c⟩ := r
        obtain ⟨c', nb'⟩ := key b rfl (fun h => nomatch h) c nb
        exact ⟨b, rfl, nb', c'⟩
      | lk =>
        obtain ⟨b, rfl, nb, c⟩ := r
        obtain ⟨c', nb'⟩ := key b rfl (fun h => nomatch h) c nb
        exact ⟨b, rfl, nb', c'⟩
      | ro =>
        rcases r with r | ⟨b, rfl, c⟩
        · exact .inl (up r)
        · by_cases nb : F1 b
          · refine .inr ⟨b, rfl, c.ext x nF fun h => nF b h nb⟩
          · exact .inr ⟨b, rfl, (key b rfl (fun h => nomatch h) c nb).1⟩
    · obtain ⟨w, ew, r⟩ := R3.slot i s3 e3
      rw [wipe_out hi] at ew
      refine ⟨w, ew, ?_⟩
      rcases h3 with rfl | ⟨h3, h3'⟩
      · exact r
      · obtain ⟨b, eb, nb, c⟩ := R3.exc e3 h3
        rw [wipe_out hi, ew] at eb; cases eb
        obtain ⟨q, k⟩ := s
        subst v3
        cases k with
        | fz => cases h3'
        | ro => cases h3'
        | own => exact ⟨b, rfl, nb, c⟩
        | lk => exact ⟨b, rfl, nb, c⟩
  · obtain ⟨y0, f1, g1⟩ := er2.back e1
    obtain ⟨s0, f2, g2⟩ := er2.back e2
    have k1' : y0.k.ex = true := by
      rcases g1 with rfl | ⟨z, _⟩
      · exact k1
      · rw [z]; rfl
    have k2' : s0.k ≠ .fz := by
      rcases g2 with rfl | ⟨z, _⟩
      · exact k2
      · rw [z]; exact fun h => nomatch h
    have r := R1.sep i j y0 s0 b hij f1 k1' f2 k2' es ej
    rcases g2 with rfl | ⟨z, _⟩
    · exact up r
    · obtain ⟨b', eb, nb, c⟩ := R1.exc f2 (by rw [z]; rfl)
      rw [ej] at eb; cases eb
      exact (nb (c.inF r)).elim
  · rcases cases' i s e with ⟨hi, e1⟩ | ⟨hi, s3, e3, v3, h3⟩
    · exact up (hD i s e1 k es)
    · have := aw i s3 e3 (by
        rcases h3 with rfl | ⟨h3, _⟩
        · exact k
        · intro z; rw [z] at h3; cases h3) (by rw [wipe_out hi]; exact es)
      rw [v3] at this
      exact this
end
end L2.Pz
set_option Elab.async false
set_option linter.all false
set_option maxRecDepth 100000
set_option maxHeartbeats 4000000
namespace L2.Pz
set_option autoImplicit false
open PySem PySem.Spec PyProof.Rows L2

/-! ## Pz15: list comprehensions -/
theorem relS_lookup (scope sc : Scope) (x : Str) : (relS scope sc).names.lookup x = (scope.names.lookup x).map fun k => if (k == .free && sc.kind == .function && sc.names.lookup x == some .cell) then .cell else k := by
  unfold relS
  simp only
  generalize scope.names = l
  induction l with
  | nil => rfl
  | cons y l ih =>
    obtain ⟨n, k⟩ := y
    simp only [List.map_cons]
    by_cases h : x = n
    · subst h
      split
      · rename_i hc
        rw [List.lookup_cons, List.lookup_cons]
        simp only [beq_self_eq_true]
        exact congrArg some (if_pos hc).symm
      · rename_i hc
        rw [List.lookup_cons, List.lookup_cons]
        simp only [beq_self_eq_true]
        exact congrArg some (if_neg hc).symm
    · have hb : (x == n) = false := beq_eq_false_iff_ne.mpr h
      split <;> (rw [List.lookup_cons, List.lookup_cons]; simp only [hb]; exact ih)
section
variable {g : Gw} {M : Nat → List Md} {C : Cl} {d : Nat} {N : List Str} {nf : Nf} {X : Cx}
theorem blk_loc {s : Shared} {H : Hp} {scope : Scope} {ce : Env} {fp : List Addr} (hce : ce.scope = relS scope X.env.scope) : ∀ x, locB scope x = true → Loc (X.blk s H scope ce fp).env.scope x ∧ ((X.blk s H scope ce fp).fn x = true ∨ (X.blk s H scope ce fp).env.scope.names.lookup x = some .local) := fun x h => by
  show Loc ce.scope x ∧ ((scope.names.lookup x == some .cell) = true ∨ ce.scope.names.lookup x = some .local)
  rw [hce]
  unfold locB at h
  unfold Loc
  rw [relS_lookup]
  split at h
  · rename_i e
    rw [e]
    exact ⟨.inl rfl, .inr rfl⟩
  · rename_i e
    rw [e]
    exact ⟨.inr rfl, .inl rfl⟩
  · cases h
theorem CxOk.blk (ok : CxOk g M C d N nf X) {s : Shared} {H : Hp} {scope : Scope} {ce : Env} {fp : List Addr} : CxOk g M C d N nf (X.blk s H scope ce fp) :=
  ⟨ok.hK, ok.hw, ok.hN, ok.calm, ok.nd, ok.room, rfl, ok.free, ok.cst, ok.fn⟩
/-- a clause's tests, by the pure meaning -/
def tIf (g : Gw) (M : Nat → List Md) (C : Cl) : List E → TT
  | [] => tYes
  | c :: _ => tTs g M C c
theorem tIf_run {ifs : List E} {σ : St} {H : Hp} {F : Ad} {env env' : En} {b : Bool} {K : Bool → Hp → Prop} (hl : ifs.length ≤ 1) (R : Rep g F H σ env) (e : evIfs M C ifs env = some (b, env')) (h : ∀ F1 H1, Ext F H (Own σ env) F1 H1 (Own σ env') → Rep g F1 H1 σ env' → K b H1) : tIf g M C ifs σ H K := by
  cases ifs with
  | nil => simp only [evIfs] at e; cases e; exact h F H .refl R
  | cons c cs =>
    cases cs with
    | cons _ _ => simp at hl
    | nil =>
      simp only [evIfs] at e
      split at e
      · rename_i x env1 h1
        split at e
        · rename_i h2; cases e; exact ⟨F, env, x, _, true, R, h1, h2, fun F1 H1 x1 R1 => h F1 H1 x1 R1⟩
        · rename_i h2; cases e; exact ⟨F, env, x, _, false, R, h1, h2, fun F1 H1 x1 R1 => h F1 H1 x1 R1⟩
        · cases e
      · cases e
theorem Ext.less {F F' : Ad} {H H' : Hp} {O O' O2 : Ad} (x : Ext F H O F' H' O') (h : ∀ a, O a → O2 a) : Ext F H O2 F' H' O' := x.wid h
theorem Ext.own' {F F' : Ad} {H H' : Hp} {O O' O2 : Ad} (x : Ext F H O F' H' O') (h : ∀ a, O2 a → O a ∨ H a = none) : Ext F H O F' H' O2 := ⟨x.keep, x.dom, x.mono, x.newF, h⟩
theorem Cons.ext2 {F0 H0 O0 F F' : _} {H : Hp} {σ : St} {env env' : En} {o : Opd} {v : V} {F6 E : Ad} {H6 : Hp} (c : Cons g F0 H0 O0 F H σ env o v F' env') (x : Ext F6 H6 E F H (Own σ env)) (h : HeldO g F H σ env (New H6 E) o v) : Ext F6 H6 E F' H (Own σ env') :=
  ⟨x.keep, x.dom, fun a ha => c.mono a (x.mono a ha), fun a ha => by
    rcases c.new a ha with q | ⟨q, z | z⟩
    · exact x.newF a q
    · obtain ⟨b, eb, _, _, nb, _⟩ := h.fresh z
      rw [q] at eb; cases eb
      exact .inr nb
    · exact .inr (x.newO a z), fun a ha => x.newO a (c.er.own ha)⟩
theorem Ext.updE {F F' E O' : Ad} {H H' : Hp} {D : Addr} {u : HO} (x : Ext F H E F' H' O') (hD : E D) : Ext F H E F' (upd H' D u) O' :=
  ⟨fun a o e n => by rw [upd_ne (fun z => n (by rw [z]; exact hD))]; exact x.keep a o e n, fun a e => by
    by_cases z : a = D
    · rw [z, upd_same] at e; cases e
    · rw [upd_ne z] at e; exact x.dom a e, x.mono, x.newF, x.newO⟩
/-- one more for the new list -/
theorem acc_step {F0 F H0 : _} {H : Hp} {σ : St} {env env' : En} {O0 : Ad} {D : Addr} {acc : List PV} {o : Opd} {v : V} {y : PV} (hD0 : H0 D = none) (R : Rep g F H σ env) (x : Ext F0 H0 O0 F H (Own σ env)) (hh : HeldO g F H σ env (New H0 O0) (.vl (.lst acc) true) (.ref D))
    (ho : HeldO g F H σ env (New H0 O0) o v) (ne : o.fr = true → v ≠ .ref D) (e : consume env o = some (y, env')) :
    ∃ F' vs, H D = some (.lst vs) ∧ vs.length = acc.length ∧ Ext F0 H0 O0 F' (upd H D (.lst (vs ++ [v]))) (Own σ env') ∧ Rep g F' (upd H D (.lst (vs ++ [v]))) σ env' ∧ EnvRel env env' ∧ HeldO g F' (upd H D (.lst (vs ++ [v]))) σ env' (New H0 O0) (.vl (.lst (acc ++ [y])) true) (.ref D) ∧
      ∀ (F6 E : Ad) (H6 : Hp), Ext F6 H6 E F H (Own σ env) → E D → HeldO g F H σ env (New H6 E) o v → Ext F6 H6 E F' (upd H D (.lst (vs ++ [v]))) (Own σ env') := by
  obtain ⟨F1, Cn, r⟩ := consume_ok R x ho e
  have hh1 := Cn.held R hh fun z _ w => ne z w.symm
  obtain ⟨D', eD, nf, c, nw, aw⟩ := hh1
  cases eD
  cases c with
  | lst eH l =>
    rename_i vs
    have R1 := Cn.rep.updA (u := .lst (vs ++ [v])) nf aw
    have x1 := Cn.ext
    have kp : ∀ b o, F1 b → H b = some o → (upd H D (.lst (vs ++ [v]))) b = some o := fun b o hb e => by rw [upd_ne (ne_nf nf hb)]; exact e
    refine ⟨F1, vs, eH, l.length.symm, ⟨fun b o e n => ?_, fun b e => ?_, x1.mono, x1.newF, x1.newO⟩, R1, Cn.er, ⟨D, rfl, nf, .lst upd_same ((l.append (.cons r .nil)).mono (fun _ h => h) kp), nw, aw.updA nf⟩, fun F6 E H6 x6 hD h6 => (Cn.ext2 x6 h6).updE hD⟩
    · have hb : b ≠ D := fun z => by rw [z, hD0] at e; cases e
      rw [upd_ne hb]; exact x1.keep b o e n
    · by_cases hb : b = D
      · rw [hb]; exact hD0
      · rw [upd_ne hb] at e; exact x1.dom b e
theorem own_ne {F : Ad} {H H0 : Hp} {σ : St} {env : En} {O0 : Ad} {o : Opd} {v : V} {D : Addr} {acc : List PV} {Fd : Ad} {Hd : Hp} {envd : En} {Nd : Ad} (Rd : Rep g Fd Hd σ envd) (hh : HeldO g Fd Hd σ envd Nd (.vl (.lst acc) true) (.ref D)) (ho : HeldO g F H σ env (New Hd (Own σ envd)) o v) : o.fr = true → v ≠ .ref D := fun f z => by
  obtain ⟨b, eb, _, _, nb, _⟩ := ho.fresh f
  rw [z] at eb; cases eb
  obtain ⟨_, eD, nf, c, _, aw⟩ := hh
  cases eD
  rcases nb with nb | nb
  · exact aw.notOwn Rd nf nb
  · exact c.dom nb
theorem own_map {is : List Nat} : (ownN N is).map (·.2) = is := by
  unfold ownN
  rw [List.map_map]
  exact List.map_id' is
theorem drop_cons {α : Type} {xs : List α} {i : Nat} {x : α} (h : xs[i]? = some x) : xs.drop i = x :: xs.drop (i + 1) := by
  obtain ⟨hl, e⟩ := List.getElem?_eq_some_iff.mp h
  rw [List.drop_eq_getElem_cons hl, e]
theorem lc_rd {tg : Tg} {it : E} {ifs : List E} {elt : E} (hl : ifs.length ≤ 1) {σ : St} {H : Hp} {Q : VK} {F : Ad} {env env' : En} {o : Opd} (R : Rep g F H σ env) (e : ev M C (.lc tg it ifs elt) env = some (o, env')) (fin : Fin g σ F H env o env' Q) :
    tLc (tIt g M C it) (gTg tg) (tIf g M C ifs) (tEv g M C elt) tg.slots σ H Q := by
  simp only [ev] at e
  split at e
  case h_2 => cases e
  rename_i x env1 h1
  split at e
  case h_2 => cases e
  rename_i xs l h2
  split at e
  case h_2 => cases e
  rename_i ys env3 h3
  split at e
  case isFalse => cases e
  rename_i hz
  cases e
  refine ⟨F, env, x, env1, xs, l, R, h1, h2, fun J F1 H1 x1 R1 wl0 D hD => ?_⟩
  have wl := wl0 (Own σ (lock env1 l)) fun a h => .inl h
  have R2 : Rep g F1 H1 (wipe σ tg.slots) (wipeE (lock env1 l) tg.slots) := (R1.lkr (lock_lkr env1 l)).wiped _
  have er3 : EnvRel (wipeE (lock env1 l) tg.slots) env3 := by
    refine lcGo_rel (a := wipeE (lock env1 l) tg.slots) (n := 0) (fun x env r env' ha ht => ?_) EnvRel.refl h3
    have hw := wipe_same ha
    split at ht
    · rename_i env3 hb
      rw [← hw] at hb ⊢
      split at ht
      · rename_i env4 h4
        split at ht
        · rename_i y env5 h5
          split at ht
          · rename_i y2 env6 h6
            cases ht
            exact turn_rel (fun i h => h) hb (((evIfs_rel ifs h4).trans (ev_rel elt h5)).trans (consume_rel h6))
          · cases ht
        · cases ht
      · rename_i env4 h4
        cases ht
        exact turn_rel (fun i h => h) hb (evIfs_rel ifs h4)
      · cases ht
    · cases ht
  generalize hturn : (fun (x : PV) (env : En) => match bindTg [] tg x env with
          | some env => match evIfs M C ifs env with
            | some (true, env) => match ev M C elt env with
              | some (y, env) => match consume env y with
                | some (y, env) => some (some y, wipeE env tg.slots)
                | none => none
              | none => none
            | some (false, env) => some ((none : Option PV), wipeE env tg.slots)
            | none => none
          | none => none) = turn at h3
  have subO : ∀ a, Own (wipe σ tg.slots) (wipeE (lock env1 l) tg.slots) a → Own σ (lock env1 l) a := fun a h => h.wiped
  refine ⟨fun i m Hi => m = xs.length - i ∧ i ≤ xs.length ∧ ∃ Fi envi acc rest, lcGo turn (xs.drop i) envi = some (rest, env3) ∧ ys = acc ++ rest ∧ Ext F1 H1 (Own (wipe σ tg.slots) (wipeE (lock env1 l) tg.slots)) Fi Hi (Own (wipe σ tg.slots) envi) ∧ Rep g Fi Hi (wipe σ tg.slots) envi ∧
      HeldO g Fi Hi (wipe σ tg.slots) envi (New H1 (Own (wipe σ tg.slots) (wipeE (lock env1 l) tg.slots))) (.vl (.lst acc) true) (.ref D), ⟨xs.length, by simp, Nat.zero_le _, F1, wipeE (lock env1 l) tg.slots, [], ys, h3, rfl, ?_, ?_, ?_⟩, ?_⟩
  · exact (AllocR.newL (g := g) hD R1.dom .nil).ext _
  · exact (AllocR.newL (g := g) hD R1.dom .nil).rep R2
  · exact (AllocR.newL (g := g) hD R1.dom .nil).held R2
  rintro i m Hi ⟨rfl, hi, Fi, envi, acc, rest, hg, hy, xi, Ri, hh⟩
  by_cases hlt : i < xs.length
  · right
    have hx : xs[i]? = some xs[i] := List.getElem?_eq_getElem hlt
    have xw := xi.wid subO
    refine ⟨wl.go _ _ _ xw i _ hx, fun H' => ∃ F' envi' acc' rest', lcGo turn (xs.drop (i + 1)) envi' = some (rest', env3) ∧ ys = acc' ++ rest' ∧ Ext F1 H1 (Own (wipe σ tg.slots) (wipeE (lock env1 l) tg.slots)) F' H' (Own (wipe σ tg.slots) envi') ∧ Rep g F' H' (wipe σ tg.slots) envi' ∧
      HeldO g F' H' (wipe σ tg.slots) envi' (New H1 (Own (wipe σ tg.slots) (wipeE (lock env1 l) tg.slots))) (.vl (.lst acc') true) (.ref D), fun H' hn => ⟨xs.length - (i + 1), by omega, rfl, hlt, hn⟩, fun v H' hyl => ?_⟩
    obtain ⟨F2, al⟩ := wl.yld _ _ _ xw i _ v H' hx hyl
    have R3 := al.rep Ri
    have hh3 := hh.ext Ri (al.ext _) .refl fun _ z => z
    have x3 := xi.tr (al.ext (Own (wipe σ tg.slots) envi))
    rw [drop_cons hx] at hg
    simp only [lcGo] at hg
    have ht : _ = turn xs[i] envi := congrFun (congrFun hturn xs[i]) envi
    rw [← ht] at hg
    cases hb : bindTg [] tg xs[i] envi with
    | none => rw [hb] at hg; cases hg
    | some enva =>
      rw [hb] at hg
      simp only at hg
      refine bind_ok R3 hb (al.val rfl) fun σ1 R4 o4 a4 g4 l4 => ?_
      have hw : wipe σ1 tg.slots = wipe σ tg.slots := by rw [wipe_ext l4 g4, wipe_wipe]
      have x4 : Ext F1 H1 (Own (wipe σ tg.slots) (wipeE (lock env1 l) tg.slots)) F2 H' (Own σ1 enva) := x3.sub o4
      have hh4 : HeldO g F2 H' σ1 enva (New H1 (Own (wipe σ tg.slots) (wipeE (lock env1 l) tg.slots))) (.vl (.lst acc) true) (.ref D) := by
        obtain ⟨_, eD, q1, q2, q3, q4⟩ := hh3
        cases eD
        exact ⟨D, rfl, q1, q2, q3, a4 _ q4⟩
      refine ⟨hw, ?_⟩
      cases hif : evIfs M C ifs enva with
      | none => rw [hif] at hg; cases hg
      | some be =>
        obtain ⟨b, envb⟩ := be
        rw [hif] at hg
        refine tIf_run hl R4 hif fun F5 H5 x5 R5 => ?_
        have hh5 := hh4.ext R4 x5 (evIfs_rel _ hif) fun _ z => z
        have x5' := x4.tr x5
        cases b with
        | false =>
          rw [if_neg Bool.false_ne_true]
          simp only at hg
          refine ⟨F5, wipeE envb tg.slots, acc, rest, hg, hy, ?_, ?_, ?_⟩
          · have := x5'.sub fun a h => Own.wiped (vs := tg.slots) h
            rw [hw] at this; exact this
          · rw [← hw]; exact R5.wiped _
          · obtain ⟨_, eD, q1, q2, q3, q4⟩ := hh5
            cases eD
            refine ⟨D, rfl, q1, q2, q3, ?_⟩
            rw [← hw]; exact q4.wiped
        | true =>
          rw [if_pos rfl]
          simp only at hg
          cases hel : ev M C elt envb with
          | none => rw [hel] at hg; cases hg
          | some oe =>
            obtain ⟨y, envc⟩ := oe
            rw [hel] at hg
            simp only at hg
            cases hco : consume envc y with
            | none => rw [hco] at hg; cases hg
            | some pe =>
              obtain ⟨py, envd⟩ := pe
              rw [hco] at hg
              simp only at hg
              split at hg
              case h_2 => cases hg
              rename_i rest' env3' hr
              cases hg
              refine ⟨F5, envb, y, envc, R5, hel, ok_c hco, fun w F6 H6 x6 R6 hw6 => ?_⟩
              have hh6 := hh5.ext R5 x6 (ev_rel _ hel) fun _ z => z
              have ne := own_ne (H0 := H6) (O0 := fun _ => True) R5 hh5 hw6
              obtain ⟨F7, vs, q1, q2, q3, q4, q5, q6, _⟩ := acc_step hD R6 (x5'.tr x6) hh6 (hw6.wid (x5'.new)) ne hco
              refine ⟨vs, q1, ?_, F7, wipeE envd tg.slots, acc ++ [py], rest', hr, ?_, ?_, ?_, ?_⟩
              · rw [q2]
                rw [hy, List.length_append, List.length_cons] at hz
                omega
              · rw [hy, List.append_assoc]; rfl
              · have := q3.sub fun a h => Own.wiped (vs := tg.slots) h
                rw [hw] at this; exact this
              · rw [← hw]; exact q4.wiped _
              · obtain ⟨_, eD, z1, z2, z3, z4⟩ := q6
                cases eD
                refine ⟨D, rfl, z1, z2, z3, ?_⟩
                rw [← hw]; exact z4.wiped
  · left
    have hi' : i = xs.length := by omega
    subst hi'
    rw [List.drop_length] at hg
    simp only [lcGo] at hg
    cases hg
    rw [List.append_nil] at hy
    subst hy
    refine ⟨wl.stop _ _ _ (xi.wid subO), ?_⟩
    obtain ⟨b1, b2, b3⟩ := blk_back (E := fun _ => False) R1 (fun _ h => h.elim) (xi.wid fun _ h => .inl h) Ri er3
    have b1 : Ext F1 H1 (Own σ env1) Fi Hi _ := b1.less fun a h => h.elim id False.elim
    obtain ⟨_, eD, q1, q2, q3, q4⟩ := hh
    cases eD
    refine fin (.ref D) Fi Hi (x1.tr b1) b2 ⟨D, rfl, q1, q2, ?_, b3 D (fun h => R1.dom D h hD) (away_none R1 hD) q4⟩
    exact .inr (x1.dom D hD)
theorem pts_if {ifs : List E} {ifs' : List Expr} (h : chkIf N nf X.env.scope ifs ifs' = true) (ih : ∀ c ∈ ifs, ∀ e, chkE N nf X.env.scope c e = true → PT X e (tTs g M C c)) : PTs X ifs' (tIf g M C ifs) ∧ ifs.length ≤ 1 := by
  cases ifs with
  | nil =>
    cases ifs' with
    | nil => exact ⟨pts_nil, Nat.zero_le _⟩
    | cons _ _ => simp [chkIf] at h
  | cons c cs =>
    cases cs with
    | cons _ _ => simp [chkIf] at h
    | nil =>
      cases ifs' with
      | nil => simp [chkIf] at h
      | cons e es =>
        cases es with
        | cons _ _ => simp [chkIf] at h
        | nil =>
          simp only [chkIf] at h
          exact ⟨pts_one (ih c (List.mem_cons_self ..) e h), Nat.le_refl _⟩
theorem fold_ok {e : Expr} (h : notSetE e = true) (env : Env) (x : Value) : foldedSetIterable e env x = pure x := by
  cases e <;> first | rfl | cases h
end
end L2.Pz
set_option Elab.async false
set_option linter.all false
set_option maxRecDepth 100000
set_option maxHeartbeats 4000000
namespace L2.Pz
set_option autoImplicit false
open PySem PySem.Spec PyProof.Rows L2

/-! ## Pz16: list comprehensions with two clauses -/
section
variable {g : Gw} {M : Nat → List Md} {C : Cl} {d : Nat} {N : List Str} {nf : Nf} {X : Cx}
variable (M C) in
abbrev turn1F (vs1 : List Nat) (tg1 : Tg) (ifs1 : List E) (elt : E) : PV → En → Option (Option PV × En) := fun z env => match bindTg [] tg1 z env with
  | some env => match evIfs M C ifs1 env with
    | some (true, env) => match ev M C elt env with
      | some (y, env) => match consume env y with
        | some (y, env) => some (some y, wipeE env vs1)
        | none => none
      | none => none
    | some (false, env) => some (none, wipeE env vs1)
    | none => none
  | none => none
theorem turn1_rel {tg1 : Tg} {ifs1 : List E} {elt : E} {a : En} {zs ys : List PV} {env3 : En} (h3 : lcGo (turn1F M C tg1.slots tg1 ifs1 elt) zs (wipeE a tg1.slots) = some (ys, env3)) : EnvRel (wipeE a tg1.slots) env3 := by
  refine lcGo_rel (a := wipeE a tg1.slots) (n := 0) (fun x env r env' ha ht => ?_) EnvRel.refl h3
  have hw := wipe_same ha
  simp only [turn1F] at ht
  split at ht
  · rename_i env3 hb
    rw [← hw] at hb ⊢
    split at ht
    · rename_i env4 h4
      split at ht
      · rename_i y env5 h5
        split at ht
        · rename_i y2 env6 h6
          cases ht
          exact turn_rel (fun i h => h) hb (((evIfs_rel ifs1 h4).trans (ev_rel elt h5)).trans (consume_rel h6))
        · cases ht
      · cases ht
    · rename_i env4 h4
      cases ht
      exact turn_rel (fun i h => h) hb (evIfs_rel ifs1 h4)
    · cases ht
  · cases ht
variable (M C) in
abbrev turn2F (tg : Tg) (ifs : List E) (tg1 : Tg) (it1 : E) (ifs1 : List E) (elt : E) : PV → En → Option (List PV × En) := fun x env => match bindTg [] tg x env with
  | some env => match evIfs M C ifs env with
    | some (true, env) => match ev M C it1 env with
      | some (x1, env) => match walkO env x1 with
        | some (zs, o1) => match lcGo (turn1F M C tg1.slots tg1 ifs1 elt) zs (wipeE (lock env o1) tg1.slots) with
          | some (ys, env') => some (ys, wipeE (unlock (restore env env' tg1.slots) (lkOf env o1)) (tg.slots ++ tg1.slots))
          | none => none
        | none => none
      | none => none
    | some (false, env) => some ([], wipeE env (tg.slots ++ tg1.slots))
    | none => none
  | none => none
theorem turn2_rel {tg tg1 : Tg} {ifs ifs1 : List E} {it1 elt : E} {a : En} {xs ys : List PV} {env3 : En} (h3 : lcGo2 (turn2F M C tg ifs tg1 it1 ifs1 elt) xs (wipeE a (tg.slots ++ tg1.slots)) = some (ys, env3)) : EnvRel (wipeE a (tg.slots ++ tg1.slots)) env3 := by
  refine lcGo2_rel (a := wipeE a (tg.slots ++ tg1.slots)) (fun x env r env' ha ht => ?_) EnvRel.refl h3
  have hw := wipe_same ha
  simp only [turn2F] at ht
  split at ht
  · rename_i env3 hb
    rw [← hw] at hb ⊢
    split at ht
    · rename_i env4 h4
      split at ht
      · rename_i x1 env5 h5
        split at ht
        · rename_i zs o1 h6
          split at ht
          · rename_i ys2 env6 h7
            cases ht
            exact turn_rel (fun i h => List.mem_append_left _ h) hb (((evIfs_rel ifs h4).trans (ev_rel it1 h5)).trans (loop_rel (turn1_rel h7)))
          · cases ht
        · cases ht
      · cases ht
    · rename_i env4 h4
      cases ht
      exact turn_rel (fun i h => List.mem_append_left _ h) hb (evIfs_rel ifs h4)
    · cases ht
  · cases ht
theorem lc2_rd {tg tg1 : Tg} {it it1 : E} {ifs ifs1 : List E} {elt : E} (hl : ifs.length ≤ 1) (hl1 : ifs1.length ≤ 1) {σ : St} {H : Hp} {Q : VK} {F : Ad} {env env' : En} {o : Opd} (R : Rep g F H σ env) (e : ev M C (.lc2 tg it ifs tg1 it1 ifs1 elt) env = some (o, env')) (fin : Fin g σ F H env o env' Q) :
    tLc2 (tIt g M C it) (gTg tg) (tIf g M C ifs) (tIt g M C it1) (gTg tg1) (tIf g M C ifs1) (tEv g M C elt) (tg.slots ++ tg1.slots) tg1.slots σ H Q := by
  simp only [ev] at e
  split at e
  case h_2 => cases e
  rename_i x env1 h1
  split at e
  case h_2 => cases e
  rename_i xs l h2
  split at e
  case h_2 => cases e
  rename_i ys env3 h3
  split at e
  case isFalse => cases e
  rename_i hz
  cases e
  have h3 : lcGo2 (turn2F M C tg ifs tg1 it1 ifs1 elt) xs (wipeE (lock env1 l) (tg.slots ++ tg1.slots)) = some (ys, env3) := h3
  refine ⟨F, env, x, env1, xs, l, R, h1, h2, fun J F1 H1 x1 R1 wl0 D hD => ?_⟩
  have wl := wl0 (Own σ (lock env1 l)) fun a h => .inl h
  have er3 := turn2_rel h3
  generalize hvs : tg.slots ++ tg1.slots = vs at h3 er3 ⊢
  have sub0 : ∀ i ∈ tg.slots, i ∈ vs := fun i h => by rw [← hvs]; exact List.mem_append_left _ h
  have sub1 : ∀ i ∈ tg1.slots, i ∈ vs := fun i h => by rw [← hvs]; exact List.mem_append_right _ h
  have R2 : Rep g F1 H1 (wipe σ vs) (wipeE (lock env1 l) vs) := (R1.lkr (lock_lkr env1 l)).wiped _
  generalize hturn : turn2F M C tg ifs tg1 it1 ifs1 elt = turn at h3
  have subO : ∀ a, Own (wipe σ vs) (wipeE (lock env1 l) vs) a → Own σ (lock env1 l) a := fun a h => h.wiped
  refine ⟨fun i m Hi => m = xs.length - i ∧ i ≤ xs.length ∧ ∃ Fi envi acc rest, lcGo2 turn (xs.drop i) envi = some (rest, env3) ∧ ys = acc ++ rest ∧ Ext F1 H1 (Own (wipe σ vs) (wipeE (lock env1 l) vs)) Fi Hi (Own (wipe σ vs) envi) ∧ Rep g Fi Hi (wipe σ vs) envi ∧
      HeldO g Fi Hi (wipe σ vs) envi (New H1 (Own (wipe σ vs) (wipeE (lock env1 l) vs))) (.vl (.lst acc) true) (.ref D), ⟨xs.length, by simp, Nat.zero_le _, F1, wipeE (lock env1 l) vs, [], ys, h3, rfl, ?_, ?_, ?_⟩, ?_⟩
  · exact (AllocR.newL (g := g) hD R1.dom .nil).ext _
  · exact (AllocR.newL (g := g) hD R1.dom .nil).rep R2
  · exact (AllocR.newL (g := g) hD R1.dom .nil).held R2
  rintro i m Hi ⟨rfl, hi, Fi, envi, acc, rest, hg, hy, xi, Ri, hh⟩
  by_cases hlt : i < xs.length
  · right
    have hx : xs[i]? = some xs[i] := List.getElem?_eq_getElem hlt
    have xw := xi.wid subO
    refine ⟨wl.go _ _ _ xw i _ hx, fun H' => ∃ F' envi' acc' rest', lcGo2 turn (xs.drop (i + 1)) envi' = some (rest', env3) ∧ ys = acc' ++ rest' ∧ Ext F1 H1 (Own (wipe σ vs) (wipeE (lock env1 l) vs)) F' H' (Own (wipe σ vs) envi') ∧ Rep g F' H' (wipe σ vs) envi' ∧
      HeldO g F' H' (wipe σ vs) envi' (New H1 (Own (wipe σ vs) (wipeE (lock env1 l) vs))) (.vl (.lst acc') true) (.ref D), fun H' hn => ⟨xs.length - (i + 1), by omega, rfl, hlt, hn⟩, fun v H' hyl => ?_⟩
    obtain ⟨F2, al⟩ := wl.yld _ _ _ xw i _ v H' hx hyl
    have R3 := al.rep Ri
    have hh3 := hh.ext Ri (al.ext _) .refl fun _ z => z
    have x3 := xi.tr (al.ext (Own (wipe σ vs) envi))
    rw [drop_cons hx] at hg
    simp only [lcGo2] at hg
    have ht : turn2F M C tg ifs tg1 it1 ifs1 elt xs[i] envi = turn xs[i] envi := congrFun (congrFun hturn xs[i]) envi
    rw [← ht] at hg
    simp only [turn2F, hvs] at hg
    cases hb : bindTg [] tg xs[i] envi with
    | none => rw [hb] at hg; cases hg
    | some enva =>
      rw [hb] at hg
      simp only at hg
      refine bind_ok R3 hb (al.val rfl) fun σ1 R4 o4 a4 g4 l4 => ?_
      have hw : wipe σ1 vs = wipe σ vs := by rw [wipe_ext l4 fun j hj => g4 j fun z => hj (sub0 j z), wipe_wipe]
      have x4 : Ext F1 H1 (Own (wipe σ vs) (wipeE (lock env1 l) vs)) F2 H' (Own σ1 enva) := x3.sub o4
      have hh4 : HeldO g F2 H' σ1 enva (New H1 (Own (wipe σ vs) (wipeE (lock env1 l) vs))) (.vl (.lst acc) true) (.ref D) := by
        obtain ⟨_, eD, q1, q2, q3, q4⟩ := hh3
        cases eD
        exact ⟨D, rfl, q1, q2, q3, a4 _ q4⟩
      refine ⟨hw, ?_⟩
      cases hif : evIfs M C ifs enva with
      | none => rw [hif] at hg; cases hg
      | some be =>
        obtain ⟨b, envb⟩ := be
        rw [hif] at hg
        refine tIf_run hl R4 hif fun F5 H5 x5 R5 => ?_
        have hh5 := hh4.ext R4 x5 (evIfs_rel _ hif) fun _ z => z
        have x5' := x4.tr x5
        -- back at the outer loop
        have back : ∀ {Fe : Ad} {He : Hp} {enve : En} {acc' rest' : List PV}, lcGo2 turn (xs.drop (i + 1)) (wipeE enve vs) = some (rest', env3) → ys = acc' ++ rest' → Ext F1 H1 (Own (wipe σ vs) (wipeE (lock env1 l) vs)) Fe He (Own σ1 enve) → Rep g Fe He σ1 enve →
            HeldO g Fe He σ1 enve (New H1 (Own (wipe σ vs) (wipeE (lock env1 l) vs))) (.vl (.lst acc') true) (.ref D) → ∃ F' envi' acc' rest', lcGo2 turn (xs.drop (i + 1)) envi' = some (rest', env3) ∧ ys = acc' ++ rest' ∧ Ext F1 H1 (Own (wipe σ vs) (wipeE (lock env1 l) vs)) F' He (Own (wipe σ vs) envi') ∧ Rep g F' He (wipe σ vs) envi' ∧
            HeldO g F' He (wipe σ vs) envi' (New H1 (Own (wipe σ vs) (wipeE (lock env1 l) vs))) (.vl (.lst acc') true) (.ref D) := by
          intro Fe He enve acc' rest' g1 g2 g3 g4 g5
          refine ⟨Fe, wipeE enve vs, acc', rest', g1, g2, ?_, ?_, ?_⟩
          · have := g3.sub fun a h => Own.wiped (vs := vs) h
            rw [hw] at this; exact this
          · rw [← hw]; exact g4.wiped _
          · obtain ⟨_, eD, q1, q2, q3, q4⟩ := g5
            cases eD
            refine ⟨D, rfl, q1, q2, q3, ?_⟩
            rw [← hw]; exact q4.wiped
        cases b with
        | false =>
          rw [if_neg Bool.false_ne_true]
          simp only at hg
          split at hg
          case h_2 => cases hg
          rename_i rest' env3' hr
          cases hg
          exact back hr hy x5' R5 hh5
        | true =>
          rw [if_pos rfl]
          simp only at hg
          cases hi1 : ev M C it1 envb with
          | none => rw [hi1] at hg; cases hg
          | some xe =>
          obtain ⟨w1, env5⟩ := xe
          rw [hi1] at hg
          simp only at hg
          cases hwk : walkO env5 w1 with
          | none => rw [hwk] at hg; cases hg
          | some zl =>
          obtain ⟨zs0, l1⟩ := zl
          rw [hwk] at hg
          simp only at hg
          cases hlc : lcGo (turn1F M C tg1.slots tg1 ifs1 elt) zs0 (wipeE (lock env5 l1) tg1.slots) with
          | none =>
            have hlc' := hlc
            rw [hlc'] at hg; cases hg
          | some ze =>
          obtain ⟨zs, env6⟩ := ze
          have hlc' := hlc
          rw [hlc'] at hg
          simp only at hg
          split at hg
          case h_2 => cases hg
          rename_i rest' env3' hr
          cases hg
          have er6 := turn1_rel hlc
          refine ⟨F5, envb, w1, env5, zs0, l1, R5, hi1, hwk, fun J1 F6 H6 x6 R6 wl10 => ?_⟩
          have old : OldA g F5 H5 σ1 envb D := by
            obtain ⟨_, eD, q1, q2, q3, q4⟩ := hh5
            cases eD
            exact ⟨q2.dom, q1, q4⟩
          have wl1 := wl10 (fun a => Own σ1 (lock env5 l1) a ∨ a = D) fun a h => h.imp id fun z => by rw [z]; exact old
          have hh6 := hh5.ext R5 x6 (ev_rel _ hi1) fun _ z => z
          have x6' := x5'.tr x6
          have R7 : Rep g F6 H6 (wipe σ1 tg1.slots) (wipeE (lock env5 l1) tg1.slots) := (R6.lkr (lock_lkr env5 l1)).wiped _
          have subO1 : ∀ a, (Own (wipe σ1 tg1.slots) (wipeE (lock env5 l1) tg1.slots) a ∨ a = D) → (Own σ1 (lock env5 l1) a ∨ a = D) := fun a h => h.imp (fun h => h.wiped) id
          have hD6 : ¬ F6 D ∧ Away g F6 H6 σ1 env5 D := by
            obtain ⟨_, eD, q1, q2, q3, q4⟩ := hh6
            cases eD
            exact ⟨q1, q4⟩
          generalize hturn1 : turn1F M C tg1.slots tg1 ifs1 elt = turn1 at hlc
          refine ⟨fun j k Hj => k = zs0.length - j ∧ j ≤ zs0.length ∧ ∃ Fj envj acc1 rest1, lcGo turn1 (zs0.drop j) envj = some (rest1, env6) ∧ zs = acc1 ++ rest1 ∧ Ext F6 H6 (fun a => Own (wipe σ1 tg1.slots) (wipeE (lock env5 l1) tg1.slots) a ∨ a = D) Fj Hj (Own (wipe σ1 tg1.slots) envj) ∧
              Ext F1 H1 (Own (wipe σ vs) (wipeE (lock env1 l) vs)) Fj Hj (Own (wipe σ1 tg1.slots) envj) ∧ Rep g Fj Hj (wipe σ1 tg1.slots) envj ∧ HeldO g Fj Hj (wipe σ1 tg1.slots) envj (New H1 (Own (wipe σ vs) (wipeE (lock env1 l) vs))) (.vl (.lst (acc ++ acc1)) true) (.ref D),
            ⟨zs0.length, by simp, Nat.zero_le _, F6, wipeE (lock env5 l1) tg1.slots, [], zs, hlc, rfl, ?_, ?_, R7, ?_⟩, ?_⟩
          · exact Ext.refl.wid fun _ h => .inl h
          · exact x6'.sub fun a h => h.wiped.lock
          · rw [List.append_nil]
            obtain ⟨_, eD, q1, q2, q3, q4⟩ := hh6
            cases eD
            exact ⟨D, rfl, q1, q2, q3, (q4.lkr (lock_lkr env5 l1)).wiped⟩
          rintro j k Hj ⟨rfl, hj, Fj, envj, acc1, rest1, hg1, hy1, xj, xj1, Rj, hhj⟩
          by_cases hltj : j < zs0.length
          · right
            have hzj : zs0[j]? = some zs0[j] := List.getElem?_eq_getElem hltj
            have xwj := xj.wid subO1
            refine ⟨wl1.go _ _ _ xwj j _ hzj, fun H' => ∃ F' envj' acc1' rest1', lcGo turn1 (zs0.drop (j + 1)) envj' = some (rest1', env6) ∧ zs = acc1' ++ rest1' ∧ Ext F6 H6 (fun a => Own (wipe σ1 tg1.slots) (wipeE (lock env5 l1) tg1.slots) a ∨ a = D) F' H' (Own (wipe σ1 tg1.slots) envj') ∧
              Ext F1 H1 (Own (wipe σ vs) (wipeE (lock env1 l) vs)) F' H' (Own (wipe σ1 tg1.slots) envj') ∧ Rep g F' H' (wipe σ1 tg1.slots) envj' ∧ HeldO g F' H' (wipe σ1 tg1.slots) envj' (New H1 (Own (wipe σ vs) (wipeE (lock env1 l) vs))) (.vl (.lst (acc ++ acc1')) true) (.ref D),
              fun H' hn => ⟨zs0.length - (j + 1), by omega, rfl, hltj, hn⟩, fun v8 H8 hyl8 => ?_⟩
            obtain ⟨F8, al8⟩ := wl1.yld _ _ _ xwj j _ v8 H8 hzj hyl8
            have R8 := al8.rep Rj
            have hh8 := hhj.ext Rj (al8.ext _) .refl fun _ z => z
            have x8 := xj.tr (al8.ext (Own (wipe σ1 tg1.slots) envj))
            have x81 := xj1.tr (al8.ext (Own (wipe σ1 tg1.slots) envj))
            rw [drop_cons hzj] at hg1
            simp only [lcGo] at hg1
            have ht1 : turn1F M C tg1.slots tg1 ifs1 elt zs0[j] envj = turn1 zs0[j] envj := congrFun (congrFun hturn1 zs0[j]) envj
            rw [← ht1] at hg1
            simp only [turn1F] at hg1
            cases hb1 : bindTg [] tg1 zs0[j] envj with
            | none => rw [hb1] at hg1; cases hg1
            | some enva1 =>
            rw [hb1] at hg1
            simp only at hg1
            refine bind_ok R8 hb1 (al8.val rfl) fun σ2 R9 o9 a9 g9 l9 => ?_
            have hw1 : wipe σ2 tg1.slots = wipe σ1 tg1.slots := by rw [wipe_ext l9 g9, wipe_wipe]
            have x9 : Ext F6 H6 (fun a => Own (wipe σ1 tg1.slots) (wipeE (lock env5 l1) tg1.slots) a ∨ a = D) F8 H8 (Own σ2 enva1) := x8.sub o9
            have x91 : Ext F1 H1 (Own (wipe σ vs) (wipeE (lock env1 l) vs)) F8 H8 (Own σ2 enva1) := x81.sub o9
            have hh9 : HeldO g F8 H8 σ2 enva1 (New H1 (Own (wipe σ vs) (wipeE (lock env1 l) vs))) (.vl (.lst (acc ++ acc1)) true) (.ref D) := by
              obtain ⟨_, eD, q1, q2, q3, q4⟩ := hh8
              cases eD
              exact ⟨D, rfl, q1, q2, q3, a9 _ q4⟩
            refine ⟨hw1, ?_⟩
            cases hif1 : evIfs M C ifs1 enva1 with
            | none => rw [hif1] at hg1; cases hg1
            | some be1 =>
            obtain ⟨b1, envb1⟩ := be1
            rw [hif1] at hg1
            refine tIf_run hl1 R9 hif1 fun Fa Ha xa Ra => ?_
            have hha := hh9.ext R9 xa (evIfs_rel _ hif1) fun _ z => z
            have xa' := x9.tr xa
            have xa1 := x91.tr xa
            cases b1 with
            | false =>
              rw [if_neg Bool.false_ne_true]
              simp only at hg1
              refine ⟨Fa, wipeE envb1 tg1.slots, acc1, rest1, hg1, hy1, ?_, ?_, ?_, ?_⟩
              · have := xa'.sub fun a h => Own.wiped (vs := tg1.slots) h
                rw [hw1] at this; exact this
              · have := xa1.sub fun a h => Own.wiped (vs := tg1.slots) h
                rw [hw1] at this; exact this
              · rw [← hw1]; exact Ra.wiped _
              · obtain ⟨_, eD, q1, q2, q3, q4⟩ := hha
                cases eD
                refine ⟨D, rfl, q1, q2, q3, ?_⟩
                rw [← hw1]; exact q4.wiped
            | true =>
              rw [if_pos rfl]
              simp only at hg1
              cases hel : ev M C elt envb1 with
              | none => rw [hel] at hg1; cases hg1
              | some oe =>
              obtain ⟨y, envc⟩ := oe
              rw [hel] at hg1
              simp only at hg1
              cases hco : consume envc y with
              | none => rw [hco] at hg1; cases hg1
              | some pe =>
              obtain ⟨py, envd⟩ := pe
              rw [hco] at hg1
              simp only at hg1
              split at hg1
              case h_2 => cases hg1
              rename_i rest2 env62 hr1
              cases hg1
              refine ⟨Fa, envb1, y, envc, Ra, hel, ok_c hco, fun w Fb Hb xb Rb hwb => ?_⟩
              have hhb := hha.ext Ra xb (ev_rel _ hel) fun _ z => z
              have ne := own_ne (H0 := Hb) (O0 := fun _ => True) Ra hha hwb
              obtain ⟨Fc, ws, q1, q2, q3, q4, q5, q6, q7⟩ := acc_step hD Rb (xa1.tr xb) hhb (hwb.wid (xa1.new)) ne hco
              have q8 := q7 F6 _ H6 (xa'.tr xb) (.inr rfl) (hwb.wid (xa'.new))
              refine ⟨ws, q1, ?_, Fc, wipeE envd tg1.slots, acc1 ++ [py], rest2, hr1, ?_, ?_, ?_, ?_, ?_⟩
              · rw [q2]
                rw [hy, hy1] at hz
                simp only [List.length_append, List.length_cons] at hz ⊢
                omega
              · rw [hy1, List.append_assoc]; rfl
              · have := q8.sub fun a h => Own.wiped (vs := tg1.slots) h
                rw [hw1] at this; exact this
              · have := q3.sub fun a h => Own.wiped (vs := tg1.slots) h
                rw [hw1] at this; exact this
              · rw [← hw1]; exact q4.wiped _
              · obtain ⟨_, eD, z1, z2, z3, z4⟩ := q6
                cases eD
                rw [List.append_assoc] at z2
                refine ⟨D, rfl, z1, z2, z3, ?_⟩
                rw [← hw1]; exact z4.wiped
          · left
            have hj' : j = zs0.length := by omega
            subst hj'
            rw [List.drop_length] at hg1
            simp only [lcGo] at hg1
            cases hg1
            rw [List.append_nil] at hy1
            subst hy1
            refine ⟨wl1.stop _ _ _ (xj.wid subO1), ?_⟩
            obtain ⟨b1, b2, b3⟩ := blk_back (E := fun a => a = D) R6 (fun a h => by rw [h]; exact hD6) xj Rj er6
            refine back (acc' := acc ++ zs) hr (by rw [List.append_assoc]; exact hy) (xj1.own' fun a h => x6'.newO a ((loop_rel er6).own h)) b2 ?_
            obtain ⟨_, eD, q1, q2, q3, q4⟩ := hhj
            cases eD
            exact ⟨D, rfl, q1, q2, q3, b3 D hD6.1 hD6.2 q4⟩
  · left
    have hi' : i = xs.length := by omega
    subst hi'
    rw [List.drop_length] at hg
    simp only [lcGo2] at hg
    cases hg
    rw [List.append_nil] at hy
    subst hy
    refine ⟨wl.stop _ _ _ (xi.wid subO), ?_⟩
    obtain ⟨b1, b2, b3⟩ := blk_back (E := fun _ => False) R1 (fun _ h => h.elim) (xi.wid fun _ h => .inl h) Ri er3
    have b1 : Ext F1 H1 (Own σ env1) Fi Hi _ := b1.less fun a h => h.elim id False.elim
    obtain ⟨_, eD, q1, q2, q3, q4⟩ := hh
    cases eD
    rw [hvs] at fin
    refine fin (.ref D) Fi Hi (x1.tr b1) b2 ⟨D, rfl, q1, q2, ?_, b3 D (fun h => R1.dom D h hD) (away_none R1 hD) q4⟩
    exact .inr (x1.dom D hD)
end
end L2.Pz
set_option Elab.async false
set_option linter.all false
set_option maxRecDepth 100000
set_option maxHeartbeats 4000000
namespace L2.Pz
set_option autoImplicit false
open PySem PySem.Spec PyProof.Rows L2

/-! ## Pz17: methods -/
section
variable {g : Gw} {M : Nat → List Md} {C : Cl} {d : Nat} {N : List Str} {nf : Nf} {X : Cx} {F F0 F' : Ad} {H H0 H' : Hp} {σ : St} {env env' : En} {O0 N0 : Ad} {o : Opd} {v : V} {p p' : PV} {a : Addr} {i : Nat} {f : Bool}
theorem base_ok {o : Expr} (h : plainO o = true) (m : Str) (env : Env) : attributeBase o m env (eval o env) = eval o env := by
  cases o with
  | Call f as ks q =>
    cases f with
    | Name x px =>
      cases as with
      | nil => cases ks with
        | nil => cases h
        | cons _ _ => rfl
      | cons _ _ => rfl
    | _ => rfl
  | _ => rfl
/-- the one object of a name changes -/
theorem rep_own {u : HO} (R : Rep g F H σ env) (e : env[i]? = some (some ⟨p, .own⟩)) (es : σ[i]? = some (some (.ref a))) (c' : RepC g F (upd H a u) a p') :
    Rep g F (upd H a u) σ (env.set i (some ⟨p', .own⟩)) ∧ Ext F H (Own σ env) F (upd H a u) (Own σ (env.set i (some ⟨p', .own⟩))) := by
  obtain ⟨b, eb, nf, c⟩ := R.exc e rfl
  rw [es] at eb; cases eb
  have up : ∀ {q : PV} {w : V}, RepV g F H q w → RepV g F (upd H a u) q w := fun r => r.mono (fun _ h => h) fun b o hb e => by rw [upd_ne (ne_nf nf hb)]; exact e
  have upC : ∀ {q : PV} {b : Addr}, b ≠ a → RepC g F H b q → RepC g F (upd H a u) b q := fun n r => r.mono (fun _ h => h) (fun b o hb e => by rw [upd_ne (ne_nf nf hb)]; exact e) fun o e => by rw [upd_ne n]; exact e
  have er : EnvRel env (env.set i (some ⟨p', .own⟩)) := EnvRel.setFz e (.inl rfl)
  refine ⟨⟨by simpa using R.len, fun j s ej => ?_, fun j k x s b hjk e1 k1 e2 k2 ej ek => ?_, fun b hb => by rw [upd_ne (ne_nf nf hb)]; exact R.dom b hb⟩, ⟨fun b o eb n => ?_, fun b eb => ?_, fun b h => h, fun b h => .inl h, fun b h => .inl (er.own h)⟩⟩
  · rcases set_get ej with ⟨rfl, q⟩ | ⟨hij, ej⟩
    · cases q; exact ⟨_, es, a, rfl, nf, c'⟩
    · obtain ⟨w, ew, r⟩ := R.slot j s ej
      refine ⟨w, ew, ?_⟩
      have ne : ∀ b, w = .ref b → s.k ≠ .fz → RepC g F H b s.v → ¬ F b → b ≠ a := fun b eb kk c1 nb z => by
        subst z; subst eb
        exact nb (c1.inF (R.sep i j _ _ _ hij e rfl ej kk es ew))
      obtain ⟨q, k⟩ := s
      cases k with
      | fz => exact up r
      | own => obtain ⟨b, eb, nb, c1⟩ := r; exact ⟨b, eb, nb, upC (ne b eb (fun h => nomatch h) c1 nb) c1⟩
      | lk => obtain ⟨b, eb, nb, c1⟩ := r; exact ⟨b, eb, nb, upC (ne b eb (fun h => nomatch h) c1 nb) c1⟩
      | ro =>
        rcases r with r | ⟨b, eb, c1⟩
        · exact .inl (up r)
        · by_cases z : b = a
          · subst z; subst eb
            exact .inl (up (R.sep i j _ _ _ hij e rfl ej (fun h => nomatch h) es ew))
          · exact .inr ⟨b, eb, upC z c1⟩
  · obtain ⟨x0, f1, g1⟩ := er.back e1
    obtain ⟨s0, f2, g2⟩ := er.back e2
    have k1' : x0.k.ex = true := by
      rcases g1 with rfl | ⟨z, _⟩
      · exact k1
      · rw [z]; rfl
    have k2' : s0.k ≠ .fz := by
      rcases g2 with rfl | ⟨z, _⟩
      · exact k2
      · rw [z]; exact fun h => nomatch h
    have r := R.sep j k x0 s0 b hjk f1 k1' f2 k2' ej ek
    rcases g2 with rfl | ⟨z, _⟩
    · exact up r
    · obtain ⟨b', eb, nb, c⟩ := R.exc f2 (by rw [z]; rfl)
      rw [ek] at eb; cases eb
      exact (nb (c.inF r)).elim
  · rw [upd_ne fun z => n ⟨i, p, e, by rw [z]; exact es⟩]; exact eb
  · by_cases z : b = a
    · rw [z, upd_same] at eb; cases eb
    · rw [upd_ne z] at eb; exact eb
theorem kn_list {p q : PV} (h : p.kn = q.kn) {xs : List PV} (hq : q = .lst xs) (hc : ∀ ns, p ≠ .scr ns) : ∃ ys, p = .lst ys := by
  subst hq
  cases p with
  | lst ys => exact ⟨ys, rfl⟩
  | scr ns => exact (hc ns rfl).elim
  | _ => cases h
/-- the object of a name, a list, before the arguments -/
theorem mm_list {xs : List PV} {s0 : Slot} (R : Rep g F H σ env) (er : EnvRel env env') (e0 : env[i]? = some (some s0)) (e1 : env'[i]? = some (some ⟨.lst xs, .own⟩)) (k : s0.v.kn = (PV.lst xs).kn) : ∃ l vs, σ[i]? = some (some (.ref l)) ∧ H l = some (.lst vs) := by
  obtain ⟨s, f, h⟩ := er.back e1
  rw [e0] at f; cases f
  have hk : s0.k.ex = true := by
    rcases h with h | ⟨h, _⟩
    · rw [← h]; rfl
    · rw [h]; rfl
  obtain ⟨l, es, nf, c⟩ := R.exc e0 hk
  have : ∃ ys, s0.v = .lst ys := kn_list k rfl fun ns z => by rw [z] at c; cases c
  obtain ⟨ys, hy⟩ := this
  rw [hy] at c
  cases c with
  | lst eH _ => exact ⟨l, _, es, eH⟩
theorem nm_pe (ok : CxOk g M C d N nf X) {i : Nat} {x : Str} {p : Pos} (h : nmB N X.env.scope i x = true) : PE X (.Name x p) (tVar i) := by
  obtain ⟨h1, h2, h3, h4⟩ := nmB_ok h
  exact pe_var (i := i) (by rw [ok.hN]; exact h1) h2 h3 h4
theorem app_snd (ok : CxOk g M C d N nf X) {es : List E} {y : Str} {yp ap cp : Pos} {es' : List Expr} (hn : nmB N X.env.scope i y = true) (hl : es'.length = 1) (hline : (ap.endLine == cp.line) = true) (hc : chkEs N nf X.env.scope es es' = true) (h : PA X es' (tEs g M C es)) :
    PE X (.Call (.Attribute (.Name y yp) "append" ap) es' [] cp) (tEv g M C (.mm .append i es)) := by
  cases es' with
  | nil => cases hl
  | cons e' r =>
    cases r with
    | cons _ _ => cases hl
    | nil =>
      cases es with
      | nil => simp [chkEs] at hc
      | cons c cs =>
        simp only [chkEs, Bool.and_eq_true] at hc
        have st := star_cons hc.1.2 [] X.env
        refine peI (pe_bm (T := "list") (id := "list.append") F.plainAttrs_list F.slot_list_append F.type_list_append (mt_append (X := X)) (nm_pe ok hn) h rfl (by rw [st]; rfl) hline st rfl) fun σ H Q ⟨F, env, o, env', R, e, hk, fin⟩ => ?_
        simp only [ev] at e
        split at e
        case h_2 => cases e
        rename_i s0 e0
        split at e
        case h_2 => cases e
        rename_i os env1 h1
        split at e
        case h_2 => cases e
        rename_i ps env2 h2
        split at e
        case h_2 => cases e
        rename_i p e2
        split at e
        case isFalse => cases e
        rename_i hkn
        split at e
        case h_2 => cases e
        rename_i p2 r h3
        cases e
        simp only [mutF, appendF] at h3
        split at h3
        case h_2 => cases h3
        rename_i xs yv
        split at h3
        case isFalse => cases h3
        rename_i hz
        cases h3
        have er := (evs_rel _ h1).trans (consumes_rel h2)
        obtain ⟨l, vs0, es0, eH0⟩ := mm_list R er e0 e2 hkn
        refine ⟨.ref l, es0, .inl ⟨rfl, vs0, SqL.of eH0⟩, F, env, os, env1, R, h1, ok_cs h2, fun vs F1 H1 x1 R1 hl1 => ?_⟩
        obtain ⟨F2, m2, x2, R2, _, l2⟩ := consumes_ok R1 x1 hl1 h2
        obtain ⟨l', es', nf', c'⟩ := R2.exc e2 rfl
        rw [es0] at es'; cases es'
        cases c' with
        | lst eH lv =>
          rename_i us
          cases l2 with
          | cons r1 r2 =>
            cases r2
            rename_i w
            have kp : ∀ b o, F2 b → H1 b = some o → (upd H1 l (.lst (us ++ [w]))) b = some o := fun b o hb e => by rw [upd_ne (ne_nf nf' hb)]; exact e
            obtain ⟨R3, x3⟩ := rep_own (u := .lst (us ++ [w])) R2 e2 es0 (.lst upd_same ((lv.append (.cons r1 .nil)).mono (fun _ h => h) kp))
            exact ⟨l, us, w, rfl, rfl, eH, by rw [← lv.length]; exact hz, fin.val (x2.tr x3) R3 .non⟩
theorem RepL.dropLast : ∀ {xs : List PV} {vs : List V}, RepL g F H xs vs → RepL g F H xs.dropLast vs.dropLast
  | _, _, .nil => .nil
  | _, _, .cons a .nil => .nil
  | _, _, .cons a (.cons b c) => .cons a (RepL.dropLast (.cons b c))
theorem RepL.eraseIdx : ∀ {xs : List PV} {vs : List V} (n : Nat), RepL g F H xs vs → RepL g F H (xs.eraseIdx n) (vs.eraseIdx n)
  | _, _, _, .nil => .nil
  | _, _, 0, .cons _ b => b
  | _, _, n + 1, .cons a b => .cons a (b.eraseIdx n)
theorem pop_snd (ok : CxOk g M C d N nf X) {es : List E} {y : Str} {yp ap cp : Pos} {es' : List Expr} (hn : nmB N X.env.scope i y = true) (hl : es'.length ≤ 1) (hline : (ap.endLine == cp.line) = true) (hc : chkEs N nf X.env.scope es es' = true) (h : PA X es' (tEs g M C es)) :
    PE X (.Call (.Attribute (.Name y yp) "pop" ap) es' [] cp) (tEv g M C (.mm .pop i es)) := by
  have key : ∀ {σ : St} {H : Hp} {Q : VK}, tEv g M C (.mm .pop i es) σ H Q → ∃ l vs0, σ[i]? = some (some (.ref l)) ∧ H l = some (.lst vs0) ∧ tEs g M C es σ H fun vs H1 => ∃ us w, H1 l = some (.lst us) ∧
      ((vs = [] ∧ us[us.length - 1]? = some w ∧ Q w (upd H1 l (.lst us.dropLast))) ∨ (∃ (j : Int) (k : Nat), vs = [.int j] ∧ -(2 ^ 63) ≤ j ∧ j < 2 ^ 63 ∧ seqIndex? j us.length = some k ∧ us[k]? = some w ∧ Q w (upd H1 l (.lst (us.eraseIdx k))))) := by
    rintro σ H Q ⟨F, env, o, env', R, e, hk, fin⟩
    simp only [ev] at e
    split at e
    case h_2 => cases e
    rename_i s0 e0
    split at e
    case h_2 => cases e
    rename_i os env1 h1
    split at e
    case h_2 => cases e
    rename_i ps env2 h2
    split at e
    case h_2 => cases e
    rename_i p e2
    split at e
    case isFalse => cases e
    rename_i hkn
    split at e
    case h_2 => cases e
    rename_i p2 r h3
    cases e
    have er := (evs_rel _ h1).trans (consumes_rel h2)
    simp only [mutF, popF] at h3
    split at h3
    · rename_i xs
      split at h3
      case h_2 => cases h3
      rename_i yv hy
      cases h3
      obtain ⟨l, vs0, es0, eH0⟩ := mm_list R er e0 e2 hkn
      refine ⟨l, vs0, es0, eH0, F, env, os, env1, R, h1, ok_cs h2, fun vs F1 H1 x1 R1 hl1 => ?_⟩
      obtain ⟨F2, m2, x2, R2, _, l2⟩ := consumes_ok R1 x1 hl1 h2
      obtain ⟨l', es', nf', c'⟩ := R2.exc e2 rfl
      rw [es0] at es'; cases es'
      cases c' with
      | lst eH lv =>
        rename_i us
        cases l2
        have kp : ∀ b o, F2 b → H1 b = some o → (upd H1 l (.lst us.dropLast)) b = some o := fun b o hb e => by rw [upd_ne (ne_nf nf' hb)]; exact e
        obtain ⟨R3, x3⟩ := rep_own (u := .lst us.dropLast) R2 e2 es0 (.lst upd_same (lv.dropLast.mono (fun _ h => h) kp))
        rw [List.getLast?_eq_getElem?] at hy
        obtain ⟨w, hw, rw'⟩ := lv.get hy
        exact ⟨us, w, eH, .inl ⟨rfl, by rw [← lv.length]; exact hw, fin.val (x2.tr x3) R3 (rw'.mono (fun _ h => h) kp)⟩⟩
    · rename_i xs j
      split at h3
      case isFalse => cases h3
      rename_i hb
      split at h3
      case h_2 => cases h3
      rename_i k hk1
      split at h3
      case h_2 => cases h3
      rename_i yv hy
      cases h3
      obtain ⟨l, vs0, es0, eH0⟩ := mm_list R er e0 e2 hkn
      refine ⟨l, vs0, es0, eH0, F, env, os, env1, R, h1, ok_cs h2, fun vs F1 H1 x1 R1 hl1 => ?_⟩
      obtain ⟨F2, m2, x2, R2, _, l2⟩ := consumes_ok R1 x1 hl1 h2
      obtain ⟨l', es', nf', c'⟩ := R2.exc e2 rfl
      rw [es0] at es'; cases es'
      cases c' with
      | lst eH lv =>
        rename_i us
        cases l2 with
        | cons r1 r2 =>
          cases r2
          cases r1
          have kp : ∀ b o, F2 b → H1 b = some o → (upd H1 l (.lst (us.eraseIdx k))) b = some o := fun b o hb e => by rw [upd_ne (ne_nf nf' hb)]; exact e
          obtain ⟨R3, x3⟩ := rep_own (u := .lst (us.eraseIdx k)) R2 e2 es0 (.lst upd_same ((lv.eraseIdx k).mono (fun _ h => h) kp))
          obtain ⟨w, hw, rw'⟩ := lv.get hy
          unfold inB at hb
          simp only [Bool.and_eq_true, decide_eq_true_eq] at hb
          exact ⟨us, w, eH, .inr ⟨j, k, rfl, by omega, by omega, by rw [← lv.length]; exact (ixN_seq hk1).1, hw, fin.val (x2.tr x3) R3 (rw'.mono (fun _ h => h) kp)⟩⟩
    · cases h3
  cases es' with
  | nil =>
    cases es with
    | cons _ _ => simp [chkEs] at hc
    | nil =>
      refine peI (pe_bm0 (T := "list") (id := "list.pop") F.plainAttrs_list F.slot_list_pop F.type_list_pop (mt_pop (X := X)) (nm_pe ok hn) rfl hline) fun σ H Q q => ?_
      obtain ⟨l, vs0, es0, eH0, q⟩ := key q
      obtain ⟨us, w, q1, q2⟩ := tEs_nil q
      refine ⟨.ref l, es0, .inl ⟨rfl, vs0, SqL.of eH0⟩, l, us, w, rfl, rfl, q1, ?_⟩
      rcases q2 with ⟨_, q2, q3⟩ | ⟨j, k, q2, _⟩
      · exact ⟨q2, q3⟩
      · cases q2
  | cons e' r =>
    cases r with
    | cons _ _ => simp at hl
    | nil =>
      cases es with
      | nil => simp [chkEs] at hc
      | cons c cs =>
        simp only [chkEs, Bool.and_eq_true] at hc
        have cn : cs = [] := by
          cases cs with
          | nil => rfl
          | cons _ _ => simp [chkEs] at hc
        have st := star_cons hc.1.2 [] X.env
        refine peI (pe_bm (T := "list") (id := "list.pop") F.plainAttrs_list F.slot_list_pop F.type_list_pop (mt_popAt (X := X)) (nm_pe ok hn) h rfl (by rw [st]; rfl) hline st rfl) fun σ H Q q => ?_
        obtain ⟨l, vs0, es0, eH0, F, env, os, env1, R, h1, h2, q⟩ := key q
        refine ⟨.ref l, es0, .inl ⟨rfl, vs0, SqL.of eH0⟩, F, env, os, env1, R, h1, h2, fun vs F1 H1 x1 R1 hl1 => ?_⟩
        obtain ⟨us, w, q1, q2⟩ := q vs F1 H1 x1 R1 hl1
        rcases q2 with ⟨q2, _⟩ | ⟨j, k, q2, q3, q4, q5, q6, q7⟩
        · subst q2
          subst cn
          have := hl1.length
          simp only [evs] at h1
          split at h1
          · cases h1; simp at this
          · cases h1
        · exact ⟨l, us, j, k, w, rfl, q2, q1, q3, q4, q5, q6, q7⟩
/-- what a dict answers, with a value for what is not there -/
theorem get_val {x y z : V} {d k q r : PV} {kk : Option Key} (hd : Peek g F H d x) (hk : Peek g F H k y) (hz : RepV g F H q z) (e : (match d with
    | .dk kvs => (toKey k).map fun k => (lookP kvs k).getD q
    | .dt kvs => match k with
      | .tup k => (toKeys k).map fun k => (lookP kvs k).getD q
      | _ => none
    | _ => none) = some r) : ∃ a o, x = .ref a ∧ DGet H a y o ∧ RepV g F H r (o.getD z) := by
  cases d with
  | dk kvs =>
    obtain ⟨kk, ek, rfl⟩ := Option.map_eq_some_iff.mp e
    obtain ⟨a, o, rfl, h1, h2, h3⟩ := dget hd hk rfl ek
    refine ⟨a, o, rfl, h1, ?_⟩
    cases q1 : lookP kvs kk with
    | some w => obtain ⟨v, rfl, rv⟩ := h2 w q1; exact rv
    | none =>
      rw [q1] at h3
      cases o with
      | none => exact hz
      | some _ => cases h3
  | dt kvs =>
    cases k with
    | tup ks =>
      obtain ⟨kk, ek, rfl⟩ := Option.map_eq_some_iff.mp e
      obtain ⟨a, o, rfl, h1, h2, h3⟩ := dgetT hd hk rfl ek
      refine ⟨a, o, rfl, h1, ?_⟩
      cases q1 : lookP kvs kk with
      | some w => obtain ⟨v, rfl, rv⟩ := h2 w q1; exact rv
      | none =>
        rw [q1] at h3
        cases o with
        | none => exact hz
        | some _ => cases h3
    | _ => cases e
  | _ => cases e
theorem isD_of {x : V} {p0 p : PV} (h : Peek g F H p0 x) (k : p0.kn = p.kn) (hp : p.kn = some .dict) : ∃ a, x = .ref a ∧ IsD H a := by
  rw [hp] at k
  cases p0 with
  | dk kvs => obtain ⟨a, vs, rfl, ea, _⟩ := h.dk; exact ⟨a, rfl, .inl ⟨vs, .inl ea⟩⟩
  | dt kvs => obtain ⟨a, vs, rfl, ea, _⟩ := h.dt; exact ⟨a, rfl, .inr ⟨vs, .inl ea⟩⟩
  | _ => cases k
theorem get_snd (ok : CxOk g M C d N nf X) {c : E} {es : List E} {o' : Expr} {ap cp : Pos} {e' : Expr} {es' : List Expr} (ho : PE X o' (tEv g M C c)) (hp : plainO o' = true) (hl : es'.length < 2) (hline : (ap.endLine == cp.line) = true) (hc : chkEs N nf X.env.scope es (e' :: es') = true) (ih : ∀ c ∈ es, ∀ e, chkE N nf X.env.scope c e = true → PE X e (tEv g M C c)) :
    PE X (.Call (.Attribute o' "get" ap) (e' :: es') [] cp) (tEv g M C (.met .get c es)) := by
  cases es with
  | nil => simp [chkEs] at hc
  | cons c1 cs =>
    simp only [chkEs, Bool.and_eq_true] at hc
    cases es' with
    | nil =>
      have cn : cs = [] := by
        cases cs with
        | nil => rfl
        | cons _ _ => simp [chkEs] at hc
      subst cn
      have st := star_cons hc.1.2 [] X.env
      refine peI (pe_dget1 (by have := ok.line; omega) ho (ih c1 (List.mem_cons_self ..) e' hc.1.1) ⟨base_ok hp _ _, by rw [st]; rfl, hline, by rw [st]; rfl⟩) fun σ H Q ⟨F, env, o, env', R, e, hk, fin⟩ => ?_
      simp only [ev] at e
      split at e
      case h_2 => cases e
      rename_i x env1 h1
      split at e
      case h_2 => cases e
      rename_i p0 h2
      split at e
      case h_2 => cases e
      rename_i os env2 h3
      simp only [evs] at h3
      split at h3
      case h_2 => cases h3
      rename_i y env3 h4
      simp only [Option.some.injEq, Prod.mk.injEq] at h3
      obtain ⟨rfl, rfl⟩ := h3
      split at e
      case h_2 => cases e
      rename_i p ps h5 h6
      split at e
      case isFalse => cases e
      rename_i hkn
      split at e
      case h_2 => cases e
      rename_i r f h7
      cases e
      simp only [derefs] at h6
      cases h8 : deref env' y with
      | none => rw [h8] at h6; cases h6
      | some q =>
        rw [h8] at h6
        cases h6
        simp only [metF] at h7
        have hpk : p.kn = some .dict := by
          unfold getF at h7
          split at h7 <;> first | rfl | cases h7
        have hf : f = false := by
          unfold getF at h7
          split at h7 <;> first | (obtain ⟨_, _, z⟩ := Option.map_eq_some_iff.mp h7; cases z; rfl) | cases h7 | (split at h7 <;> first | (obtain ⟨_, _, z⟩ := Option.map_eq_some_iff.mp h7; cases z; rfl) | cases h7)
        subst hf
        refine ⟨F, env, x, env1, R, h1, ok_d h2, fun v F1 H1 x1 R1 hv => ?_⟩
        obtain ⟨a, rfl, hd⟩ := isD_of (hv.peek R1 h2) hkn hpk
        refine ⟨a, rfl, hd, F1, env1, y, _, R1, h4, ok_d h8, fun w F2 H2 x2 R2 hw => ?_⟩
        have pd := (hv.ext R1 x2 (ev_rel _ h4) fun _ z => z).peek R2 h5
        have pk := hw.peek R2 h8
        obtain ⟨a', o, ea, q1, q2⟩ := get_val (kk := none) (q := .non) (r := r) pd pk .non (by
          unfold getF at h7
          split at h7 <;> rename_i heq <;> try (cases heq)
          · obtain ⟨kk, z1, z2⟩ := Option.map_eq_some_iff.mp h7; cases z2; simp [z1]
          · obtain ⟨kk, z1, z2⟩ := Option.map_eq_some_iff.mp h7; cases z2; simp [z1]
          · cases h7)
        cases ea
        exact ⟨o, q1, fin.val (x1.tr x2) R2 q2⟩
    | cons f' es' =>
      cases es' with
      | cons _ _ => simp only [List.length_cons] at hl; omega
      | nil =>
        cases cs with
        | nil => simp [chkEs] at hc
        | cons c2 cs =>
          have hc2 := hc.2
          simp only [chkEs, Bool.and_eq_true] at hc2
          have cn : cs = [] := by
            cases cs with
            | nil => rfl
            | cons _ _ => simp [chkEs] at hc2
          subst cn
          have st2 := star_cons hc2.1.2 [] X.env
          have st := star_cons hc.1.2 [f'] X.env
          refine peI (pe_dget2 (by have := ok.line; omega) ho (ih c1 (List.mem_cons_self ..) e' hc.1.1) (ih c2 (List.mem_cons_of_mem _ (List.mem_cons_self ..)) f' hc2.1.1) ⟨base_ok hp _ _, by rw [st, st2]; rfl, hline, by rw [st, st2]; rfl⟩) fun σ H Q ⟨F, env, o, env', R, e, hk, fin⟩ => ?_
          simp only [ev] at e
          split at e
          case h_2 => cases e
          rename_i x env1 h1
          split at e
          case h_2 => cases e
          rename_i p0 h2
          split at e
          case h_2 => cases e
          rename_i os env2 h3
          simp only [evs] at h3
          split at h3
          case h_2 => cases h3
          rename_i y env3 h4
          split at h3
          case h_2 => cases h3
          rename_i os2 env4 h9
          split at h9
          case h_2 => cases h9
          rename_i z env5 h10
          simp only [Option.some.injEq, Prod.mk.injEq] at h9
          obtain ⟨rfl, rfl⟩ := h9
          simp only [Option.some.injEq, Prod.mk.injEq] at h3
          obtain ⟨rfl, rfl⟩ := h3
          split at e
          case h_2 => cases e
          rename_i p ps h5 h6
          split at e
          case isFalse => cases e
          rename_i hkn
          split at e
          case h_2 => cases e
          rename_i r f h7
          cases e
          simp only [derefs] at h6
          cases h8 : deref env' y with
          | none => rw [h8] at h6; cases h6
          | some q =>
            cases h11 : deref env' z with
            | none => rw [h8, h11] at h6; cases h6
            | some qz =>
              rw [h8, h11] at h6
              cases h6
              simp only [metF] at h7
              have hpk : p.kn = some .dict := by
                unfold getF at h7
                split at h7 <;> first | rfl | cases h7
              have hf : f = false ∧ qz.imm = true := by
                unfold getF at h7
                split at h7 <;> rename_i heq <;> (try cases heq) <;> (try (cases h7; done))
                all_goals
                  split at h7
                  case isFalse => cases h7
                  rename_i him
                  obtain ⟨_, _, z⟩ := Option.map_eq_some_iff.mp h7
                  cases z
                  exact ⟨rfl, him⟩
              obtain ⟨rfl, him⟩ := hf
              refine ⟨F, env, x, env1, R, h1, ok_d h2, fun v F1 H1 x1 R1 hv => ?_⟩
              obtain ⟨a, rfl, hd⟩ := isD_of (hv.peek R1 h2) hkn hpk
              refine ⟨a, rfl, hd, F1, env1, y, _, R1, h4, ok_d h8, fun w F2 H2 x2 R2 hw => ?_⟩
              refine ⟨F2, _, z, _, R2, h10, ok_d h11, fun u F3 H3 x3 R3 hu => ?_⟩
              have pd := ((hv.ext R1 x2 (ev_rel _ h4) fun _ z => z).ext R2 x3 (ev_rel _ h10) fun _ z => z).peek R3 h5
              have pk := (hw.ext R2 x3 (ev_rel _ h10) fun _ z => z).peek R3 h8
              obtain ⟨a', o, ea, q1, q2⟩ := get_val (kk := none) (q := qz) (r := r) pd pk ((hu.peek R3 h11).imm him) (by
                unfold getF at h7
                split at h7 <;> rename_i heq <;> (try cases heq) <;> (try (cases h7; done))
                all_goals
                  rw [if_pos him] at h7
                  obtain ⟨kk, z1, z2⟩ := Option.map_eq_some_iff.mp h7
                  cases z2; simp [z1])
              cases ea
              exact ⟨o, q1, fin.val ((x1.tr x2).tr x3) R3 q2⟩
end
end L2.Pz
set_option Elab.async false
set_option linter.all false
set_option maxRecDepth 100000
set_option maxHeartbeats 4000000
namespace L2.Pz
set_option autoImplicit false
open PySem PySem.Spec PyProof.Rows L2

/-! ## Pz18: checked code means what the text means -/
section
variable {g : Gw} {M : Nat → List Md} {C : Cl} {d : Nat} {N : List Str} {nf : Nf}
structure SndI (g : Gw) (M : Nat → List Md) (C : Cl) (X : Cx) (c : E) (e : Expr) : Prop where
  s : Snd g M C X c e
  pi : ∀ tg, itB c tg e = true → PI X tg e (tIt g M C c)
theorem sndi_of {X : Cx} {c : E} {e : Expr} (h : Snd g M C X c e) (hs : c.sv = true ∨ ∀ tg, itB c tg e = false) : SndI g M C X c e := ⟨h, fun tg ht => by
  rcases hs with hs | hs
  · exact pi_val h.pe hs
  · rw [hs tg] at ht; cases ht⟩
theorem glo_ok {X : Cx} (ok : CxOk g M C d N nf X) {x : Str} {c : PV} {y : Str} {p : Pos} (h : chkE N nf X.env.scope (.glo x c) (.Name y p) = true) : PE X (.Name y p) (tEv g M C (.glo x c)) := by
  simp only [chkE, Bool.and_eq_true, decide_eq_true_eq, List.any_eq_true] at h
  obtain ⟨⟨rfl, hg⟩, q, hq, rfl, hc⟩ := h
  obtain ⟨h1, h2, h3⟩ := glB_ok hg
  obtain ⟨u, v, m1, r, rep⟩ := ok.cst q hq
  have ec : q.2 = c := by
    split at hc
    · rename_i i j z; rw [z, of_decide_eq_true hc]
    · rename_i i j z; rw [z, of_decide_eq_true hc]
    · cases hc
  refine peI (pe_glob h1 m1 r h2) fun σ H Q ⟨F, env, o, env', R, e, hk, fin⟩ => ?_
  simp only [ev] at e; cases e
  exact fin.val .refl R (by rw [← ec]; exact rep F H)
/-- what has no value of its own -/
theorem vac {X : Cx} {c : E} {e : Expr} (h : ∀ env o env', ev M C c env = some (o, env') → o.ok = false) (hb : ∀ op l p, e ≠ .BoolOp op l p) : Snd g M C X c e :=
  ⟨⟨fun pins s σ H Q I ⟨F, env, o, env', R, e, hk, fin⟩ => by rw [h _ _ _ e] at hk; cases hk⟩,
   ⟨fun pins s σ H Q I ⟨F, env, o, env', k, R, e, dk, fin⟩ => by have := ok_d dk; rw [h _ _ _ e] at this; cases this⟩, fun op l p z => (hb op l p z).elim⟩
theorem lc_snd {X : Cx} (ok : CxOk g M C d N nf X) {tg : Tg} {it : E} {ifs : List E} {elt : E} {elt' tg' it' : Expr} {ifs' : List Expr} {scope : Scope} {pos : Pos} (hi : PI X tg' it' (tIt g M C it)) (hs : notSetE it' = true) (ht : tgB N scope tg tg' = true) (hb : blkC N X.env.scope scope (ownN N tg.slots) = true)
    (hif : chkIf N nf (relS scope X.env.scope) ifs ifs' = true) (ihf : ∀ (Y : Cx), CxOk g M C d N nf Y → ∀ c ∈ ifs, ∀ e, chkE N nf Y.env.scope c e = true → PT Y e (tTs g M C c))
    (ihe : ∀ (Y : Cx), CxOk g M C d N nf Y → Y.env.scope = relS scope X.env.scope → PE Y elt' (tEv g M C elt)) : PE X (.ListComp elt' [⟨tg', it', ifs', 0⟩] scope pos) (tEv g M C (.lc tg it ifs elt)) := by
  have hl : ifs.length ≤ 1 := by
    cases ifs with
    | nil => simp
    | cons c cs => cases cs with
      | nil => simp
      | cons _ _ => simp [chkIf] at hif
  have bk : BlkOk X.N X.env.scope scope (ownN N tg.slots) := blkOk_by (by rw [ok.hN]; exact hb)
  have := pe_lc (pos := pos) ok.calm (by rw [ok.hN]; exact ok.nd) hi bk
    (fun s H C0 cl fp => pg_tg (X := X.blk s H scope (compEnvC scope cl C0 X.env) fp) (N := N) (Γ := scope) ok.calm (by rw [ok.hN]; exact ok.nd) ok.hN (blk_loc rfl) ht)
    (fun s H C0 cl fp => (pts_if (nf := nf) (N := N) (X := X.blk s H scope (compEnvC scope cl C0 X.env) fp) hif fun c hc e he => ihf _ ok.blk c hc e he).1)
    (fun s H C0 cl fp => ihe _ ok.blk rfl) (fun x => fold_ok hs _ x)
  rw [own_map] at this
  exact peI this fun σ H Q ⟨F, env, o, env', R, e, hk, fin⟩ => lc_rd hl R e fin
theorem lc2_snd {X : Cx} (ok : CxOk g M C d N nf X) {tg tg1 : Tg} {it it1 : E} {ifs ifs1 : List E} {elt : E} {elt' tg' it' tg1' it1' : Expr} {ifs' ifs1' : List Expr} {scope : Scope} {pos : Pos} (hi : PI X tg' it' (tIt g M C it)) (hs : notSetE it' = true) (hs1 : notSetE it1' = true) (ht : tgB N scope tg tg' = true) (ht1 : tgB N scope tg1 tg1' = true)
    (hb : blkC N X.env.scope scope (ownN N (tg.slots ++ tg1.slots)) = true) (hif : chkIf N nf (relS scope X.env.scope) ifs ifs' = true) (hif1 : chkIf N nf (relS scope X.env.scope) ifs1 ifs1' = true)
    (ihf : ∀ (Y : Cx), CxOk g M C d N nf Y → ∀ c ∈ ifs, ∀ e, chkE N nf Y.env.scope c e = true → PT Y e (tTs g M C c)) (ihf1 : ∀ (Y : Cx), CxOk g M C d N nf Y → ∀ c ∈ ifs1, ∀ e, chkE N nf Y.env.scope c e = true → PT Y e (tTs g M C c))
    (ihi : ∀ (Y : Cx), CxOk g M C d N nf Y → Y.env.scope = relS scope X.env.scope → PI Y tg1' it1' (tIt g M C it1))
    (ihe : ∀ (Y : Cx), CxOk g M C d N nf Y → Y.env.scope = relS scope X.env.scope → PE Y elt' (tEv g M C elt)) : PE X (.ListComp elt' [⟨tg', it', ifs', 0⟩, ⟨tg1', it1', ifs1', 0⟩] scope pos) (tEv g M C (.lc2 tg it ifs tg1 it1 ifs1 elt)) := by
  have len : ∀ {ifs : List E} {ifs' : List Expr} {Γ : Scope}, chkIf N nf Γ ifs ifs' = true → ifs.length ≤ 1 := by
    intro ifs ifs' Γ hif
    cases ifs with
    | nil => simp
    | cons c cs => cases cs with
      | nil => simp
      | cons _ _ => simp [chkIf] at hif
  have bk : BlkOk X.N X.env.scope scope (ownN N (tg.slots ++ tg1.slots)) := blkOk_by (by rw [ok.hN]; exact hb)
  have := pe_lc2 (pos := pos) (vs1 := tg1.slots) ok.calm (by rw [ok.hN]; exact ok.nd) hi bk (by rw [own_map]; exact fun i h => List.mem_append_right _ h)
    (fun s H C0 cl fp => pg_tg (X := X.blk s H scope (compEnvC scope cl C0 X.env) fp) (N := N) (Γ := scope) ok.calm (by rw [ok.hN]; exact ok.nd) ok.hN (blk_loc rfl) ht)
    (fun s H C0 cl fp => (pts_if (nf := nf) (N := N) (X := X.blk s H scope (compEnvC scope cl C0 X.env) fp) hif fun c hc e he => ihf _ ok.blk c hc e he).1)
    (fun s H C0 cl fp => ihi _ ok.blk rfl)
    (fun s H C0 cl fp => pg_tg (X := X.blk s H scope (compEnvC scope cl C0 X.env) fp) (N := N) (Γ := scope) ok.calm (by rw [ok.hN]; exact ok.nd) ok.hN (blk_loc rfl) ht1)
    (fun s H C0 cl fp => (pts_if (nf := nf) (N := N) (X := X.blk s H scope (compEnvC scope cl C0 X.env) fp) hif1 fun c hc e he => ihf1 _ ok.blk c hc e he).1)
    (fun s H C0 cl fp => ihe _ ok.blk rfl) (fun x => fold_ok hs _ x) (fun env x => fold_ok hs1 _ x)
  rw [own_map] at this
  exact peI this fun σ H Q ⟨F, env, o, env', R, e, hk, fin⟩ => lc2_rd (len hif) (len hif1) R e fin
mutual
theorem snd : ∀ (c : E) {X : Cx} (_ : CxOk g M C d N nf X) {e : Expr}, chkE N nf X.env.scope c e = true → SndI g M C X c e
  | .con c, X, ok, e, h => by
    simp only [chkE] at h
    obtain ⟨h1, h2⟩ := con_ok (X := X) (g := g) (M := M) (C := C) h
    exact sndi_of (snd_of h1 h2) (.inl rfl)
  | .glo x c, X, ok, e, h => by
    cases e with
    | Name y p => exact sndi_of (snd_of (glo_ok ok h) rfl) (.inl rfl)
    | _ => simp [chkE] at h
  | .var i, X, ok, e, h => by
    cases e with
    | Name x p => simp only [chkE] at h; exact sndi_of (snd_of (var_ok ok h) rfl) (.inl rfl)
    | _ => simp [chkE] at h
  | .bin o a b, X, ok, e, h => by
    cases e with
    | BinOp a' o' b' p =>
      simp only [chkE, Bool.and_eq_true] at h
      exact sndi_of (snd_of (bin_snd ok h.1.1 (snd a ok h.1.2).s.pe (snd b ok h.2).s.pe) rfl) (.inl rfl)
    | _ => simp [chkE] at h
  | .un u a, X, ok, e, h => by
    cases e with
    | UnaryOp o' a' p =>
      simp only [chkE, Bool.and_eq_true] at h
      refine sndi_of (snd_of (un_snd h.1 (snd a ok h.2).s.pe) ?_) (.inl rfl)
      have h1 := h.1
      cases u <;> cases o' <;> first | rfl | cases h1
    | _ => simp [chkE] at h
  | .cmp o a b, X, ok, e, h => by
    unfold chkE at h
    split at h <;> first | (cases h; done) | skip
    all_goals rename_i heq; cases heq
    simp only [Bool.and_eq_true, Bool.not_eq_true'] at h
    exact sndi_of (cmp_snd ok h.1.1.1 h.2 (snd a ok h.1.1.2).s.pe (snd b ok h.1.2).s.pe) (.inl rfl)
  | .cmp2 o p a b c, X, ok, e, h => by
    unfold chkE at h
    split at h <;> first | (cases h; done) | skip
    all_goals rename_i heq; cases heq
    simp only [Bool.and_eq_true, Bool.not_eq_true'] at h
    exact sndi_of (cmp2_snd ok h.1.1.1.1.1 h.1.1.1.1.2 h.2 (snd a ok h.1.1.1.2).s.pe (snd b ok h.1.1.2).s.pe (snd c ok h.1.2).s.pe) (.inl rfl)
  | .and a b, X, ok, e, h => by
    cases e with
    | BoolOp op l p =>
      cases op with
      | Or => simp [chkE] at h
      | And =>
        cases l with
        | nil => simp [chkE] at h
        | cons x l =>
          cases l with
          | nil => simp [chkE] at h
          | cons y r =>
            simp only [chkE, Bool.and_eq_true] at h
            cases r with
            | nil =>
              have hb := (snd b ok h.2).s
              exact sndi_of (and_snd (snd a ok h.1).s (pe_one hb.pe) (pw_and1 hb.pt)) (.inr fun _ => rfl)
            | cons z r =>
              have hb := (snd b ok h.2).s
              exact sndi_of (and_snd (snd a ok h.1).s hb.pe (hb.pw _ _ _ rfl)) (.inr fun _ => rfl)
    | _ => simp [chkE] at h
  | .or a b, X, ok, e, h => by
    cases e with
    | BoolOp op l p =>
      cases op with
      | And => simp [chkE] at h
      | Or =>
        cases l with
        | nil => simp [chkE] at h
        | cons x l =>
          cases l with
          | nil => simp [chkE] at h
          | cons y r =>
            simp only [chkE, Bool.and_eq_true] at h
            cases r with
            | nil =>
              have hb := (snd b ok h.2).s
              exact sndi_of (or_snd (snd a ok h.1).s (pe_one hb.pe) (pw_or1 hb.pt)) (.inr fun _ => rfl)
            | cons z r =>
              have hb := (snd b ok h.2).s
              exact sndi_of (or_snd (snd a ok h.1).s hb.pe (hb.pw _ _ _ rfl)) (.inr fun _ => rfl)
    | _ => simp [chkE] at h
  | .not a, X, ok, e, h => by
    cases e with
    | UnaryOp o' a' p =>
      cases o' with
      | Not => simp only [chkE] at h; exact sndi_of (not_snd (snd a ok h).s) (.inl rfl)
      | _ => simp [chkE] at h
    | _ => simp [chkE] at h
  | .ite c a b, X, ok, e, h => by
    cases e with
    | IfExp c' a' b' p =>
      simp only [chkE, Bool.and_eq_true] at h
      exact sndi_of (ite_snd (snd c ok h.1.1).s (snd a ok h.1.2).s (snd b ok h.2).s) (.inr fun _ => rfl)
    | _ => simp [chkE] at h
  | .tup es, X, ok, e, h => by
    cases e with
    | Tuple es' k p =>
      simp only [chkE] at h
      exact sndi_of (snd_of (tup_ok (pes_ok h fun c hc e he => (snds es c hc ok he).s)) rfl) (.inl rfl)
    | _ => simp [chkE] at h
  | .lst es, X, ok, e, h => by
    cases e with
    | List es' p =>
      simp only [chkE] at h
      exact sndi_of (snd_of (lst_ok (pes_ok h fun c hc e he => (snds es c hc ok he).s)) rfl) (.inl rfl)
    | _ => simp [chkE] at h
  | .dnk, X, ok, e, h => by
    unfold chkE at h
    split at h <;> first | (cases h; done) | skip
    all_goals rename_i heq; cases heq
    exact sndi_of (snd_of dnk_ok rfl) (.inl rfl)
  | .dnt, X, ok, e, h => by
    unfold chkE at h
    split at h <;> first | (cases h; done) | skip
    all_goals rename_i heq; cases heq
    exact sndi_of (snd_of dnt_ok rfl) (.inl rfl)
  | .idx a i, X, ok, e, h => by
    cases e with
    | Subscript a' i' p =>
      simp only [chkE, Bool.and_eq_true] at h
      exact sndi_of (snd_of (idx_snd ok (snd a ok h.1.1).s.pe (snd i ok h.1.2).s.pe h.2) rfl) (.inl rfl)
    | _ => simp [chkE] at h
  | .slc a lo hi, X, ok, e, h => by
    unfold chkE at h
    split at h <;> first | (cases h; done) | skip
    all_goals rename_i heq; cases heq
    simp only [Bool.and_eq_true] at h
    have po : ∀ {cs : List E} {oe : Option Expr}, chkO N nf X.env.scope cs oe = true → (∀ c ∈ cs, ∀ e, chkE N nf X.env.scope c e = true → PE X e (tEv g M C c)) → cs.length ≤ 1 ∧ PO X oe (tO g M C cs) := by
      intro cs oe hc ih
      cases cs with
      | nil => cases oe with
        | none => exact ⟨Nat.zero_le _, po_none⟩
        | some _ => simp [chkO] at hc
      | cons c cs => cases cs with
        | cons _ _ => simp [chkO] at hc
        | nil => cases oe with
          | none => simp [chkO] at hc
          | some e => simp only [chkO] at hc; exact ⟨Nat.le_refl _, po_some (ih c (List.mem_cons_self ..) e hc)⟩
    obtain ⟨l1, p1⟩ := po h.1.2 fun c hc e he => (snds lo c hc ok he).s.pe
    obtain ⟨l2, p2⟩ := po h.2 fun c hc e he => (snds hi c hc ok he).s.pe
    exact sndi_of (snd_of (slc_snd ok (snd a ok h.1.1).s.pe l1 l2 p1 p2) rfl) (.inl rfl)
  | .rev a, X, ok, e, h => by
    unfold chkE at h
    split at h <;> first | (cases h; done) | skip
    all_goals rename_i heq; cases heq
    exact sndi_of (snd_of (rev_ok (snd a ok h).s.pe) rfl) (.inl rfl)
  | .isi t a, X, ok, e, h => by
    unfold chkE at h
    split at h <;> first | (cases h; done) | skip
    all_goals rename_i heq; cases heq
    simp only [Bool.and_eq_true, decide_eq_true_eq] at h
    exact sndi_of (snd_of (isi_snd ok h.1.1.1.1.1.1.1 h.1.1.1.1.1.1.2 h.1.1.1.1.1.2 (snd a ok h.1.1.1.1.2).s.pe h.1.1.1.2 h.1.1.2 h.1.2 h.2) rfl) (.inl rfl)
  | .call f es, X, ok, e, h => by
    unfold chkE at h
    split at h <;> first | (cases h; done) | skip
    all_goals rename_i heq; cases heq
    simp only [Bool.and_eq_true, decide_eq_true_eq] at h
    exact sndi_of (snd_of (call_snd ok h.1.1 h.1.2 h.2 (pes_ok h.2 fun c hc e he => (snds es c hc ok he).s)) rfl) (.inl rfl)
  | .bi b es, X, ok, e, h => by
    unfold chkE at h
    split at h <;> first | (cases h; done) | skip
    all_goals rename_i heq; cases heq
    simp only [Bool.and_eq_true, decide_eq_true_eq] at h
    exact sndi_of (snd_of (bi_snd ok h.1.1.1.1 h.1.1.1.2 h.1.1.2 h.1.2 h.2 (pes_ok h.2 fun c hc e he => (snds es c hc ok he).s)) rfl) (.inl rfl)
  | .met m o es, X, ok, e, h => by
    unfold chkE at h
    split at h <;> first | (cases h; done) | skip
    all_goals rename_i heq; cases heq
    simp only [Bool.and_eq_true, decide_eq_true_eq] at h
    obtain ⟨⟨⟨⟨⟨⟨hm, rfl⟩, h1⟩, h2⟩, h3⟩, h4⟩, h5⟩ := h
    cases m <;> first | (cases hm; done) | skip
    exact sndi_of (snd_of (get_snd ok (snd o ok h1).s.pe h2 h5 h4 h3 fun c hc e he => (snds es c hc ok he).s.pe) rfl) (.inl rfl)
  | .mm m i es, X, ok, e, h => by
    unfold chkE at h
    split at h <;> first | (cases h; done) | skip
    all_goals rename_i heq; cases heq
    simp only [Bool.and_eq_true, decide_eq_true_eq] at h
    obtain ⟨⟨⟨⟨hm, rfl⟩, h1⟩, h2⟩, h3⟩ := h
    have pa := pes_ok h2 fun c hc e he => (snds es c hc ok he).s
    unfold mmOk at hm
    split at hm
    · rename_i hl; exact sndi_of (snd_of (app_snd ok h1 hl h3 h2 pa) rfl) (.inl rfl)
    · rename_i hl; exact sndi_of (snd_of (pop_snd ok h1 (by rw [hl]; exact Nat.zero_le _) h3 h2 pa) rfl) (.inl rfl)
    · rename_i hl; exact sndi_of (snd_of (pop_snd ok h1 (by rw [hl]; exact Nat.le_refl _) h3 h2 pa) rfl) (.inl rfl)
    · cases hm
  | .zip a b, X, ok, e, h => by
    unfold chkE at h
    split at h <;> first | (cases h; done) | skip
    all_goals rename_i heq; cases heq
    simp only [Bool.and_eq_true, decide_eq_true_eq] at h
    obtain ⟨⟨⟨⟨⟨⟨h1, h2⟩, h3⟩, h4⟩, h5⟩, h6⟩, h7⟩ := h
    refine ⟨vac (fun env o env' e => ?_) (fun _ _ _ z => by cases z), fun tg ht => ?_⟩
    · simp only [ev] at e
      repeat' (split at e)
      all_goals first | (cases e; done) | (cases e; rfl)
    · cases tg <;> first | (cases ht; done) | skip
      exact pi_zipB ok h1 h2 h3 h5 h7 (snd a ok h4).s.pe (snd b ok h6).s.pe
  | .enum a, X, ok, e, h => by
    unfold chkE at h
    split at h <;> first | (cases h; done) | skip
    all_goals rename_i heq; cases heq
    simp only [Bool.and_eq_true, decide_eq_true_eq] at h
    obtain ⟨⟨⟨⟨h1, h2⟩, h3⟩, h4⟩, h5⟩ := h
    refine ⟨vac (fun env o env' e => ?_) (fun _ _ _ z => by cases z), fun tg ht => ?_⟩
    · simp only [ev] at e
      repeat' (split at e)
      all_goals first | (cases e; done) | (cases e; rfl)
    · cases tg <;> first | (cases ht; done) | skip
      exact pi_enumB ok h1 h2 h3 h5 (snd a ok h4).s.pe
  | .rngI es, X, ok, e, h => by
    unfold chkE at h
    split at h <;> first | (cases h; done) | skip
    all_goals rename_i heq; cases heq
    simp only [Bool.and_eq_true, decide_eq_true_eq] at h
    obtain ⟨⟨⟨h1, h2⟩, h3⟩, h4⟩ := h
    refine ⟨vac (fun env o env' e => ?_) (fun _ _ _ z => by cases z), fun tg ht => ?_⟩
    · simp only [ev] at e
      repeat' (split at e)
      all_goals first | (cases e; done) | (cases e; rfl)
    · exact pi_rng ok h1 h2 h3 h4 (pes_ok h4 fun c hc e he => (snds es c hc ok he).s)
  | .lc tg it ifs elt, X, ok, e, h => by
    unfold chkE at h
    split at h <;> first | (cases h; done) | skip
    all_goals rename_i heq; cases heq
    simp only [Bool.and_eq_true, decide_eq_true_eq] at h
    obtain ⟨⟨⟨⟨⟨⟨rfl, h1⟩, h2⟩, h3⟩, h4⟩, h5⟩, h6⟩ := h
    have h2' := h2
    unfold itB at h2'
    simp only [Bool.and_eq_true] at h2'
    exact sndi_of (snd_of (lc_snd ok ((snd it ok h1).pi _ h2) h2'.2 h3 h4 h5 (fun Y okY c hc e he => (snds ifs c hc okY he).s.pt) fun Y okY hY => (snd elt okY (by rw [hY]; exact h6)).s.pe) rfl) (.inl rfl)
  | .lc2 tg it ifs tg1 it1 ifs1 elt, X, ok, e, h => by
    unfold chkE at h
    split at h <;> first | (cases h; done) | skip
    all_goals rename_i heq; cases heq
    simp only [Bool.and_eq_true, decide_eq_true_eq] at h
    obtain ⟨⟨⟨⟨⟨⟨⟨⟨⟨⟨⟨rfl, rfl⟩, h1⟩, h2⟩, h3⟩, h4⟩, h5⟩, h6⟩, h7⟩, h8⟩, h9⟩, h10⟩ := h
    have h2' := h2
    unfold itB at h2'
    simp only [Bool.and_eq_true] at h2'
    have h7' := h7
    unfold itB at h7'
    simp only [Bool.and_eq_true] at h7'
    exact sndi_of (snd_of (lc2_snd ok ((snd it ok h1).pi _ h2) h2'.2 h7'.2 h3 h8 h4 h5 h9 (fun Y okY c hc e he => (snds ifs c hc okY he).s.pt) (fun Y okY c hc e he => (snds ifs1 c hc okY he).s.pt)
      (fun Y okY hY => (snd it1 okY (by rw [hY]; exact h6)).pi _ h7) fun Y okY hY => (snd elt okY (by rw [hY]; exact h10)).s.pe) rfl) (.inl rfl)
theorem snds : ∀ (cs : List E) (c : E) (_ : c ∈ cs) {X : Cx} (_ : CxOk g M C d N nf X) {e : Expr}, chkE N nf X.env.scope c e = true → SndI g M C X c e
  | [], _, h, _, _, _, _ => by cases h
  | c :: cs, c', h, X, ok, e, he => by
    rcases List.mem_cons.mp h with h | h
    · rw [h] at he ⊢; exact snd c ok he
    · exact snds cs c' h ok he
end
end
end L2.Pz
set_option Elab.async false
set_option linter.all false
set_option maxRecDepth 100000
set_option maxHeartbeats 4000000
namespace L2.Pz
set_option autoImplicit false
open PySem PySem.Spec PyProof.Rows L2

/-! ## Pz19: what moves, what is stored -/
/-- slots through statements: a walked one stays, a lent one keeps its place -/
structure StR (pm : List Nat) (σ σ' : St) (env env' : En) : Prop where
  lk : ∀ (i : Nat) (q : PV), env[i]? = some (some ⟨q, .lk⟩) → env'[i]? = some (some ⟨q, .lk⟩) ∧ σ'[i]? = σ[i]?
  pm : ∀ i ∈ pm, σ'[i]? = σ[i]?
theorem StR.refl {pm : List Nat} {σ : St} {env : En} : StR pm σ σ env env := ⟨fun _ _ e => ⟨e, rfl⟩, fun _ _ => rfl⟩
theorem StR.trans {pm : List Nat} {σ σ1 σ2 : St} {env env1 env2 : En} (a : StR pm σ σ1 env env1) (b : StR pm σ1 σ2 env1 env2) : StR pm σ σ2 env env2 :=
  ⟨fun i q e => by
    obtain ⟨h1, h2⟩ := a.lk i q e
    obtain ⟨h3, h4⟩ := b.lk i q h1
    exact ⟨h3, h4.trans h2⟩, fun i hi => (b.pm i hi).trans (a.pm i hi)⟩
theorem EnvRel.str {pm : List Nat} {σ : St} {env env' : En} (er : EnvRel env env') : StR pm σ σ env env' := ⟨fun i q e => (by
  obtain ⟨s, e', h⟩ := er.pres i _ e
  rcases h with rfl | ⟨h, _⟩
  · exact ⟨e', rfl⟩
  · cases h), fun _ _ => rfl⟩
section
variable {g : Gw} {M : Nat → List Md} {C : Cl} {d : Nat} {N : List Str} {nf : Nf} {X : Cx} {F F0 F' : Ad} {H H0 H' : Hp} {σ : St} {env env' : En} {O0 N0 : Ad} {o : Opd} {v : V} {p p' : PV} {a : Addr} {i : Nat} {f : Bool} {pm : List Nat}
theorem set_none_get {j k : Nat} {s : Slot} (e : (env.set j none)[k]? = some (some s)) : env[k]? = some (some s) ∧ j ≠ k := by
  rcases set_get e with ⟨_, q⟩ | ⟨n, e⟩
  · cases q
  · exact ⟨e, n⟩
theorem Rep.drop (R : Rep g F H σ env) (j : Nat) : Rep g F H σ (env.set j none) :=
  ⟨by rw [List.length_set]; exact R.len, fun i s e => R.slot i s (set_none_get e).1, fun i k x s b hik e1 k1 e2 k2 es ek => R.sep i k x s b hik (set_none_get e1).1 k1 (set_none_get e2).1 k2 es ek, R.dom⟩
/-- what holds behind a move -/
structure Mv (g : Gw) (pm : List Nat) (F0 : Ad) (H0 : Hp) (O0 : Ad) (F : Ad) (H : Hp) (σ : St) (env : En) (o : Opd) (r : Rv) (v : V) (F' : Ad) (env' : En) : Prop where
  mono : ∀ a, F a → F' a
  ext : Ext F0 H0 O0 F' H (Own σ env')
  rep : Rep g F' H σ env'
  held : HeldO g F' H σ env' (New H0 O0) (.vl r.1 r.2) v
  str : StR pm σ σ env env'
  own : ∀ a, Own σ env' a → Own σ env a
  newF : ∀ a, F' a → F a ∨ Own σ env a ∨ (o.fr = true ∧ v = .ref a)
  away : ∀ a, (¬ F' a) → Away g F H σ env a → Away g F' H σ env' a
  keep : ∀ (k : Nat) (s : Slot), o.is k = false → env[k]? = some (some s) → env'[k]? = some (some s)
theorem cons_mv {env' : En} {p : PV} (R : Rep g F H σ env) (x : Ext F0 H0 O0 F H (Own σ env)) (h : HeldO g F H σ env (New H0 O0) o v) (e : consume env o = some (p, env')) : ∃ F', Mv g pm F0 H0 O0 F H σ env o (p, false) v F' env' := by
  obtain ⟨F1, c, r⟩ := consume_ok R x h e
  refine ⟨F1, c.mono, c.ext, c.rep, r, c.er.str, fun a => c.er.own, fun a ha => ?_, fun a nf aw i s ei k es => ?_, fun k s n ek => ?_⟩
  · rcases c.new a ha with q | ⟨q, z | z⟩
    · exact .inl q
    · exact .inr (.inr ⟨z, q⟩)
    · exact .inr (.inl z)
  · obtain ⟨s0, e0, h0⟩ := c.er.back ei
    rcases h0 with rfl | ⟨h0, _⟩
    · exact (aw i s e0 k es).mono c.mono fun _ _ _ e => e
    · obtain ⟨b, eb, nb, cb⟩ := R.exc e0 (by rw [h0]; rfl)
      rw [es] at eb; cases eb
      exact (nf (c.mono _ (cb.inF (aw i s0 e0 (by rw [h0]; exact fun h => nomatch h) es)))).elim
  · cases o with
    | wk _ _ => cases e
    | vl q f => cases e; exact ek
    | sl j =>
      have hjk : j ≠ k := fun z => by subst z; simp [Opd.is] at n
      simp only [consume] at e
      split at e
      · cases e; exact ek
      · cases e; rw [List.getElem?_set_ne hjk]; exact ek
      · split at e
        · cases e; exact ek
        · cases e
      · cases e
theorem move_ok {r : Rv} (R : Rep g F H σ env) (x : Ext F0 H0 O0 F H (Own σ env)) (h : HeldO g F H σ env (New H0 O0) o v) (e : move pm o env = some (r, env')) : ∃ F', Mv g pm F0 H0 O0 F H σ env o r v F' env' := by
  cases o with
  | wk _ _ => cases e
  | vl q f =>
    cases e
    exact ⟨F, fun _ h => h, x, R, h, .refl, fun _ h => h, fun _ h => .inl h, fun _ _ aw => aw, fun _ _ _ e => e⟩
  | sl j =>
    simp only [move] at e
    split at e
    · rename_i q ej
      obtain ⟨es, _⟩ := h
      obtain ⟨b, eb, nb, cb⟩ := R.exc ej rfl
      rw [es] at eb; cases eb
      split at e
      · rename_i hp
        cases e
        obtain ⟨F1, m⟩ := cons_mv (pm := pm) (p := q) (env' := env.set j (some ⟨q, .fz⟩)) R x (show HeldO g F H σ env (New H0 O0) (.sl j) (.ref b) from ⟨es, _, ej⟩) (by simp only [consume, ej])
        exact ⟨F1, m⟩
      · rename_i hp
        cases e
        have ow : Own σ env b := ⟨j, q, ej, es⟩
        have sub : ∀ a, Own σ (env.set j none) a → Own σ env a := fun a ⟨k, y, ek, esk⟩ => ⟨k, y, (set_none_get ek).1, esk⟩
        refine ⟨F, fun _ h => h, x.sub sub, R.drop j, ⟨b, rfl, nb, cb, x.newO b ow, fun k s ek kk esk => ?_⟩, ⟨fun k y ek => ⟨?_, rfl⟩, fun _ _ => rfl⟩, sub, fun _ h => .inl h, fun a _ aw k s ek kk esk => aw k s (set_none_get ek).1 kk esk, fun k s n ek => ?_⟩
        · obtain ⟨ek', n⟩ := set_none_get ek
          exact R.sep j k _ s b n ej rfl ek' kk es esk
        · have : j ≠ k := fun z => by subst z; rw [ej] at ek; cases ek
          rw [List.getElem?_set_ne this]; exact ek
        · have hjk : j ≠ k := fun z => by subst z; simp [Opd.is] at n
          rw [List.getElem?_set_ne hjk]; exact ek
    · split at e
      · rename_i hc
        cases e
        exact cons_mv R x h hc
      · cases e
theorem move1_ok {r : Rv} {os : List Opd} (R : Rep g F H σ env) (x : Ext F0 H0 O0 F H (Own σ env)) (h : HeldO g F H σ env (New H0 O0) o v) (e : move1 pm o os env = some (r, env')) : ∃ F', Mv g pm F0 H0 O0 F H σ env o r v F' env' := by
  cases o with
  | wk _ _ => exact move_ok R x h e
  | vl q f => exact move_ok R x h e
  | sl j =>
    simp only [move1] at e
    split at e
    · split at e
      · rename_i hc
        cases e
        exact cons_mv R x h hc
      · cases e
    · exact move_ok R x h e
/-- a slot that comes again is not emptied -/
theorem move1_slot {r : Rv} {os : List Opd} {k : Nat} {s : Slot} (e : move1 pm o os env = some (r, env')) (hk : os.any (Opd.is k) = true) (ek : env[k]? = some (some s)) (keep : o.is k = false → env'[k]? = some (some s)) : ∃ s', env'[k]? = some (some s') := by
  cases hi : o.is k with
  | false => exact ⟨s, keep hi⟩
  | true =>
    cases o with
    | wk _ _ => cases hi
    | vl _ _ => cases hi
    | sl j =>
      have : j = k := by simpa [Opd.is] using hi
      subst this
      simp only [move1, hk, if_true] at e
      split at e
      · rename_i hc
        cases e
        obtain ⟨s', e', _⟩ := (consume_rel hc).pres j s ek
        exact ⟨s', e'⟩
      · cases e
theorem Mv.heldO {r : Rv} {o1 : Opd} {v1 : V} {F' : Ad} (m : Mv g pm F0 H0 O0 F H σ env o r v F' env') (R : Rep g F H σ env) (h : HeldO g F H σ env N0 o1 v1) (hs : ∀ k, o1 = .sl k → ∃ s, env'[k]? = some (some s)) (ne : o.fr = true → o1.fr = true → v1 ≠ v) : HeldO g F' H σ env' N0 o1 v1 := by
  cases o1 with
  | sl k => exact ⟨h.1, hs k rfl⟩
  | wk _ _ => exact h
  | vl q f =>
    cases f with
    | false => exact RepV.mono m.mono (fun _ _ _ e => e) h
    | true =>
      obtain ⟨b, rfl, nb, c, nn, aw⟩ := h
      have nb' : ¬ F' b := fun hb => by
        rcases m.newF b hb with q | q | ⟨z, q⟩
        · exact nb q
        · exact aw.notOwn R nb q
        · exact ne z rfl q.symm
      exact ⟨b, rfl, nb', c.mono m.mono (fun _ _ _ e => e) fun _ e => e, nn, m.away b nb' aw⟩
theorem moves_ok : ∀ {os : List Opd} {vs : List V} {rs : List Rv} {F : Ad} {env env' : En}, Rep g F H σ env → Ext F0 H0 O0 F H (Own σ env) → HeldL g F H σ env (New H0 O0) os vs → moves pm os env = some (rs, env') →
    ∃ F', (∀ a, F a → F' a) ∧ Ext F0 H0 O0 F' H (Own σ env') ∧ Rep g F' H σ env' ∧ HeldL g F' H σ env' (New H0 O0) (rs.map fun r => .vl r.1 r.2) vs ∧ StR pm σ σ env env' ∧ (∀ b, ¬ F b → Away g F H σ env b → (∀ k : Nat, (∃ o : Opd, os[k]? = some o ∧ o.fr = true) → vs[k]? ≠ some (.ref b)) → ¬ F' b ∧ Away g F' H σ env' b) ∧
      ∀ (b : Addr) (k : Nat) (r : Rv), rs[k]? = some r → r.2 = true → vs[k]? = some (.ref b) → (∃ o : Opd, os[k]? = some o ∧ o.fr = true) ∨ Own σ env b
  | [], _, _, F, env, _, R, x, .nil, e => by
    cases e
    exact ⟨F, fun _ h => h, x, R, .nil, .refl, fun b nb aw _ => ⟨nb, aw⟩, fun b k r e => by cases e⟩
  | o :: os, _, _, F, env, envE, R, x, .cons (v := v) (vs := vs) a b c, e => by
    unfold moves at e
    split at e
    · rename_i r env1 h1
      split at e
      · rename_i rs1 env2 h2
        cases e
        obtain ⟨F1, m⟩ := move1_ok R x a h1
        have hl : HeldL g F1 H σ env1 (New H0 O0) os vs := by
          have sl : ∀ k, os.any (Opd.is k) = true → ∀ s, env[k]? = some (some s) → ∃ s', env1[k]? = some (some s') := fun k hk s ek => move1_slot h1 hk ek (fun hi => m.keep k s hi ek)
          clear h2
          have : ∀ {ps : List Opd} {ws : List V}, HeldL g F H σ env (New H0 O0) ps ws → (∀ k, ps.any (Opd.is k) = true → os.any (Opd.is k) = true) → (o.fr = true → ∀ (k : Nat) (o' : Opd), ps[k]? = some o' → o'.fr = true → ws[k]? ≠ some v) → HeldL g F1 H σ env1 (New H0 O0) ps ws := by
            intro ps
            induction ps with
            | nil => intro ws h _ _; cases h; exact .nil
            | cons q ps ih =>
              intro ws h hs hn
              cases h with
              | cons a1 b1 c1 =>
                refine .cons (m.heldO R a1 (fun k z => ?_) fun z1 z2 e => hn z1 0 _ rfl z2 (by rw [e]; rfl)) b1 (ih c1 (fun k hk => hs k (by rw [List.any_cons, hk, Bool.or_true])) fun z k o' e f => hn z (k + 1) o' e f)
                subst z
                obtain ⟨_, s, es⟩ := a1
                exact sl k (hs k (by simp [Opd.is])) s es
          exact this c (fun _ h => h) b
        obtain ⟨F2, m2, x2, R2, h3, st, aw2, nw⟩ := moves_ok m.rep m.ext hl h2
        -- the first result stays apart from the rest
        have first : HeldO g F2 H σ envE (New H0 O0) (.vl r.1 r.2) v ∧ (r.2 = true → ∀ (k : Nat) (o' : Opd), (rs1.map fun r => Opd.vl r.1 r.2)[k]? = some o' → o'.fr = true → vs[k]? ≠ some v) := by
          have hd := m.held
          obtain ⟨rp, rf⟩ := r
          cases rf with
          | false => exact ⟨RepV.mono m2 (fun _ _ _ e => e) hd, fun z => by cases z⟩
          | true =>
            obtain ⟨b1, rfl, nb, cb, nn, aw⟩ := hd
            -- what is fresh behind is elsewhere
            have apart : ∀ k : Nat, (∃ o : Opd, os[k]? = some o ∧ o.fr = true) → vs[k]? ≠ some (.ref b1) := fun k ⟨o', eo, fo⟩ ev => by
              cases fr : o.fr with
              | true => exact b fr k o' eo fo ev
              | false =>
                obtain ⟨w, ew, hw⟩ := c.get eo
                rw [ev] at ew; cases ew
                obtain ⟨b2, e2, nb2, _, _, aw2⟩ := hw.fresh fo
                cases e2
                -- o is a slot's object
                have own1 : Own σ env b1 := by
                  cases o with
                  | wk _ _ => cases a
                  | vl q f =>
                    cases f with
                    | true => cases fr
                    | false => simp [move1, move] at h1
                  | sl j =>
                    obtain ⟨es, s, esj⟩ := a
                    simp only [move1] at h1
                    split at h1
                    · split at h1
                      · cases h1
                      · cases h1
                    · simp only [move] at h1
                      split at h1
                      · rename_i q ej
                        exact ⟨j, q, ej, es⟩
                      · split at h1
                        · cases h1
                        · cases h1
                exact aw2.notOwn R nb2 own1
            obtain ⟨nb2, aw3⟩ := aw2 b1 nb aw apart
            refine ⟨⟨b1, rfl, nb2, cb.mono m2 (fun _ _ _ e => e) fun _ e => e, nn, aw3⟩, fun _ k o' e f ev => ?_⟩
            rw [List.getElem?_map] at e
            obtain ⟨r1, er1, rfl⟩ := Option.map_eq_some_iff.mp e
            have f' : r1.2 = true := by
              obtain ⟨q1, q2⟩ := r1
              cases q2 with
              | true => rfl
              | false => cases f
            rcases nw b1 k r1 er1 f' ev with z | z
            · exact apart k z ev
            · exact aw.notOwn m.rep nb z
        refine ⟨F2, fun a h => m2 a (m.mono a h), x2, R2, .cons first.1 (fun z => first.2 (by
          obtain ⟨rp, rf⟩ := r
          cases rf with
          | true => rfl
          | false => cases z)) h3, m.str.trans st, fun b1 nb aw hn => ?_, fun b1 k r1 er f ev => ?_⟩
        · have nb1 : ¬ F1 b1 := fun hb => by
            rcases m.newF b1 hb with q | q | ⟨z, q⟩
            · exact nb q
            · exact aw.notOwn R nb q
            · exact hn 0 ⟨o, rfl, z⟩ (by rw [q]; rfl)
          exact aw2 b1 nb1 (m.away b1 nb1 aw) fun k hk => hn (k + 1) hk
        · cases k with
          | zero =>
            cases er
            cases ev
            cases fr : o.fr with
            | true => exact .inl ⟨o, rfl, fr⟩
            | false =>
              right
              cases o with
              | wk _ _ => cases a
              | vl q f1 =>
                cases f1 with
                | true => cases fr
                | false =>
                  simp only [move1, move, Option.some.injEq, Prod.mk.injEq] at h1
                  rw [← h1.1] at f
                  cases f
              | sl j =>
                obtain ⟨es, s, esj⟩ := a
                simp only [move1] at h1
                split at h1
                · split at h1
                  · cases h1; cases f
                  · cases h1
                · simp only [move] at h1
                  split at h1
                  · rename_i q ej
                    exact ⟨j, q, ej, es⟩
                  · split at h1
                    · cases h1; cases f
                    · cases h1
          | succ k =>
            rcases nw b1 k r1 er f ev with z | z
            · exact .inl z
            · exact .inr (m.own _ z)
      · cases e
    · cases e
theorem str_store (e : store pm i p f env = some env') : StR pm σ (σ.set i (some v)) env env' := by
  obtain ⟨rfl, hp, hk, hl⟩ := store_eq e
  refine ⟨fun k q ek => ?_, fun k hk' => ?_⟩
  · have : i ≠ k := fun z => hk q (by rw [z]; exact ek)
    exact ⟨by rw [List.getElem?_set_ne this]; exact ek, by rw [List.getElem?_set_ne this]⟩
  · have : i ≠ k := fun z => hp (by rw [z]; exact hk')
    rw [List.getElem?_set_ne this]
theorem Away.storeT {b : Addr} (aw : Away g F H σ env a) (n : v ≠ .ref a) : Away g F H (σ.set i (some v)) (env.set i (some ⟨p, kd f⟩)) a := fun j s e k es => by
  rcases set_get e with ⟨rfl, q⟩ | ⟨m, e⟩
  · rcases set_get es with ⟨_, z⟩ | ⟨z, _⟩
    · cases z; exact (n rfl).elim
    · exact (z rfl).elim
  · rw [List.getElem?_set_ne m] at es
    exact aw j s e k es
theorem storeR_ok : ∀ {is : List Nat} {rs : List Rv} {vs : List V} {σ : St} {env env' : En}, Rep g F H σ env → storeR pm is rs env = some env' → HeldL g F H σ env N0 (rs.map fun r => .vl r.1 r.2) vs →
    Rep g F H (setL σ is vs) env' ∧ (∀ a, Own (setL σ is vs) env' a → N0 a ∨ Own σ env a) ∧ StR pm σ (setL σ is vs) env env' ∧ vs.length = is.length
  | [], [], _, σ, env, _, R, e, .nil => by cases e; exact ⟨R, fun _ h => .inr h, .refl, rfl⟩
  | i :: is, (q, f) :: rs, _, σ, env, _, R, e, .cons (v := v) (vs := vs) a b c => by
    unfold storeR at e
    split at e
    · rename_i env1 h1
      have st := str_store (σ := σ) (v := v) h1
      obtain ⟨rfl, _⟩ := store_eq h1
      have R1 := rep_store (i := i) R a
      have hl : HeldL g F H (σ.set i (some v)) (env.set i (some ⟨q, kd f⟩)) N0 (rs.map fun r => .vl r.1 r.2) vs := by
        have : ∀ {ps : List Rv} {ws : List V}, HeldL g F H σ env N0 (ps.map fun r => .vl r.1 r.2) ws → (f = true → ∀ (k : Nat) (o' : Opd), (ps.map fun r => Opd.vl r.1 r.2)[k]? = some o' → o'.fr = true → ws[k]? ≠ some v) → HeldL g F H (σ.set i (some v)) (env.set i (some ⟨q, kd f⟩)) N0 (ps.map fun r => .vl r.1 r.2) ws := by
          intro ps
          induction ps with
          | nil => intro ws h _; cases h; exact .nil
          | cons r ps ih =>
            intro ws h hn
            cases h with
            | cons a1 b1 c1 =>
              refine .cons ?_ b1 (ih c1 fun z k o' e f => hn z (k + 1) o' e f)
              obtain ⟨rp, rf⟩ := r
              cases rf with
              | false => exact a1
              | true =>
                obtain ⟨b2, rfl, nb, cb, nn, aw⟩ := a1
                refine ⟨b2, rfl, nb, cb, nn, ?_⟩
                cases f with
                | false => exact aw.storeF
                | true => exact aw.storeT (b := b2) fun z => hn rfl 0 _ rfl rfl (by rw [z]; rfl)
        exact this c fun z => b (by rw [z]; rfl)
      obtain ⟨R2, o2, s2, l2⟩ := storeR_ok R1 e hl
      refine ⟨R2, fun a1 h => ?_, st.trans s2, by simp [l2]⟩
      rcases o2 a1 h with z | z
      · exact .inl z
      · rcases own_store z with ⟨z1, z2⟩ | z
        · subst z1
          obtain ⟨b2, e2, _, _, nn, _⟩ := a
          rw [z2] at e2; cases e2
          exact .inl nn
        · exact .inr z
    · cases e
  | [], _ :: _, _, _, _, _, _, e, _ => by cases e
  | _ :: _, [], _, _, _, _, _, e, _ => by cases e
theorem RepK.put {k : Key} {y : PV} {w : V} {ps : List (Key × PV)} {vs : List (Key × V)} (l : RepK g F H ps vs) (r : RepV g F H y w) : RepK g F H (putP ps k y) (putK vs k w) := by
  have any : ∀ {ps : List (Key × PV)} {vs : List (Key × V)}, RepK g F H ps vs → (ps.any fun kv => decide (kv.1 = k)) = (vs.any fun kv => decide (kv.1 = k)) := by
    intro ps
    induction ps with
    | nil => intro vs h; cases h; rfl
    | cons q ps ih => intro vs h; cases h with | cons a b => rw [List.any_cons, List.any_cons, ih b]
  have mp : ∀ {ps : List (Key × PV)} {vs : List (Key × V)}, RepK g F H ps vs → RepK g F H (ps.map fun kv => if kv.1 = k then (kv.1, y) else kv) (vs.map fun kv => if kv.1 = k then (kv.1, w) else kv) := by
    intro ps
    induction ps with
    | nil => intro vs h; cases h; exact .nil
    | cons q ps ih =>
      intro vs h
      cases h with
      | @cons k' _ _ _ _ a b =>
        rw [List.map_cons, List.map_cons]
        by_cases hk : k' = k
        · simp only [hk, if_true]; exact .cons r (ih b)
        · simp only [hk, if_false]; exact .cons a (ih b)
  have ap : ∀ {ps : List (Key × PV)} {vs : List (Key × V)}, RepK g F H ps vs → RepK g F H (ps ++ [(k, y)]) (vs ++ [(k, w)]) := by
    intro ps
    induction ps with
    | nil => intro vs h; cases h; exact .cons r .nil
    | cons q ps ih => intro vs h; cases h with | cons a b => exact .cons a (ih b)
  unfold putP putK
  rw [any l]
  split
  · exact mp l
  · exact ap l
theorem RepT.put {k : List Key} {y : PV} {w : V} {ps : List (List Key × PV)} {vs : List (List Key × V)} (l : RepT g F H ps vs) (r : RepV g F H y w) : RepT g F H (putP ps k y) (putK vs k w) := by
  have any : ∀ {ps : List (List Key × PV)} {vs : List (List Key × V)}, RepT g F H ps vs → (ps.any fun kv => decide (kv.1 = k)) = (vs.any fun kv => decide (kv.1 = k)) := by
    intro ps
    induction ps with
    | nil => intro vs h; cases h; rfl
    | cons q ps ih => intro vs h; cases h with | cons a b => rw [List.any_cons, List.any_cons, ih b]
  have mp : ∀ {ps : List (List Key × PV)} {vs : List (List Key × V)}, RepT g F H ps vs → RepT g F H (ps.map fun kv => if kv.1 = k then (kv.1, y) else kv) (vs.map fun kv => if kv.1 = k then (kv.1, w) else kv) := by
    intro ps
    induction ps with
    | nil => intro vs h; cases h; exact .nil
    | cons q ps ih =>
      intro vs h
      cases h with
      | @cons k' _ _ _ _ a b =>
        rw [List.map_cons, List.map_cons]
        by_cases hk : k' = k
        · simp only [hk, if_true]; exact .cons r (ih b)
        · simp only [hk, if_false]; exact .cons a (ih b)
  have ap : ∀ {ps : List (List Key × PV)} {vs : List (List Key × V)}, RepT g F H ps vs → RepT g F H (ps ++ [(k, y)]) (vs ++ [(k, w)]) := by
    intro ps
    induction ps with
    | nil => intro vs h; cases h; exact .cons r .nil
    | cons q ps ih => intro vs h; cases h with | cons a b => exact .cons a (ih b)
  unfold putP putK
  rw [any l]
  split
  · exact mp l
  · exact ap l
theorem RepT.length : ∀ {ps : List (List Key × PV)} {vs : List (List Key × V)}, RepT g F H ps vs → ps.length = vs.length
  | _, _, .nil => rfl
  | _, _, .cons _ t => congrArg Nat.succ t.length
end
end L2.Pz
set_option Elab.async false
set_option linter.all false
set_option maxRecDepth 100000
set_option maxHeartbeats 4000000
namespace L2.Pz
set_option autoImplicit false
open PySem PySem.Spec PyProof.Rows L2

/-! ## Pz20: the checker of statements -/
def swBl (Γ : Scope) (x : Str) (px : Pos) : Expr → Bool
  | .ListComp _ _ s q | .SetComp _ _ s q | .DictComp _ _ _ s q => (Γ.names.lookup x == some .local) && (px.line == q.line) && !(s.names.any fun (n, k) => n == x && (k == .local || k == .cell))
  | _ => false
theorem swBl_ok {env : Env} (hk : env.scope.kind = .function) (x : Str) (px : Pos) (l : Nat) (e : Expr) : swapsWith e (some (.Name x px)) l env = pure (swBl env.scope x px e) := by
  have hb : env.blockKind = .function := by unfold Env.blockKind; rw [hk]; rfl
  cases e <;> first | rfl | (unfold swapsWith swBl; simp only [hb, Expr.pos, Env.kindOf]; rfl)
def notCompE : Expr → Bool
  | .ListComp _ _ _ _ | .SetComp _ _ _ _ | .DictComp _ _ _ _ _ => false
  | _ => true
theorem swNo {env : Env} {e : Expr} (h : notCompE e = true) (t : Option Expr) (l : Nat) : swapsWith e t l env = pure false := by
  cases e <;> first | rfl | cases h
theorem swTup {env : Env} {e : Expr} {ts : List Expr} {k : Nat} {p : Pos} (l : Nat) : swapsWithSole [.Tuple ts k p] e l env = pure false := by
  cases e <;> rfl
theorem swSub {env : Env} {e o i : Expr} {p : Pos} (l : Nat) : swapsWithSole [.Subscript o i p] e l env = pure false := by
  cases e <;> rfl
/-- the names of a tuple target that are plain locals on its line -/
def swNames (Γ : Scope) (ts : List Expr) : List Str := ts.filterMap fun
    | .Name id pos => if Γ.names.lookup id == some .local && pos.line == ((ts.head?.map (·.pos.line)).getD 0) then some id else none
    | _ => none
def noSw (Γ : Scope) (ts vs : List Expr) : Bool := !(ts.length == 2 || ts.length == 3) || vs.length != ts.length || (swNames Γ ts).length != ts.length || (swNames Γ ts).eraseDups.length != (swNames Γ ts).length || vs.all (foldedForSure 8)
def yesSw (Γ : Scope) (ts vs : List Expr) : Bool := (ts.length == 2 || ts.length == 3) && vs.length == ts.length && vs.all nstar && (swNames Γ ts).length == ts.length && (swNames Γ ts).eraseDups.length == (swNames Γ ts).length && !(vs.all (foldedForSure 8)) && !(vs.all (constantsAlone 8))
theorem yesSw_ok {env : Env} (hk : env.scope.kind = .function) {ts vs : List Expr} {k k2 : Nat} {p p2 : Pos} (h : yesSw env.scope ts vs = true) : swappedStores [.Tuple ts k p] (.Tuple vs k2 p2) env = pure (some (swNames env.scope ts)) := by
  have hb : env.blockKind = .function := by unfold Env.blockKind; rw [hk]; rfl
  unfold yesSw at h
  simp only [Bool.and_eq_true, Bool.not_eq_true'] at h
  obtain ⟨⟨⟨⟨⟨⟨h1, h2⟩, h3⟩, h4⟩, h5⟩, h6⟩, h7⟩ := h
  have h2' : (vs.length != ts.length) = false := by rw [bne, h2]; rfl
  have h4' : ((swNames env.scope ts).length != ts.length) = false := by rw [bne, h4]; rfl
  have h5' : ((swNames env.scope ts).eraseDups.length != (swNames env.scope ts).length) = false := by rw [bne, h5]; rfl
  have h3' : (vs.any fun | .Starred .. => true | _ => false) = false := by
    rw [List.any_eq_false]
    intro e he
    have := List.all_eq_true.mp h3 e he
    cases e <;> first | (simp [nstar] at this; done) | simp
  unfold swappedStores
  simp only [hb]
  split
  · rename_i n; rw [h1, h2'] at n; exact absurd n (by decide)
  · split
    · rename_i n; exact Bool.noConfusion (show false = true from h3'.symm.trans n)
    · split
      · rename_i n
        have n : ((swNames env.scope ts).length != ts.length || (swNames env.scope ts).eraseDups.length != (swNames env.scope ts).length) = true := n
        rw [h4', h5'] at n; cases n
      · split
        · rename_i n; rw [h6] at n; cases n
        · split
          · rename_i n; rw [h7] at n; cases n
          · rfl
theorem noSw_ok {env : Env} (hk : env.scope.kind = .function) {ts vs : List Expr} {k k2 : Nat} {p p2 : Pos} (h : noSw env.scope ts vs = true) : swappedStores [.Tuple ts k p] (.Tuple vs k2 p2) env = pure none := by
  have hb : env.blockKind = .function := by unfold Env.blockKind; rw [hk]; rfl
  unfold noSw at h
  simp only [Bool.or_eq_true, Bool.not_eq_true'] at h
  unfold swappedStores
  simp only [hb]
  split
  · rfl
  · split
    · rfl
    · rename_i n1 n2
      split
      · rfl
      · rename_i n3
        have n3 : ¬ ((swNames env.scope ts).length != ts.length || (swNames env.scope ts).eraseDups.length != (swNames env.scope ts).length) = true := n3
        split
        · rfl
        · rename_i n4
          simp only [Bool.or_eq_true, not_or, Bool.not_eq_true'] at n1 n3
          rcases h with (((h | h) | h) | h) | h
          · exact (n1.1.1 h).elim
          · exact (n1.1.2 h).elim
          · exact (n3.1 h).elim
          · exact (n3.2 h).elim
          · exact (n4 h).elim

section
variable (N : List Str) (nf : Nf)
def notTupE : Expr → Bool
  | .Tuple _ _ _ => false
  | _ => true
def isTupOf (Γ : Scope) (ts : List Expr) : Expr → Bool
  | .Tuple vs _ _ => noSw Γ ts vs
  | _ => true
mutual
def chkS (Γ : Scope) : S → Stmt → Bool
  | .ex e, .Expr e' _ => chkE N nf Γ e e' && notCompE e' && e.sv
  | .set i e, .Assign [.Name x px] e' _ => decide (N[i]? = some x) && locB Γ x && chkE N nf Γ e e' && (match swBl Γ x px e', e with
    | false, _ => true
    | true, .lc _ _ _ _ => true
    | true, .lc2 _ _ _ _ _ _ _ => true
    | true, _ => false)
  | .unp is e, .Assign [.Tuple ts _ _] e' _ => tgB.tgsB N Γ is ts && chkE N nf Γ e e' && isTupOf Γ ts e'
  | .par is es, .Assign [.Tuple ts _ _] (.Tuple es' _ _) _ => decide (is.Nodup) && chkEs N nf Γ es es' && yesSw Γ ts es' && decide (swNames Γ ts = is.map fun i => N.getD i (Str.ofString "")) && is.all (fun i => (match N[i]? with
      | some x => (Γ.names.lookup x == some .local)
      | none => false)) && (match ts with
    | [.Name _ _, .Name _ _] => true
    | [.Name _ _, .Name _ _, .Name _ _] => true
    | _ => false)
  | .sti i k e, .Assign [.Subscript (.Name x _) k' _] e' _ => nmB N Γ i x && chkE N nf Γ k k' && chkE N nf Γ e e' && plainIxB k'
  | .aug i .add e, .AugAssign (.Name x _) .Add e' _ => decide (N[i]? = some x) && locB Γ x && chkE N nf Γ e e'
  | .aug i .sub e, .AugAssign (.Name x _) .Sub e' _ => decide (N[i]? = some x) && locB Γ x && chkE N nf Γ e e'
  | .ite c a b, .If c' a' b' _ => chkE N nf Γ c c' && chkSs Γ a a' && chkSs Γ b b'
  | .whl c b, .While c' b' [] _ => chkE N nf Γ c c' && chkSs Γ b b'
  | .for_ tg it b, .For tg' it' b' [] _ => tgB N Γ tg tg' && chkE N nf Γ it it' && itB it tg' it' && chkSs Γ b b'
  | .ret e, .Return (some e') _ => chkE N nf Γ e e'
  | .retN, .Return none _ => true
  | .nev, _ => true
  | .pas, .Pass _ => true
  | .pas, .Expr (.Constant (.str _) _ _) _ => true
  | _, _ => false
def chkSs (Γ : Scope) : List S → List Stmt → Bool
  | [], [] => true
  | s :: ss, t :: ts => chkS Γ s t && chkSs Γ ss ts
  | _, _ => false
end
end

section
variable {g : Gw} {M : Nat → List Md} {C : Cl} {d : Nat} {N : List Str} {nf : Nf} {X : Cx} {F F0 F' : Ad} {H H0 H' : Hp} {σ : St} {env env' : En} {O0 N0 : Ad} {o : Opd} {v : V} {p p' : PV} {a : Addr} {i : Nat} {f : Bool} {pm : List Nat} {W : Lp}
/-- where a body's statements stand -/
structure SxOk (g : Gw) (M : Nat → List Md) (C : Cl) (d : Nat) (N : List Str) (nf : Nf) (X : Cx) : Prop where
  ok : CxOk g M C d N nf X
  kind : X.env.scope.kind = .function
  loc : ∀ x, locB X.env.scope x = true → Loc X.env.scope x ∧ (X.fn x = true ∨ X.env.scope.names.lookup x = some .local)
/-- what is wanted behind statements -/
def FinS (g : Gw) (pm : List Nat) (σ : St) (F : Ad) (H : Hp) (env : En) (fl : Fl) (D : Ends) : Prop := match fl with
  | .nx env' => ∀ σ' F' H', Ext F H (Own σ env) F' H' (Own σ' env') → Rep g F' H' σ' env' → StR pm σ σ' env env' → D.nx σ' H'
  | .rt p k env' => ∀ v σ' F' H', Ext F H (Own σ env) F' H' (Own σ' env') → Rep g F' H' σ' env' → StR pm σ σ' env env' → HeldO g F' H' σ' env' (New H (Own σ env)) (.vl p k) v → D.rt v H'
theorem FinS.pre {σ1 : St} {F1 : Ad} {H1 : Hp} {env1 : En} {fl : Fl} {D : Ends} (h : FinS g pm σ F H env fl D) (x : Ext F H (Own σ env) F1 H1 (Own σ1 env1)) (s : StR pm σ σ1 env env1) : FinS g pm σ1 F1 H1 env1 fl D := by
  cases fl with
  | nx env' => exact fun σ' F' H' x' R' s' => h σ' F' H' (x.tr x') R' (s.trans s')
  | rt p k env' => exact fun v σ' F' H' x' R' s' hv => h v σ' F' H' (x.tr x') R' (s.trans s') (hv.wid x.new)
variable (g M C W pm) in
def tS (s : S) : TS := fun D σ H => ∃ F env fl, Rep g F H σ env ∧ ex M C W pm s env = some fl ∧ FinS g pm σ F H env fl D
variable (g M C W pm) in
def tSs (ss : List S) : TS := fun D σ H => ∃ F env fl, Rep g F H σ env ∧ exs M C W pm ss env = some fl ∧ FinS g pm σ F H env fl D
theorem psI {st : Stmt} {t t' : TS} (h : PS X st t) (f : ∀ D σ H, t' D σ H → t D σ H) : PS X st t' := ⟨fun pins s σ H D I q => h.run pins s σ H D I (f D σ H q)⟩
theorem pssI {st : List Stmt} {t t' : TS} (h : PSs X st t) (f : ∀ D σ H, t' D σ H → t D σ H) : PSs X st t' := ⟨fun pins s σ H D I q => h.run pins s σ H D I (f D σ H q)⟩
theorem tSs_nil {D : Ends} {σ : St} {H : Hp} (h : tSs g M C pm W [] D σ H) : tNext D σ H := by
  obtain ⟨F, env, fl, R, e, k⟩ := h
  simp only [exs] at e
  cases e
  exact k σ F H .refl R .refl
theorem tSs_cons {s : S} {ss : List S} {D : Ends} {σ : St} {H : Hp} (h : tSs g M C pm W (s :: ss) D σ H) : tSeq (tS g M C pm W s) (tSs g M C pm W ss) D σ H := by
  obtain ⟨F, env, fl, R, e, k⟩ := h
  simp only [exs] at e
  split at e
  · rename_i env1 h1
    exact ⟨F, env, .nx env1, R, h1, fun σ1 F1 H1 x1 R1 s1 => ⟨F1, env1, fl, R1, e, k.pre x1 s1⟩⟩
  · rename_i r h1
    refine ⟨F, env, fl, R, e, ?_⟩
    cases fl with
    | nx env' => exact (h1 env' (by rw [e])).elim
    | rt p kk env' => exact k
/-- name = e, whatever the order of the line's marks -/
theorem set_go {e : E} {D : Ends} {σ : St} {H : Hp} (h : tS g M C pm W (.set i e) D σ H) : tAsg (tEv g M C e) (gName i) D σ H := by
  obtain ⟨F, env, fl, R, ee, k⟩ := h
  simp only [ex] at ee
  split at ee
  case h_2 => cases ee
  rename_i x env1 h1
  split at ee
  case h_2 => cases ee
  rename_i p f env2 h2
  split at ee
  case h_2 => cases ee
  rename_i env3 h3
  cases ee
  refine ⟨F, env, x, env1, R, h1, ?_, fun v F1 H1 x1 R1 hv => ?_⟩
  · cases x with
    | wk _ _ => cases h2
    | vl _ _ => rfl
    | sl _ => rfl
  obtain ⟨F2, m⟩ := move_ok R1 x1 hv h2
  have st := str_store (σ := σ) (v := v) h3
  obtain ⟨rfl, _⟩ := store_eq h3
  refine k _ F2 H1 (m.ext.own' fun a h => ?_) (rep_store m.rep m.held) (((ev_rel e h1).str.trans m.str).trans st)
  rcases own_store h with ⟨z1, z2⟩ | z
  · subst z1
    obtain ⟨b, eb, _, _, nb, _⟩ := m.held
    rw [z2] at eb; cases eb
    exact nb
  · exact m.ext.newO a z
theorem ret_go {e : E} {D : Ends} {σ : St} {H : Hp} (h : tS g M C pm W (.ret e) D σ H) : tRet (tEv g M C e) D σ H := by
  obtain ⟨F, env, fl, R, ee, k⟩ := h
  simp only [ex] at ee
  split at ee
  case h_2 => cases ee
  rename_i x env1 h1
  split at ee
  case h_2 => cases ee
  rename_i p f env2 h2
  cases ee
  refine ⟨F, env, x, env1, R, h1, ?_, fun v F1 H1 x1 R1 hv => ?_⟩
  · cases x with
    | wk _ _ => cases h2
    | vl _ _ => rfl
    | sl _ => rfl
  obtain ⟨F2, m⟩ := move_ok R1 x1 hv h2
  exact k v σ F2 H1 m.ext m.rep ((ev_rel e h1).str.trans m.str) m.held
theorem unp_go {is : List Nat} {e : E} {D : Ends} {σ : St} {H : Hp} (h : tS g M C pm W (.unp is e) D σ H) : tAsg (tEv g M C e) (gTg (.many is)) D σ H := by
  obtain ⟨F, env, fl, R, ee, k⟩ := h
  simp only [ex] at ee
  split at ee
  case h_2 => cases ee
  rename_i x env1 h1
  split at ee
  case h_2 => cases ee
  rename_i ps h2
  split at ee
  case h_2 => cases ee
  rename_i env2 h3
  cases ee
  refine ⟨F, env, x, env1, R, h1, ok_d h2, fun v F1 H1 x1 R1 hv => ?_⟩
  have r : RepV g F1 H1 (.tup ps) v := (hv.peek R1 h2).imm rfl
  refine bind_ok (pm := pm) (tg := .many is) (x := .tup ps) R1 h3 r fun σ1 R2 o2 a2 g2 l2 => k σ1 F1 H1 (x1.sub o2) R2 ?_
  refine (ev_rel e h1).str.trans ?_
  have : ∀ {is : List Nat} {ps : List PV} {env env' : En}, stores pm is ps env = some env' → (∀ (i : Nat) (q : PV), env[i]? = some (some ⟨q, .lk⟩) → i ∉ is ∧ env'[i]? = some (some ⟨q, .lk⟩)) ∧ ∀ i ∈ pm, i ∉ is := by
    intro is
    induction is with
    | nil => intro ps env env' h; cases ps with
      | nil => cases h; exact ⟨fun i q e => ⟨by simp, e⟩, fun i _ => by simp⟩
      | cons _ _ => cases h
    | cons j is ih =>
      intro ps env env' h
      cases ps with
      | nil => cases h
      | cons q ps =>
        unfold stores at h
        split at h
        · rename_i env1 h1
          obtain ⟨i1, i2⟩ := ih h
          obtain ⟨rfl, hp, hk, _⟩ := store_eq h1
          refine ⟨fun i q e => ?_, fun i hi => ?_⟩
          · have hj : j ≠ i := fun z => hk q (by rw [z]; exact e)
            obtain ⟨z1, z2⟩ := i1 i q (by rw [List.getElem?_set_ne hj]; exact e)
            exact ⟨by simp only [List.mem_cons, not_or]; exact ⟨hj.symm, z1⟩, z2⟩
          · simp only [List.mem_cons, not_or]
            exact ⟨fun z => hp (by rw [← z]; exact hi), i2 i hi⟩
        · cases h
  obtain ⟨s1, s2⟩ := this h3
  exact ⟨fun i q e => ⟨(s1 i q e).2, g2 i (s1 i q e).1⟩, fun i hi => g2 i (s2 i hi)⟩
theorem par_go {is : List Nat} {es : List E} {D : Ends} {σ : St} {H : Hp} (h : tS g M C pm W (.par is es) D σ H) : tEs g M C es σ H fun vs H1 => vs.length = is.length ∧ D.nx (setL σ is vs) H1 := by
  obtain ⟨F, env, fl, R, ee, k⟩ := h
  simp only [ex] at ee
  split at ee
  case h_2 => cases ee
  rename_i os env1 h1
  split at ee
  case h_2 => cases ee
  rename_i rs env2 h2
  split at ee
  case h_2 => cases ee
  rename_i env3 h3
  cases ee
  have okm : ∀ {os : List Opd} {rs : List Rv} {env env' : En}, moves pm os env = some (rs, env') → os.all Opd.ok = true := by
    intro os
    induction os with
    | nil => intro _ _ _ _; rfl
    | cons o os ih =>
      intro rs env env' h
      unfold moves at h
      split at h
      · rename_i h1
        split at h
        · rename_i h2
          rw [List.all_cons, ih h2, Bool.and_true]
          cases o with
          | wk _ _ => cases h1
          | vl _ _ => rfl
          | sl _ => rfl
        · cases h
      · cases h
  refine ⟨F, env, os, env1, R, h1, okm h2, fun vs F1 H1 x1 R1 hl => ?_⟩
  obtain ⟨F2, m2, x2, R2, h4, st, _, _⟩ := moves_ok R1 x1 hl h2
  obtain ⟨R3, o3, s3, l3⟩ := storeR_ok R2 h3 h4
  refine ⟨l3, k _ F2 H1 (x2.own' fun a h => ?_) R3 (((evs_rel es h1).str.trans st).trans s3)⟩
  rcases o3 a h with z | z
  · exact z
  · exact x2.newO a z
theorem aug_go {j : Bop} {e : E} {D : Ends} {σ : St} {H : Hp} {fn : Int → Int → Int} (hj : ∀ p q : Int, binF j (.int p) (.int q) = some (.int (fn p q), false)) (h : tS g M C pm W (.aug i j e) D σ H) : tAug i (tEv g M C e) (ipI fn) D σ H := by
  obtain ⟨F, env, fl, R, ee, k⟩ := h
  simp only [ex] at ee
  split at ee
  case h_2 => cases ee
  rename_i y env1 h1
  split at ee
  case h_2 => cases ee
  rename_i p q h2 h3
  rw [hj] at ee
  simp only at ee
  split at ee
  case h_2 => cases ee
  rename_i env2 h4
  cases ee
  have er := ev_rel e h1
  have hs : ∃ s, env1[i]? = some (some s) ∧ s.v = .int p := by
    simp only [deref] at h2
    split at h2
    · rename_i s es; exact ⟨s, es, Option.some.inj h2⟩
    · cases h2
  have hx : ∃ x, σ[i]? = some (some x) := by
    obtain ⟨s, es, _⟩ := hs
    obtain ⟨s0, e0, _⟩ := er.back es
    obtain ⟨w, ew, _⟩ := R.slot i s0 e0
    exact ⟨w, ew⟩
  obtain ⟨x, ex0⟩ := hx
  refine ⟨x, ex0, F, env, y, env1, R, h1, ok_d h3, fun v F1 H1 x1 R1 hv => ?_⟩
  have xi : x = .int p := by
    obtain ⟨s, es, ev⟩ := hs
    obtain ⟨w, ew, r⟩ := R1.slot i s es
    rw [ex0] at ew; cases ew
    have := r.peek
    rw [ev] at this
    exact this.int
  refine ⟨p, q, xi, (hv.peek R1 h3).int, ?_⟩
  have st := str_store (σ := σ) (v := .int (fn p q)) h4
  obtain ⟨rfl, _⟩ := store_eq h4
  refine k _ F1 H1 (x1.sub fun a h => ?_) (rep_store (N0 := fun _ => True) (f := false) R1 (.int _)) (er.str.trans st)
  rcases own_store h with ⟨z, _⟩ | z
  · cases z
  · exact z
theorem sti_go (hK : X.K = g.K) {k e : E} {D : Ends} {σ : St} {H : Hp} (h : tS g M C pm W (.sti i k e) D σ H) : tAsg (tEv g M C e) (gSub (tVar i) (tEv g M C k) (fun o i v H Q => rSetL o i v H Q ∨ rSetD o i v H Q)) D σ H := by
  obtain ⟨F, env, fl, R, ee, kk⟩ := h
  simp only [ex] at ee
  split at ee
  case h_2 => cases ee
  rename_i y env1 h1
  split at ee
  case h_2 => cases ee
  rename_i yp env2 h2
  split at ee
  case h_2 => cases ee
  rename_i ko env3 h3
  split at ee
  case h_2 => cases ee
  rename_i kp p h4 h5
  split at ee
  case h_2 => cases ee
  rename_i p' h6
  cases ee
  have er2 := consume_rel h2
  have er3 := ev_rel k h3
  refine ⟨F, env, y, env1, R, h1, ok_c h2, fun v F1 H1 x1 R1 hv => ?_⟩
  obtain ⟨F2, c, r⟩ := consume_ok R1 x1 hv h2
  have hx : ∃ x, σ[i]? = some (some x) := by
    obtain ⟨s0, e0, _⟩ := er3.back h5
    obtain ⟨w, ew, _⟩ := c.rep.slot i s0 e0
    exact ⟨w, ew⟩
  obtain ⟨x, ex0⟩ := hx
  refine ⟨x, ex0, F2, env2, ko, env3, c.rep, h3, ok_d h4, fun kv F3 H3 x3 R3 hkv => ?_⟩
  obtain ⟨l, el, nl, cl⟩ := R3.exc h5 rfl
  rw [ex0] at el; cases el
  have r3 : RepV g F3 H3 yp v := r.ext x3 fun b hb => c.rep.ownF hb
  have pk := hkv.peek R3 h4
  have fin : ∀ {u : HO} {p' : PV}, RepC g F3 (upd H3 l u) l p' → FinS g pm σ F H env (.nx (env3.set i (some ⟨p', .own⟩))) D → D.nx σ (upd H3 l u) := fun {u p'} rc kk => by
    obtain ⟨R4, x4⟩ := rep_own R3 h5 ex0 rc
    exact kk σ F3 _ ((c.ext.tr x3).tr x4) R4 (((((ev_rel e h1).trans er2).trans er3).trans (EnvRel.setFz h5 (.inl rfl))).str)
  have kp : ∀ {u : HO} (b : Addr) (o : HO), F3 b → H3 b = some o → (upd H3 l u) b = some o := fun b o hb e => by rw [upd_ne (ne_nf nl hb)]; exact e
  unfold setF at h6
  split at h6
  · rename_i xs j
    obtain ⟨n, en, rfl⟩ := Option.map_eq_some_iff.mp h6
    cases cl with
    | lst eH lv =>
      rename_i us
      left
      refine ⟨l, us, j, n, rfl, pk.int, eH, by rw [← lv.length]; exact en, fin (.lst upd_same ((lv.set r3 n).mono (fun _ h => h) kp)) kk⟩
  · rename_i kvs
    split at h6
    · rename_i key ek
      split at h6
      · rename_i hz
        cases h6
        cases cl with
        | dk eH lv =>
          rename_i us
          right
          have e1 := toKey_some pk ek
          subst e1
          exact ⟨l, _, rfl, DPut.k eH (by rw [← lv.length]; exact hz), fin (.dk upd_same ((lv.put r3).mono (fun _ h => h) kp)) kk⟩
      · cases h6
    · cases h6
  · rename_i kvs ks
    split at h6
    · rename_i key ek
      split at h6
      · rename_i hz
        cases h6
        cases cl with
        | dt eH lv =>
          rename_i us
          right
          obtain ⟨b, ws, rfl, eb, lb⟩ := pk.tup
          have e1 := toKeys_some lb ek
          subst e1
          exact ⟨l, _, rfl, DPut.t eH eb (by rw [← lv.length]; exact hz), fin (.dt upd_same ((lv.put r3).mono (fun _ h => h) kp)) kk⟩
      · cases h6
    · cases h6
  · cases h6
end
end L2.Pz
set_option Elab.async false
set_option linter.all false
set_option maxRecDepth 100000
set_option maxHeartbeats 4000000
namespace L2.Pz
set_option autoImplicit false
open PySem PySem.Spec PyProof.Rows L2

/-! ## Pz21: loops, defs -/
theorem zip_look : ∀ {ps : List Str} {us : List Value}, ps.Nodup → us.length = ps.length → ps.filterMap (fun n => ((ps.zip us).lookup n).map fun v => (n, v)) = ps.zip us
  | [], _, _, _ => rfl
  | p :: ps, [], _, h => by cases h
  | p :: ps, u :: us, nd, h => by
    have nd' := List.nodup_cons.mp nd
    rw [List.zip_cons_cons, List.filterMap_cons]
    have e1 : List.lookup p ((p, u) :: ps.zip us) = some u := by rw [List.lookup_cons]; simp
    rw [e1]
    simp only [Option.map_some]
    congr 1
    have key : ∀ l : List Str, (∀ n ∈ l, n ≠ p) → l.filterMap (fun n => (List.lookup n ((p, u) :: ps.zip us)).map fun v => (n, v)) = l.filterMap (fun n => ((ps.zip us).lookup n).map fun v => (n, v)) := by
      intro l
      induction l with
      | nil => intro _; rfl
      | cons n l ih =>
        intro hl
        have : (n == p) = false := beq_eq_false_iff_ne.mpr (hl n (List.mem_cons_self ..))
        rw [List.filterMap_cons, List.filterMap_cons, List.lookup_cons, this, ih fun m hm => hl m (List.mem_cons_of_mem _ hm)]
    rw [key ps fun n hn z => nd'.1 (z ▸ hn), zip_look nd'.2 (by simpa using h)]
theorem zip_isSome {ps : List Str} {us : List Value} (h : us.length = ps.length) {n : Str} (hn : n ∈ ps) : ((ps.zip us).lookup n).isNone = false := by
  induction ps generalizing us with
  | nil => cases hn
  | cons p ps ih =>
    cases us with
    | nil => cases h
    | cons u us =>
      rw [List.zip_cons_cons, List.lookup_cons]
      by_cases e : n = p
      · subst e; simp
      · have : (n == p) = false := beq_eq_false_iff_ne.mpr e
        rw [this]
        exact ih (by simpa using h) ((List.mem_cons.mp hn).resolve_left e)
def plainArgs (a : Arguments) : Bool := a.posonlyargs.isEmpty && a.vararg.isNone && a.kwonlyargs.isEmpty && a.kwarg.isNone
theorem bind_all {x qual : Str} {params : Arguments} {body : List Stmt} {scope : Scope} {ps : List Str} {kV doc pm : Value} {an : Option Addr} {cdv ct : Value} {us : List Value} (hp : plainArgs params = true) (hn : params.args.map (·.arg) = ps) (nd : ps.Nodup) (hl : us.length = ps.length) :
    bindArgs (PySem.W.fnOf x qual params body scope .none kV doc pm an cdv ct) ⟨us, []⟩ = pure (ps.zip us) := by
  obtain ⟨a1, a2, a3, a4, a5, a6, a7⟩ := params
  unfold plainArgs at hp
  simp only [Bool.and_eq_true, List.isEmpty_iff, Option.isNone_iff_eq_none] at hp
  obtain ⟨⟨⟨rfl, rfl⟩, rfl⟩, rfl⟩ := hp
  have hm : (ps.filter fun n => ((ps.zip us).lookup n).isNone) = [] := by
    rw [List.filter_eq_nil_iff]
    intro n hn
    rw [zip_isSome hl hn]
    decide
  have e0 : seqItems? Value.none = (pure none : Sem _) := rfl
  have zl := zip_look nd hl
  unfold bindArgs
  simp only [PySem.W.fnOf, List.map_nil, List.nil_append, List.append_nil, hn, List.forIn_nil, pure_bind]
  rw [e0, pure_bind]
  simp only [Option.getD_none, List.length_nil, Nat.zero_sub, List.drop_zero, Nat.sub_zero, List.take_length, hm, List.isEmpty_nil, Bool.not_true, Bool.false_eq_true, if_false, List.drop_length, List.zip_nil_right, List.forIn_nil, pure_bind, hl, Nat.lt_irrefl, decide_false, Bool.false_and, gt_iff_lt]
  exact congrArg pure zl

section
variable {g : Gw} {M : Nat → List Md} {C : Cl} {d : Nat} {N : List Str} {nf : Nf} {X : Cx} {F F0 F' : Ad} {H H0 H' : Hp} {σ : St} {env env' : En} {O0 N0 : Ad} {o : Opd} {v : V} {p p' : PV} {a : Addr} {i : Nat} {f : Bool} {pm : List Nat} {W : Lp}
/-- a loop's meaning is that of its turns -/
def LpOk (W : Lp) : Prop := ∀ (f : En → Option (Sum En Fl)) (e : En) (r : Fl), W f e = some r → ∃ n, turns f n e = some r
theorem whl_go (hW : LpOk W) {c : E} {b : List S} {D : Ends} {σ : St} {H : Hp} (h : tS g M C pm W (.whl c b) D σ H) : tWhile (tTs g M C c) (tSs g M C pm W b) D σ H := by
  obtain ⟨F, env, fl, R, ee, k⟩ := h
  simp only [ex] at ee
  obtain ⟨n, hn⟩ := hW _ _ _ ee
  generalize hf : (fun (env : En) => match ev M C c env with
      | some (x, env) => match deref env x with
        | some (.bl true) => match exs M C W pm b env with
          | some (.nx env) => some (Sum.inl env)
          | some r => some (Sum.inr r)
          | none => none
        | some (.bl false) => some (Sum.inr (Fl.nx env))
        | _ => none
      | none => none) = f at hn
  refine ⟨fun m σ' H' => ∃ F' env', Rep g F' H' σ' env' ∧ turns f m env' = some fl ∧ FinS g pm σ' F' H' env' fl D, ⟨n, F, env, R, hn, k⟩, ?_⟩
  rintro m σ1 H1 ⟨F1, env1, R1, hm, k1⟩
  cases m with
  | zero => cases hm
  | succ m =>
    simp only [turns] at hm
    have hf1 := congrFun hf env1
    rw [← hf1] at hm
    cases h1 : ev M C c env1 with
    | none => rw [h1] at hm; cases hm
    | some xe =>
    obtain ⟨x, env2⟩ := xe
    rw [h1] at hm
    simp only at hm
    cases h2 : deref env2 x with
    | none => rw [h2] at hm; cases hm
    | some pv =>
    rw [h2] at hm
    cases pv with
    | bl kb =>
      cases kb with
      | false =>
        simp only at hm
        cases hm
        refine bl_aheadT R1 h1 h2 fun F2 H2 x2 R2 => ?_
        rw [if_neg Bool.false_ne_true]
        exact k1 σ1 F2 H2 x2 R2 (ev_rel c h1).str
      | true =>
        simp only at hm
        refine bl_aheadT R1 h1 h2 fun F2 H2 x2 R2 => ?_
        rw [if_pos rfl]
        have k2 := k1.pre x2 (ev_rel c h1).str
        refine ⟨fun σ' H' => ∃ F' env', Rep g F' H' σ' env' ∧ turns f m env' = some fl ∧ FinS g pm σ' F' H' env' fl D, fun σ' H' h => ⟨m, Nat.lt_succ_self m, h⟩, ?_⟩
        cases h3 : exs M C W pm b env2 with
        | none => rw [h3] at hm; cases hm
        | some r =>
        rw [h3] at hm
        cases r with
        | nx env3 =>
          simp only at hm
          exact ⟨F2, env2, _, R2, h3, fun σ3 F3 H3 x3 R3 s3 => ⟨F3, env3, R3, hm, k2.pre x3 s3⟩⟩
        | rt q kk env3 =>
          simp only at hm
          cases hm
          exact ⟨F2, env2, _, R2, h3, k2⟩
    | _ => cases hm
theorem unlock_own {env : En} {j : Nat} {x : PV} : ∀ {is : List Nat}, (unlock env is)[j]? = some (some ⟨x, .own⟩) → env[j]? = some (some ⟨x, .own⟩) ∨ (j ∈ is ∧ env[j]? = some (some ⟨x, .lk⟩))
  | [], e => .inl e
  | i :: is, e => by
    have e : (unlock1 (unlock env is) i)[j]? = _ := e
    have key : (unlock env is)[j]? = some (some ⟨x, .own⟩) ∨ (j = i ∧ (unlock env is)[j]? = some (some ⟨x, .lk⟩)) := by
      unfold unlock1 at e
      split at e
      · rename_i p h
        rcases set_get e with ⟨rfl, q⟩ | ⟨_, e⟩
        · cases q; exact .inr ⟨rfl, h⟩
        · exact .inl e
      · exact .inl e
    rcases key with k | ⟨rfl, k⟩
    · exact (unlock_own k).imp id fun z => ⟨List.mem_cons_of_mem _ z.1, z.2⟩
    · have : ∀ {is : List Nat}, (unlock env is)[j]? = some (some ⟨x, .lk⟩) → env[j]? = some (some ⟨x, .lk⟩) := by
        intro is
        induction is with
        | nil => intro e; exact e
        | cons i is ih =>
          intro e
          have e : (unlock1 (unlock env is) i)[j]? = _ := e
          unfold unlock1 at e
          split at e
          · rcases set_get e with ⟨rfl, q⟩ | ⟨_, e⟩
            · cases q
            · exact ih e
          · exact ih e
      exact .inr ⟨List.mem_cons_self .., this k⟩
theorem lock_lk {env : En} {i : Nat} {q : PV} (e : env[i]? = some (some ⟨q, .lk⟩)) {is : List Nat} : (lock env is)[i]? = some (some ⟨q, .lk⟩) := by
  rcases lock_get (is := is) e with ⟨_, h⟩ | ⟨_, h, _⟩
  · exact h
  · cases h
theorem for_go {tg : Tg} {it : E} {b : List S} {D : Ends} {σ : St} {H : Hp} (h : tS g M C pm W (.for_ tg it b) D σ H) : tFor (tIt g M C it) (gTg tg) (tSs g M C pm W b) D σ H := by
  obtain ⟨F, env, fl, R, ee, k⟩ := h
  simp only [ex] at ee
  split at ee
  case h_2 => cases ee
  rename_i x env1 h1
  split at ee
  case h_2 => cases ee
  rename_i xs l h2
  refine ⟨F, env, x, env1, xs, l, R, h1, h2, fun J F1 H1 x1 R1 wl0 => ?_⟩
  have wl := wl0 (Own σ (lock env1 l)) fun a h => .inl h
  have RL : Rep g F1 H1 σ (lock env1 l) := R1.lkr (lock_lkr env1 l)
  have sL : StR pm σ σ env1 (lock env1 l) := ⟨fun i q e => ⟨lock_lk e, rfl⟩, fun _ _ => rfl⟩
  generalize hgo : forGo (fun x env => match bindTg pm tg x env with
          | some env => exs M C W pm b env
          | none => none) xs (lock env1 l) = r at ee
  -- what the loop must reach
  obtain ⟨r0, er, kr⟩ : ∃ r0, r = some r0 ∧ FinS g pm σ F1 H1 (lock env1 l) r0 { D with nx := fun σ' H' => D.nx σ' H' } := by
    cases r with
    | none => cases ee
    | some r0 =>
      refine ⟨r0, rfl, ?_⟩
      cases r0 with
      | nx env3 =>
        simp only at ee
        cases ee
        intro σ' F' H' x' R' s'
        refine k σ' F' H' ((x1.tr (x'.wid fun a h => h.lock)).own' fun a ha => ?_) (R'.lkr (unlock_lkr _ _)) ⟨fun i q e => ?_, fun i hi => s'.pm i hi⟩
        · obtain ⟨j, y, ej, es⟩ := ha
          rcases unlock_own ej with z | ⟨z1, z2⟩
          · rcases x'.newO a ⟨j, y, z, es⟩ with w | w
            · exact x1.newO a w.lock
            · exact .inr (x1.dom a w)
          · obtain ⟨_, q, eq⟩ := mem_lkOf.mp z1
            have el : (lock env1 l)[j]? = some (some ⟨q, .lk⟩) := by
              rcases lock_get (is := l) eq with ⟨w, _⟩ | ⟨_, _, w⟩
              · exact (w z1).elim
              · exact w
            have := (s'.lk j q el).2
            rw [this] at es
            exact x1.newO a ⟨j, q, eq, es⟩
        · have e1 : env1[i]? = some (some ⟨q, .lk⟩) := ((ev_rel it h1).str (pm := pm) (σ := σ)).lk i q e |>.1
          obtain ⟨z1, z2⟩ := s'.lk i q (lock_lk e1)
          refine ⟨?_, z2⟩
          rw [unlock_get.1 fun z => ?_]
          · exact z1
          · obtain ⟨_, q', eq⟩ := mem_lkOf.mp z
            rw [e1] at eq; cases eq
      | rt q kk env3 =>
        simp only at ee
        cases ee
        intro v σ' F' H' x' R' s' hv
        refine k v σ' F' H' (x1.tr (x'.wid fun a h => h.lock)) R' (((ev_rel it h1).str.trans sL).trans s') (hv.wid fun a ha => ?_)
        rcases ha with ha | ha
        · exact x1.newO a ha.lock
        · exact .inr (x1.dom a ha)
  subst er
  generalize hturn : (fun (x : PV) (env : En) => match bindTg pm tg x env with
          | some env => exs M C W pm b env
          | none => none) = turn at hgo
  refine ⟨fun i m σ' H' => m = xs.length - i ∧ i ≤ xs.length ∧ ∃ Fi envi, forGo turn (xs.drop i) envi = some r0 ∧ Rep g Fi H' σ' envi ∧ Ext F1 H1 (Own σ (lock env1 l)) Fi H' (Own σ' envi) ∧ FinS g pm σ' Fi H' envi r0 D, ⟨xs.length, by simp, Nat.zero_le _, F1, lock env1 l, hgo, RL, .refl, kr⟩, ?_⟩
  rintro i m σi Hi ⟨rfl, hi, Fi, envi, hg, Ri, xi, ki⟩
  by_cases hlt : i < xs.length
  · right
    have hx : xs[i]? = some xs[i] := List.getElem?_eq_getElem hlt
    refine ⟨wl.go _ _ _ xi i _ hx, fun σ' H' => ∃ F' envi', forGo turn (xs.drop (i + 1)) envi' = some r0 ∧ Rep g F' H' σ' envi' ∧ Ext F1 H1 (Own σ (lock env1 l)) F' H' (Own σ' envi') ∧ FinS g pm σ' F' H' envi' r0 D, fun σ' H' hn => ⟨xs.length - (i + 1), by omega, rfl, hlt, hn⟩, fun v H' hyl => ?_⟩
    obtain ⟨F2, al⟩ := wl.yld _ _ _ xi i _ v H' hx hyl
    have R3 := al.rep Ri
    have x3 := xi.tr (al.ext (Own σi envi))
    have k3 := ki.pre (al.ext (Own σi envi)) .refl
    rw [drop_cons hx] at hg
    simp only [forGo] at hg
    have ht : _ = turn xs[i] envi := congrFun (congrFun hturn xs[i]) envi
    rw [← ht] at hg
    cases hb : bindTg pm tg xs[i] envi with
    | none => rw [hb] at hg; cases hg
    | some enva =>
      rw [hb] at hg
      simp only at hg
      refine bind_ok R3 hb (al.val rfl) fun σ1 R4 o4 a4 g4 l4 => ?_
      have st : StR pm σi σ1 envi enva := by
        refine ⟨fun j q e => ?_, fun j hj => ?_⟩
        · have nj : j ∉ tg.slots ∧ enva[j]? = some (some ⟨q, .lk⟩) := by
            cases tg with
            | one i' =>
              obtain ⟨rfl, hp, hk, _⟩ := store_eq (show store pm i' _ false envi = some enva from hb)
              have : i' ≠ j := fun z => hk q (by rw [z]; exact e)
              exact ⟨by simp [Tg.slots]; exact this.symm, by rw [List.getElem?_set_ne this]; exact e⟩
            | many is =>
              simp only [bindTg] at hb
              split at hb
              · have : ∀ {is : List Nat} {ps : List PV} {env env' : En}, stores pm is ps env = some env' → env[j]? = some (some ⟨q, .lk⟩) → j ∉ is ∧ env'[j]? = some (some ⟨q, .lk⟩) := by
                  intro is
                  induction is with
                  | nil => intro ps env env' h e; cases ps with
                    | nil => cases h; exact ⟨by simp, e⟩
                    | cons _ _ => cases h
                  | cons i' is ih =>
                    intro ps env env' h e
                    cases ps with
                    | nil => cases h
                    | cons w ps =>
                      unfold stores at h
                      split at h
                      · rename_i env1 h1
                        obtain ⟨rfl, hp, hk, _⟩ := store_eq h1
                        have hj : i' ≠ j := fun z => hk q (by rw [z]; exact e)
                        obtain ⟨z1, z2⟩ := ih h (by rw [List.getElem?_set_ne hj]; exact e)
                        exact ⟨by simp only [List.mem_cons, not_or]; exact ⟨hj.symm, z1⟩, z2⟩
                      · cases h
                exact this hb e
              · cases hb
          exact ⟨nj.2, g4 j nj.1⟩
        · have nj : j ∉ tg.slots := by
            cases tg with
            | one i' =>
              obtain ⟨rfl, hp, hk, _⟩ := store_eq (show store pm i' _ false envi = some enva from hb)
              intro z
              simp [Tg.slots] at z
              exact hp (by rw [← z]; exact hj)
            | many is =>
              simp only [bindTg] at hb
              split at hb
              · have : ∀ {is : List Nat} {ps : List PV} {env env' : En}, stores pm is ps env = some env' → j ∉ is := by
                  intro is
                  induction is with
                  | nil => intro ps env env' h; simp
                  | cons i' is ih =>
                    intro ps env env' h
                    cases ps with
                    | nil => cases h
                    | cons w ps =>
                      unfold stores at h
                      split at h
                      · rename_i env1 h1
                        obtain ⟨rfl, hp, hk, _⟩ := store_eq h1
                        simp only [List.mem_cons, not_or]
                        exact ⟨fun z => hp (by rw [← z]; exact hj), ih h⟩
                      · cases h
                exact this hb
              · cases hb
          exact g4 j nj
      have x4 := x3.sub o4
      have xa : Ext F2 H' (Own σi envi) F2 H' (Own σ1 enva) := Ext.refl.sub o4
      have k4 := k3.pre xa st
      cases hex : exs M C W pm b enva with
      | none => rw [hex] at hg; cases hg
      | some rr =>
        rw [hex] at hg
        cases rr with
        | nx envb =>
          simp only at hg
          exact ⟨F2, enva, _, R4, hex, fun σ5 F5 H5 x5 R5 s5 => ⟨F5, envb, hg, R5, x4.tr x5, k4.pre x5 s5⟩⟩
        | rt q kk envb =>
          simp only at hg
          cases hg
          exact ⟨F2, enva, _, R4, hex, k4⟩
  · left
    have hi' : i = xs.length := by omega
    subst hi'
    rw [List.drop_length] at hg
    simp only [forGo] at hg
    cases hg
    exact ⟨wl.stop _ _ _ xi, ki σi Fi Hi .refl Ri .refl⟩
theorem lc_shape {Γ : Scope} {tg : Tg} {it : E} {ifs : List E} {elt : E} {e : Expr} (h : chkE N nf Γ (.lc tg it ifs elt) e = true) : ∃ elt' tg' it' ifs' scope q, e = .ListComp elt' [⟨tg', it', ifs', 0⟩] scope q ∧
    chkE N nf Γ it it' = true ∧ itB it tg' it' = true ∧ tgB N scope tg tg' = true ∧ blkC N Γ scope (ownN N tg.slots) = true ∧ chkIf N nf (relS scope Γ) ifs ifs' = true ∧ chkE N nf (relS scope Γ) elt elt' = true := by
  unfold chkE at h
  split at h <;> first | (cases h; done) | skip
  all_goals rename_i heq; cases heq
  simp only [Bool.and_eq_true, decide_eq_true_eq] at h
  obtain ⟨⟨⟨⟨⟨⟨rfl, h1⟩, h2⟩, h3⟩, h4⟩, h5⟩, h6⟩ := h
  exact ⟨_, _, _, _, _, _, rfl, h1, h2, h3, h4, h5, h6⟩
theorem lc2_shape {Γ : Scope} {tg tg1 : Tg} {it it1 : E} {ifs ifs1 : List E} {elt : E} {e : Expr} (h : chkE N nf Γ (.lc2 tg it ifs tg1 it1 ifs1 elt) e = true) : ∃ elt' tg' it' ifs' tg1' it1' ifs1' scope q, e = .ListComp elt' [⟨tg', it', ifs', 0⟩, ⟨tg1', it1', ifs1', 0⟩] scope q ∧
    chkE N nf Γ it it' = true ∧ itB it tg' it' = true ∧ tgB N scope tg tg' = true ∧ blkC N Γ scope (ownN N (tg.slots ++ tg1.slots)) = true ∧ chkIf N nf (relS scope Γ) ifs ifs' = true ∧
    chkE N nf (relS scope Γ) it1 it1' = true ∧ itB it1 tg1' it1' = true ∧ tgB N scope tg1 tg1' = true ∧ chkIf N nf (relS scope Γ) ifs1 ifs1' = true ∧ chkE N nf (relS scope Γ) elt elt' = true := by
  unfold chkE at h
  split at h <;> first | (cases h; done) | skip
  all_goals rename_i heq; cases heq
  simp only [Bool.and_eq_true, decide_eq_true_eq] at h
  obtain ⟨⟨⟨⟨⟨⟨⟨⟨⟨⟨⟨rfl, rfl⟩, h1⟩, h2⟩, h3⟩, h4⟩, h5⟩, h6⟩, h7⟩, h8⟩, h9⟩, h10⟩ := h
  exact ⟨_, _, _, _, _, _, _, _, _, rfl, h1, h2, h3, h4, h5, h6, h7, h8, h9, h10⟩
/-- name = [..] where the name is written inside the block -/
theorem lc_set {Y : Str} {py : Pos} (sx : SxOk g M C d N nf X) {e : E} {e' : Expr} {pos : Pos} (hN : N[i]? = some Y) (hy : locB X.env.scope Y = true) (hs : swBl X.env.scope Y py e' = true) (hc : chkE N nf X.env.scope e e' = true) (hf : (match e with | .lc _ _ _ _ | .lc2 _ _ _ _ _ _ _ => true | _ => false) = true) :
    PS X (.Assign [.Name Y py] e' pos) (tAsg (tEv g M C e) (gName i)) := by
  have ok := sx.ok
  cases e with
  | lc tg it ifs elt =>
    obtain ⟨elt', tg', it', ifs', scope, q0, rfl, h1, h2, h3, h4, h5, h6⟩ := lc_shape hc
    have h2' := h2
    unfold itB at h2'
    simp only [Bool.and_eq_true] at h2'
    have hsw := swBl_ok sx.kind Y py pos.line (.ListComp elt' [⟨tg', it', ifs', 0⟩] scope q0)
    rw [hs] at hsw
    have yl : X.env.scope.names.lookup Y = some .local := by
      simp only [swBl, Bool.and_eq_true] at hs
      exact eq_of_beq hs.1.1
    have hl : ifs.length ≤ 1 := by
      cases ifs with
      | nil => simp
      | cons c cs => cases cs with
        | nil => simp
        | cons _ _ => simp [chkIf] at h5
    have bk : BlkOk X.N X.env.scope scope (ownN N tg.slots) := blkOk_by (by rw [ok.hN]; exact h4)
    have := ps_setLc (spos := pos) ok.calm (by rw [ok.hN]; exact ok.nd) (by rw [ok.hN]; exact hN) yl hsw ((snd it ok h1).pi _ h2) bk
      (fun s H C0 cl fp => pg_tg (X := X.blk s H scope (compEnvC scope cl C0 X.env) fp) (N := N) (Γ := scope) ok.calm (by rw [ok.hN]; exact ok.nd) ok.hN (blk_loc rfl) h3)
      (fun s H C0 cl fp => (pts_if (nf := nf) (N := N) (X := X.blk s H scope (compEnvC scope cl C0 X.env) fp) h5 fun c hc e he => (snds ifs c hc ok.blk he).s.pt).1)
      (fun s H C0 cl fp => (snd elt (ok.blk (s := s) (H := H) (scope := scope) (ce := compEnvC scope cl C0 X.env) (fp := fp)) h6).s.pe) (fun x => fold_ok h2'.2 _ x)
    rw [own_map] at this
    exact psI this fun D σ H ⟨F, env, o, env', R, e, hk, fin⟩ => lc_rd hl R e fin
  | lc2 tg it ifs tg1 it1 ifs1 elt =>
    obtain ⟨elt', tg', it', ifs', tg1', it1', ifs1', scope, q0, rfl, h1, h2, h3, h4, h5, h6, h7, h8, h9, h10⟩ := lc2_shape hc
    have h2' := h2
    unfold itB at h2'
    simp only [Bool.and_eq_true] at h2'
    have h7' := h7
    unfold itB at h7'
    simp only [Bool.and_eq_true] at h7'
    have hsw := swBl_ok sx.kind Y py pos.line (.ListComp elt' [⟨tg', it', ifs', 0⟩, ⟨tg1', it1', ifs1', 0⟩] scope q0)
    rw [hs] at hsw
    have yl : X.env.scope.names.lookup Y = some .local := by
      simp only [swBl, Bool.and_eq_true] at hs
      exact eq_of_beq hs.1.1
    have len : ∀ {ifs : List E} {ifs' : List Expr} {Γ : Scope}, chkIf N nf Γ ifs ifs' = true → ifs.length ≤ 1 := by
      intro ifs ifs' Γ hif
      cases ifs with
      | nil => simp
      | cons c cs => cases cs with
        | nil => simp
        | cons _ _ => simp [chkIf] at hif
    have bk : BlkOk X.N X.env.scope scope (ownN N (tg.slots ++ tg1.slots)) := blkOk_by (by rw [ok.hN]; exact h4)
    have := ps_setLc2 (spos := pos) (vs1 := tg1.slots) ok.calm (by rw [ok.hN]; exact ok.nd) (by rw [ok.hN]; exact hN) yl hsw ((snd it ok h1).pi _ h2) bk (by rw [own_map]; exact fun i h => List.mem_append_right _ h)
      (fun s H C0 cl fp => pg_tg (X := X.blk s H scope (compEnvC scope cl C0 X.env) fp) (N := N) (Γ := scope) ok.calm (by rw [ok.hN]; exact ok.nd) ok.hN (blk_loc rfl) h3)
      (fun s H C0 cl fp => (pts_if (nf := nf) (N := N) (X := X.blk s H scope (compEnvC scope cl C0 X.env) fp) h5 fun c hc e he => (snds ifs c hc ok.blk he).s.pt).1)
      (fun s H C0 cl fp => (snd it1 (ok.blk (s := s) (H := H) (scope := scope) (ce := compEnvC scope cl C0 X.env) (fp := fp)) h6).pi _ h7)
      (fun s H C0 cl fp => pg_tg (X := X.blk s H scope (compEnvC scope cl C0 X.env) fp) (N := N) (Γ := scope) ok.calm (by rw [ok.hN]; exact ok.nd) ok.hN (blk_loc rfl) h8)
      (fun s H C0 cl fp => (pts_if (nf := nf) (N := N) (X := X.blk s H scope (compEnvC scope cl C0 X.env) fp) h9 fun c hc e he => (snds ifs1 c hc ok.blk he).s.pt).1)
      (fun s H C0 cl fp => (snd elt (ok.blk (s := s) (H := H) (scope := scope) (ce := compEnvC scope cl C0 X.env) (fp := fp)) h10).s.pe) (fun x => fold_ok h2'.2 _ x) (fun env x => fold_ok h7'.2 _ x)
    rw [own_map] at this
    exact psI this fun D σ H ⟨F, env, o, env', R, e, hk, fin⟩ => lc2_rd (len h5) (len h9) R e fin
  | _ => cases hf
end
end L2.Pz
set_option Elab.async false
set_option linter.all false
set_option maxRecDepth 100000
set_option maxHeartbeats 4000000
namespace L2.Pz
set_option autoImplicit false
open PySem PySem.Spec PyProof.Rows L2

/-! ## Pz22: checked statements mean what the text means; defs -/
theorem PSet.or {X : Cx} {t u : TSet} (h : PSet X t) (k : PSet X u) : PSet X (fun o i v H Q => t o i v H Q ∨ u o i v H Q) := by
  intro pins s σ H o i v ov iv w Q I ro ri rv h'
  rcases h' with q | q
  · exact h pins s σ H o i v ov iv w Q I ro ri rv q
  · exact k pins s σ H o i v ov iv w Q I ro ri rv q
section
variable {g : Gw} {M : Nat → List Md} {C : Cl} {d : Nat} {N : List Str} {nf : Nf} {pm : List Nat} {W : Lp}
theorem pa_es {X : Cx} (ok : CxOk g M C d N nf X) {cs : List E} {es : List Expr} (h : chkEs N nf X.env.scope cs es = true) : PA X es (tEs g M C cs) := pes_ok h fun c hc e he => (snds cs c hc ok he).s
theorem fm2 {α β : Type} {f : α → Option β} {a b : α} {x y : β} (ha : f a = none ∨ f a = some x) (hb : f b = none ∨ f b = some y) (h : ([a, b].filterMap f).length = 2) : [a, b].filterMap f = [x, y] := by
  rcases ha with ha | ha <;> rcases hb with hb | hb <;> simp [ha, hb] at h ⊢
theorem fm3 {α β : Type} {f : α → Option β} {a b c : α} {x y z : β} (ha : f a = none ∨ f a = some x) (hb : f b = none ∨ f b = some y) (hc : f c = none ∨ f c = some z) (h : ([a, b, c].filterMap f).length = 3) : [a, b, c].filterMap f = [x, y, z] := by
  rcases ha with ha | ha <;> rcases hb with hb | hb <;> rcases hc with hc | hc <;> simp [ha, hb, hc] at h ⊢
theorem ite_or {α : Type} {c : Bool} {x : α} : (if c = true then some x else none) = none ∨ (if c = true then some x else none) = some x := by
  cases c
  · exact .inl rfl
  · exact .inr rfl
theorem par_ps {X : Cx} (sx : SxOk g M C d N nf X) {is : List Nat} {es : List E} {ts es' : List Expr} {k k2 : Nat} {p p2 pos : Pos} (h : chkS N nf X.env.scope (.par is es) (.Assign [.Tuple ts k p] (.Tuple es' k2 p2) pos) = true) : PS X (.Assign [.Tuple ts k p] (.Tuple es' k2 p2) pos) (tS g M C pm W (.par is es)) := by
  simp only [chkS, Bool.and_eq_true, decide_eq_true_eq] at h
  obtain ⟨⟨⟨⟨⟨nd, h1⟩, h2⟩, h3⟩, h4⟩, h5⟩ := h
  have pa := pa_es sx.ok h1
  have sw := yesSw_ok sx.kind (k := k) (k2 := k2) (p := p) (p2 := p2) h2
  have h2' := h2
  unfold yesSw at h2'
  simp only [Bool.and_eq_true] at h2'
  have nl : (swNames X.env.scope ts).length = ts.length := eq_of_beq h2'.1.1.1.2
  have vl : es'.length = ts.length := eq_of_beq h2'.1.1.1.1.1.2
  have at_ : ∀ j ∈ is, ∃ x, N[j]? = some x ∧ X.env.scope.names.lookup x = some .local ∧ N.getD j (Str.ofString "") = x := fun j hj => by
    have := List.all_eq_true.mp h4 j hj
    cases q : N[j]? with
    | none => rw [q] at this; cases this
    | some x =>
      rw [q] at this
      exact ⟨x, rfl, eq_of_beq this, by rw [List.getD_eq_getElem?_getD, q]; rfl⟩
  split at h5
  · rename_i x px y py
    have e1 : swNames X.env.scope [.Name x px, .Name y py] = [x, y] := by
      exact fm2 ite_or ite_or nl
    rw [e1] at h3 sw
    match is, h3 with
    | [i, j], h3 =>
      simp only [List.map_cons, List.map_nil, List.cons.injEq, and_true] at h3
      obtain ⟨x1, n1, l1, g1⟩ := at_ i (by simp)
      obtain ⟨y1, n2, l2, g2⟩ := at_ j (by simp)
      rw [g1, g2] at h3
      obtain ⟨rfl, rfl⟩ := h3
      match es', vl with
      | [a, b], _ =>
        have hij : i ≠ j := by
          intro z; subst z; simp at nd
        exact psI (ps_par sx.ok.calm (by rw [sx.ok.hN]; exact sx.ok.nd) (by rw [sx.ok.hN]; exact n1) (by rw [sx.ok.hN]; exact n2) hij l1 l2 pa sw (swTup _)) fun D σ H q => by
          obtain ⟨F, env, os, env', R, e, ko, kk⟩ := par_go q
          refine ⟨F, env, os, env', R, e, ko, fun vs F1 H1 x1 R1 hl => ?_⟩
          obtain ⟨z1, z2⟩ := kk vs F1 H1 x1 R1 hl
          match vs, z1 with
          | [v, w], _ => exact ⟨v, w, rfl, z2⟩
  · rename_i x px y py z pz
    have e1 : swNames X.env.scope [.Name x px, .Name y py, .Name z pz] = [x, y, z] := by
      exact fm3 ite_or ite_or ite_or nl
    rw [e1] at h3 sw
    match is, h3 with
    | [i, j, l], h3 =>
      simp only [List.map_cons, List.map_nil, List.cons.injEq, and_true] at h3
      obtain ⟨x1, n1, l1, g1⟩ := at_ i (by simp)
      obtain ⟨y1, n2, l2, g2⟩ := at_ j (by simp)
      obtain ⟨z1, n3, l3, g3⟩ := at_ l (by simp)
      rw [g1, g2, g3] at h3
      obtain ⟨rfl, rfl, rfl⟩ := h3
      match es', vl with
      | [a, b, c], _ =>
        have nd' : i ≠ j ∧ i ≠ l ∧ j ≠ l := by
          simp only [List.nodup_cons, List.mem_cons, List.not_mem_nil, or_false, not_or] at nd
          exact ⟨nd.1.1, nd.1.2, nd.2.1⟩
        exact psI (ps_par3 sx.ok.calm (by rw [sx.ok.hN]; exact sx.ok.nd) (by rw [sx.ok.hN]; exact n1) (by rw [sx.ok.hN]; exact n2) (by rw [sx.ok.hN]; exact n3) nd'.1 nd'.2.1 nd'.2.2 l1 l2 l3 pa sw (swTup _)) fun D σ H q => by
          obtain ⟨F, env, os, env', R, e, ko, kk⟩ := par_go q
          refine ⟨F, env, os, env', R, e, ko, fun vs F1 H1 x1 R1 hl => ?_⟩
          obtain ⟨z1, z2⟩ := kk vs F1 H1 x1 R1 hl
          match vs, z1 with
          | [u, v, w], _ => exact ⟨u, v, w, rfl, z2⟩
  · cases h5
mutual
theorem sndS (hW : LpOk W) : ∀ (s : S) {X : Cx} (_ : SxOk g M C d N nf X) {st : Stmt}, chkS N nf X.env.scope s st = true → PS X st (tS g M C pm W s)
  | .ex e, X, sx, st, h => by
    unfold chkS at h
    split at h <;> first | (cases h; done) | skip
    all_goals rename_i heq; cases heq
    simp only [Bool.and_eq_true] at h
    refine psI (ps_expr (snd e sx.ok h.1.1).s.pe (swNo h.1.2 _ _)) fun D σ H ⟨F, env, fl, R, ee, k⟩ => ?_
    simp only [ex] at ee
    split at ee
    · rename_i o env1 h1
      cases ee
      exact ⟨F, env, o, _, R, h1, ev_okW h.2 h1, fun v F1 H1 x1 R1 hv => k σ F1 H1 x1 R1 (ev_rel e h1).str⟩
    · cases ee
  | .set i e, X, sx, st, h => by
    unfold chkS at h
    split at h <;> first | (cases h; done) | skip
    all_goals rename_i heq; cases heq
    rename_i x px e' pos
    simp only [Bool.and_eq_true, decide_eq_true_eq] at h
    obtain ⟨⟨⟨h1, h2⟩, h3⟩, h4⟩ := h
    obtain ⟨lc, hf⟩ := sx.loc x h2
    cases q : swBl X.env.scope x px e' with
    | false => exact psI (ps_set (by rw [sx.ok.hN]; exact sx.ok.nd) (by rw [sx.ok.hN]; exact h1) lc (snd e sx.ok h3).s.pe (by rw [swBl_ok sx.kind, q]) hf) fun D σ H z => set_go z
    | true =>
      rw [q] at h4
      refine psI (lc_set sx h1 h2 q h3 ?_) fun D σ H z => set_go z
      cases e <;> first | rfl | cases h4
  | .unp is e, X, sx, st, h => by
    unfold chkS at h
    split at h <;> first | (cases h; done) | skip
    all_goals rename_i heq; cases heq
    rename_i ts k p e' pos
    simp only [Bool.and_eq_true] at h
    obtain ⟨⟨h1, h2⟩, h3⟩ := h
    have pg : PG X (.Tuple ts k p) (gTg (.many is)) := pg_tg (tg := .many is) sx.ok.calm (by rw [sx.ok.hN]; exact sx.ok.nd) sx.ok.hN sx.loc h1
    have hw : swappedStores [.Tuple ts k p] e' X.env = pure none := by
      cases e' <;> first | rfl | exact noSw_ok sx.kind h3
    exact psI (ps_asg (snd e sx.ok h2).s.pe pg (swTup _) hw) fun D σ H z => unp_go z
  | .par is es, X, sx, st, h => by
    have h0 := h
    unfold chkS at h
    split at h <;> first | (cases h; done) | skip
    all_goals rename_i heq; cases heq
    exact par_ps sx h0
  | .sti i k e, X, sx, st, h => by
    unfold chkS at h
    split at h <;> first | (cases h; done) | skip
    all_goals rename_i heq; cases heq
    rename_i x px k' pk e' pos
    simp only [Bool.and_eq_true] at h
    obtain ⟨⟨⟨h1, h2⟩, h3⟩, h4⟩ := h
    have hw : swappedStores [.Subscript (.Name x px) k' pk] e' X.env = pure none := by
      cases e' <;> rfl
    have pg := pg_sub (pos := pk) (nm_pe sx.ok (p := px) h1) (snd k sx.ok h2).s.pe (PSet.or set_list (set_dict (X := X) (by have := sx.ok.line; omega))) (by intro v; cases k' <;> first | rfl | cases h4)
    exact psI (ps_asg (snd e sx.ok h3).s.pe pg (swSub _) hw) fun D σ H z => sti_go sx.ok.hK z
  | .aug i .add e, X, sx, st, h => by
    unfold chkS at h
    split at h <;> first | (cases h; done) | skip
    all_goals rename_i heq; cases heq
    simp only [Bool.and_eq_true, decide_eq_true_eq] at h
    obtain ⟨⟨h1, h2⟩, h3⟩ := h
    obtain ⟨lc, hf⟩ := sx.loc _ h2
    exact psI (ps_aug (by rw [sx.ok.hN]; exact sx.ok.nd) (by rw [sx.ok.hN]; exact h1) lc (snd e sx.ok h3).s.pe ip_add hf) fun D σ H z => aug_go (fun _ _ => rfl) z
  | .aug i .sub e, X, sx, st, h => by
    unfold chkS at h
    split at h <;> first | (cases h; done) | skip
    all_goals rename_i heq; cases heq
    simp only [Bool.and_eq_true, decide_eq_true_eq] at h
    obtain ⟨⟨h1, h2⟩, h3⟩ := h
    obtain ⟨lc, hf⟩ := sx.loc _ h2
    exact psI (ps_aug (by rw [sx.ok.hN]; exact sx.ok.nd) (by rw [sx.ok.hN]; exact h1) lc (snd e sx.ok h3).s.pe ip_sub hf) fun D σ H z => aug_go (fun _ _ => rfl) z
  | .aug i .mul e, X, sx, st, h | .aug i .fdiv e, X, sx, st, h | .aug i .mod e, X, sx, st, h | .aug i .pow e, X, sx, st, h | .aug i .band e, X, sx, st, h | .aug i .bor e, X, sx, st, h | .aug i .bxor e, X, sx, st, h | .aug i .shl e, X, sx, st, h | .aug i .shr e, X, sx, st, h => by simp [chkS] at h
  | .dli i k, X, sx, st, h => by simp [chkS] at h
  | .ite c a b, X, sx, st, h => by
    unfold chkS at h
    split at h <;> first | (cases h; done) | skip
    all_goals rename_i heq; cases heq
    simp only [Bool.and_eq_true] at h
    obtain ⟨⟨h1, h2⟩, h3⟩ := h
    refine psI (ps_if (snd c sx.ok h1).s.pt (sndSs hW a sx h2) (sndSs hW b sx h3)) fun D σ H ⟨F, env, fl, R, ee, k⟩ => ?_
    simp only [ex] at ee
    split at ee
    case h_2 => cases ee
    rename_i x env1 g1
    split at ee
    · rename_i g2
      exact bl_aheadT R g1 g2 fun F1 H1 x1 R1 => by
        rw [if_pos rfl]
        exact ⟨F1, env1, fl, R1, ee, k.pre x1 (ev_rel c g1).str⟩
    · rename_i g2
      exact bl_aheadT R g1 g2 fun F1 H1 x1 R1 => by
        rw [if_neg Bool.false_ne_true]
        exact ⟨F1, env1, fl, R1, ee, k.pre x1 (ev_rel c g1).str⟩
    · cases ee
  | .whl c b, X, sx, st, h => by
    unfold chkS at h
    split at h <;> first | (cases h; done) | skip
    all_goals rename_i heq; cases heq
    simp only [Bool.and_eq_true] at h
    exact psI (ps_while (by rw [sx.ok.xe]; exact PassesOwn.never) (snd c sx.ok h.1).s.pt (sndSs hW b sx h.2)) fun D σ H z => whl_go hW z
  | .for_ tg it b, X, sx, st, h => by
    unfold chkS at h
    split at h <;> first | (cases h; done) | skip
    all_goals rename_i heq; cases heq
    simp only [Bool.and_eq_true] at h
    obtain ⟨⟨⟨h1, h2⟩, h3⟩, h4⟩ := h
    have h3' := h3
    unfold itB at h3'
    simp only [Bool.and_eq_true] at h3'
    exact psI (ps_for (by rw [sx.ok.xe]; exact PassesOwn.never) sx.ok.calm ((snd it sx.ok h2).pi _ h3) (pg_tg sx.ok.calm (by rw [sx.ok.hN]; exact sx.ok.nd) sx.ok.hN sx.loc h1) (sndSs hW b sx h4) (fun x => fold_ok h3'.2 _ x)) fun D σ H z => for_go z
  | .ret e, X, sx, st, h => by
    unfold chkS at h
    split at h <;> first | (cases h; done) | skip
    all_goals rename_i heq; cases heq
    exact psI (ps_ret (snd e sx.ok h).s.pe) fun D σ H z => ret_go z
  | .retN, X, sx, st, h => by
    unfold chkS at h
    split at h <;> first | (cases h; done) | skip
    all_goals rename_i heq; cases heq
    refine psI ps_retN fun D σ H ⟨F, env, fl, R, ee, k⟩ => ?_
    simp only [ex] at ee
    cases ee
    exact k .non σ F H .refl R .refl .non
  | .nev, X, sx, st, h => psI ps_never fun D σ H ⟨F, env, fl, R, ee, k⟩ => by simp only [ex] at ee; cases ee
  | .pas, X, sx, st, h => by
    have go : ∀ D σ H, tS g M C pm W .pas D σ H → tNext D σ H := fun D σ H ⟨F, env, fl, R, ee, k⟩ => by
      simp only [ex] at ee
      cases ee
      exact k σ F H .refl R .refl
    unfold chkS at h
    split at h <;> first | (cases h; done) | skip
    all_goals first | exact psI ps_pass go | exact psI ps_doc go | (rename_i heq; cases heq)
theorem sndSs (hW : LpOk W) : ∀ (ss : List S) {X : Cx} (_ : SxOk g M C d N nf X) {st : List Stmt}, chkSs N nf X.env.scope ss st = true → PSs X st (tSs g M C pm W ss)
  | [], X, sx, st, h => by
    cases st with
    | nil => exact pssI pss_nil fun D σ H z => tSs_nil z
    | cons _ _ => simp [chkSs] at h
  | s :: ss, X, sx, st, h => by
    cases st with
    | nil => simp [chkSs] at h
    | cons t ts =>
      simp only [chkSs, Bool.and_eq_true] at h
      exact pssI (pss_cons (sndS hW s sx h.1) (sndSs hW ss sx h.2)) fun D σ H z => tSs_cons z
end
end
end L2.Pz
set_option Elab.async false
set_option linter.all false
set_option maxRecDepth 100000
set_option maxHeartbeats 4000000
namespace L2.Pz
set_option autoImplicit false
open PySem PySem.Spec PyProof.Rows L2

/-! ## Pz23: a module's defs keep their pure meaning's promise -/
section
variable {g : Gw} {F F' : Ad} {H H' : Hp} {σ : St} {env : En} {a : Addr}
theorem get_app {α : Type} {l m : List α} {i : Nat} {x : α} (e : (l ++ m)[i]? = some x) : (i < l.length ∧ l[i]? = some x) ∨ (l.length ≤ i ∧ m[i - l.length]? = some x) := by
  by_cases h : i < l.length
  · rw [List.getElem?_append_left h] at e; exact .inl ⟨h, e⟩
  · rw [List.getElem?_append_right (by omega)] at e; exact .inr ⟨by omega, e⟩
theorem app_none {n k : Nat} {env : En} {i : Nat} {s : Slot} (e : (env ++ List.replicate k none)[i]? = some (some s)) : env[i]? = some (some s) := by
  rcases get_app e with ⟨_, h⟩ | ⟨_, h⟩
  · exact h
  · rw [List.getElem?_replicate] at h
    split at h <;> cases h
theorem appS_none {k : Nat} {i : Nat} {v : V} (e : (σ ++ List.replicate k none)[i]? = some (some v)) : σ[i]? = some (some v) := by
  rcases get_app e with ⟨_, h⟩ | ⟨_, h⟩
  · exact h
  · rw [List.getElem?_replicate] at h
    split at h <;> cases h
theorem Rep.app (R : Rep g F H σ env) (k : Nat) : Rep g F H (σ ++ List.replicate k none) (env ++ List.replicate k none) :=
  ⟨by simp [R.len], fun i s e => by
    have e1 := app_none (n := 0) e
    obtain ⟨v, ev, r⟩ := R.slot i s e1
    exact ⟨v, by rw [List.getElem?_append_left (lt_of_some ev)]; exact ev, r⟩, fun i j x s b hij e1 k1 e2 k2 es ej => R.sep i j x s b hij (app_none (n := 0) e1) k1 (app_none (n := 0) e2) k2 (appS_none es) (appS_none ej), R.dom⟩
theorem Own.app (k : Nat) : Own (σ ++ List.replicate k none) (env ++ List.replicate k none) a ↔ Own σ env a :=
  ⟨fun ⟨i, x, e, es⟩ => ⟨i, x, app_none (n := 0) e, appS_none es⟩, fun ⟨i, x, e, es⟩ => ⟨i, x, by rw [List.getElem?_append_left (lt_of_some e)]; exact e, by rw [List.getElem?_append_left (lt_of_some es)]; exact es⟩⟩
theorem outs_get : ∀ {ms : List Md} {env : En} {os : List PV} {n : Nat} {j : Nat} {s : Slot}, outs ms env = some os → (endE ms os)[j]? = some (some s) → s.k = .own ∧ env[j]? = some (some s) ∧ n + j ∈ mutsOf n ms
  | [], _, _, _, j, s, e, h => by simp [endE] at h
  | .mu :: ms, some ⟨p, .own⟩ :: env, _, n, j, s, e, h => by
    unfold outs at e
    split at e
    · rename_i ps e1
      cases e
      cases j with
      | zero => cases h; exact ⟨rfl, rfl, List.mem_cons_self ..⟩
      | succ j =>
        obtain ⟨h1, h2, h3⟩ := outs_get (n := n + 1) e1 (show (endE ms ps)[j]? = some (some s) from h)
        exact ⟨h1, h2, List.mem_cons_of_mem _ (by rw [show n + (j + 1) = n + 1 + j by omega]; exact h3)⟩
    · cases e
  | .mu :: ms, [], _, n, j, s, e, h => by cases e
  | .mu :: ms, none :: _, _, n, j, s, e, h => by cases e
  | .mu :: ms, some ⟨p, .fz⟩ :: _, _, n, j, s, e, h => by cases e
  | .mu :: ms, some ⟨p, .ro⟩ :: _, _, n, j, s, e, h => by cases e
  | .mu :: ms, some ⟨p, .lk⟩ :: _, _, n, j, s, e, h => by cases e
  | .val :: ms, x :: env, os, n, j, s, e, h => by
    have e : outs ms env = some os := by cases x <;> exact e
    have hh : endE (.val :: ms) os = none :: endE ms os := by cases os <;> rfl
    rw [hh] at h
    cases j with
    | zero => cases h
    | succ j =>
      obtain ⟨h1, h2, h3⟩ := outs_get (n := n + 1) e (show (endE ms os)[j]? = some (some s) from h)
      exact ⟨h1, h2, by rw [show n + (j + 1) = n + 1 + j by omega]; exact h3⟩
  | .ro :: ms, x :: env, os, n, j, s, e, h => by
    have e : outs ms env = some os := by cases x <;> exact e
    have hh : endE (.ro :: ms) os = none :: endE ms os := by cases os <;> rfl
    rw [hh] at h
    cases j with
    | zero => cases h
    | succ j =>
      obtain ⟨h1, h2, h3⟩ := outs_get (n := n + 1) e (show (endE ms os)[j]? = some (some s) from h)
      exact ⟨h1, h2, by rw [show n + (j + 1) = n + 1 + j by omega]; exact h3⟩
  | .val :: ms, [], _, _, _, _, e, _ => by cases e
  | .ro :: ms, [], _, _, _, _, e, _ => by cases e
theorem endE_len : ∀ (ms : List Md) (os : List PV), (endE ms os).length = ms.length
  | [], _ => rfl
  | .mu :: ms, p :: ps => congrArg Nat.succ (endE_len ms ps)
  | .mu :: ms, [] => congrArg Nat.succ (endE_len ms [])
  | .val :: ms, ps => by cases ps <;> exact congrArg Nat.succ (endE_len ms _)
  | .ro :: ms, ps => by cases ps <;> exact congrArg Nat.succ (endE_len ms _)
theorem starts_len : ∀ {ms : List Md} {ps : List PV}, ps.length = ms.length → (starts ms ps).length = ms.length
  | [], [], _ => rfl
  | m :: ms, p :: ps, h => congrArg Nat.succ (starts_len (by simpa using h))
  | [], _ :: _, h => by cases h
  | _ :: _, [], h => by cases h
end
/-- one def of the text: its names (the parameters first), scope, body -/
structure Txt where
  name : Str
  params : Arguments
  body : List Stmt
  scope : Scope
  names : List Str
def scopeB (N : List Str) (t : Txt) : Bool := (match t.scope.kind with | .function => true | _ => false) && !t.scope.isCoroutine && !t.scope.isGenerator && decide (N.Nodup) && decide (N.take (t.params.args.map (·.arg)).length = t.params.args.map (·.arg)) && (t.params.args.map (·.arg)).all (fun x => locB t.scope x) && t.scope.names.all (fun y => match y.2 with
  | .free => false
  | _ => true) && decide ((t.params.args.map (·.arg)).Nodup) && plainArgs t.params
/-- a def of the text is that code -/
def chkD (nf : Nf) (t : Txt) (D : Dfn) : Bool := scopeB t.names t && decide (D.modes.length = (t.params.args.map (·.arg)).length) && decide (D.slots = t.names.length) && chkSs t.names nf t.scope D.body t.body
section
variable {g : Gw} {P : Program} {base : Heap} {mg : Str → Option Value} {nf : Nf} {W : Lp} {D : Nat → Dfn} {T : Nat → Txt}
/-- what the head must give -/
structure Mdl (g : Gw) (mg : Str → Option Value) (nf : Nf) (D : Nat → Dfn) (T : Nat → Txt) : Prop where
  free : ∀ x ∈ nf.free, mg x = none
  cst : ∀ q ∈ nf.cst, ∃ u v, mg q.1 = some u ∧ RelV v u ∧ ∀ F H, RepV g F H q.2 v
  fn : ∀ (i : Nat) (x : Str), nf.fn[i]? = some x → ∃ fa fd, mg x = some (.ref fa) ∧ FunD g.K (T i).name (T i).name (T i).params (T i).body (T i).scope [] [] fa fd
  chk : ∀ (i : Nat) (x : Str), nf.fn[i]? = some x → chkD nf (T i) (D i) = true
abbrev parN (T : Nat → Txt) (i : Nat) : List Str := (T i).params.args.map (·.arg)
theorem fn_ok (hW : LpOk W) (m : Mdl g mg nf D T) : ∀ (d : Nat) (i : Nat) (x : Str), nf.fn[i]? = some x → ∀ (fa : Addr) (fd : FuncData), mg x = some (.ref fa) → FunD g.K (T i).name (T i).name (T i).params (T i).body (T i).scope [] [] fa fd → FnOk P g.w g.K mg base CX0 d fa fd (parN T i) (spC g (fun i => (D i).modes) (run W D d) i)
  | 0, i, x, hx, fa, fd, hm, hF => by
    obtain ⟨oc, od, dV, kV, doc, pmv, an, cdv, ct, osl, rfl, lk, hcd, _, _⟩ := hF.ex
    refine ⟨fun vs H Q E h => ?_, fun A outer s H args us vs Q E _ _ _ _ h => ?_⟩
    · obtain ⟨F, ps, r, outs, _, _, _, h, _⟩ := h; cases h
    · obtain ⟨F, ps, r, outs, _, _, _, h, _⟩ := h; cases h
  | d + 1, i, x, hx, fa, fd, hm, hF => by
    have hc := m.chk i x hx
    unfold chkD at hc
    simp only [Bool.and_eq_true, decide_eq_true_eq] at hc
    obtain ⟨⟨⟨hs, hml⟩, hsl⟩, hb⟩ := hc
    have hs' := hs
    unfold scopeB at hs'
    simp only [Bool.and_eq_true, Bool.not_eq_true', decide_eq_true_eq, List.all_eq_true] at hs'
    obtain ⟨⟨⟨⟨⟨⟨⟨⟨s1, s2⟩, s3⟩, s4⟩, s5⟩, s6⟩, s7⟩, s8⟩, s9⟩ := hs'
    have kind : (T i).scope.kind = .function := by
      split at s1
      · assumption
      · cases s1
    have SC : FnScope (T i).names (parN T i) (T i).scope := ⟨kind, s2, s3, s4, s5, fun y hy => (by
      have := s6 y hy
      unfold locB at this
      split at this
      · rename_i e; exact .inl e
      · rename_i e; exact .inr e
      · cases this), fun y hy z => (by
      have := s7 y hy
      rw [z] at this; cases this)⟩
    have len : ∀ vs H Q E, spC g (fun i => (D i).modes) (run W D (d + 1)) i vs H Q E → vs.length = (parN T i).length := fun vs H Q E h => by
      obtain ⟨F, ps, r, outs, l1, l2, _⟩ := h
      exact l1.trans (l2.trans hml)
    refine FunD.ok hF SC len fun cdv A outer s H vs Q E hr hsp => ?_
    obtain ⟨F, ps, r, os, l1, l2, R, hrun, fin⟩ := hsp
    refine ⟨tSs g (fun i => (D i).modes) (run W D d) (mutsOf 0 (D i).modes) W (D i).body, ?_, ?_⟩
    · have okX : CxOk g (fun i => (D i).modes) (run W D d) d (T i).names nf (cxOf CX0 P g.w g.K mg base (T i).names (T i).name (T i).scope fa cdv A outer s H E).nox :=
        ⟨rfl, rfl, rfl, rfl, s4, hr, rfl, m.free, m.cst, fun j y hy => by
          obtain ⟨fb, fe, h1, h2⟩ := m.fn j y hy
          refine ⟨fb, fe, parN T j, h1, h2.kp, ?_, fn_ok hW m d j y hy fb fe h1 h2⟩
          have hcj := m.chk j y hy
          unfold chkD at hcj
          simp only [Bool.and_eq_true, decide_eq_true_eq] at hcj
          have hsj := hcj.1.1.1
          unfold scopeB at hsj
          simp only [Bool.and_eq_true, Bool.not_eq_true', decide_eq_true_eq, List.all_eq_true] at hsj
          exact h2.bindsN fun kV doc pmv an cdv ct us hl => bind_all hsj.2 rfl hsj.1.2 hl⟩
      have sx : SxOk g (fun i => (D i).modes) (run W D d) d (T i).names nf (cxOf CX0 P g.w g.K mg base (T i).names (T i).name (T i).scope fa cdv A outer s H E).nox := ⟨okX, kind, fun y hy => by
        refine ⟨?_, .inl rfl⟩
        have hy : locB (T i).scope y = true := hy
        show (T i).scope.names.lookup y = some .local ∨ (T i).scope.names.lookup y = some .cell
        unfold locB at hy
        split at hy
        · rename_i e; exact .inl e
        · rename_i e; exact .inr e
        · cases hy⟩
      exact PSs.nox (sndSs hW (D i).body sx hb)
    · simp only [run] at hrun
      rw [if_pos l2] at hrun
      have ks : (T i).names.length - vs.length = (D i).slots - (D i).modes.length := by rw [hsl, l1, l2]
      have R0 := R.app ((T i).names.length - vs.length)
      have own0 : ∀ a, Own (start (T i).names vs) (starts (D i).modes ps ++ List.replicate ((T i).names.length - vs.length) none) a ↔ Own (vs.map some) (starts (D i).modes ps) a := fun a => Own.app _
      -- the end, of a value and the changed objects
      have fin' : ∀ {q : PV} {k : Bool} {env' : En} {v : V} {σ' : St} {F' : Ad} {H' : Hp}, outs (D i).modes env' = some os → r = (q, k) →
          Ext F H (Own (start (T i).names vs) (starts (D i).modes ps ++ List.replicate ((T i).names.length - vs.length) none)) F' H' (Own σ' env') → Rep g F' H' σ' env' → StR (mutsOf 0 (D i).modes) (start (T i).names vs) σ' (starts (D i).modes ps ++ List.replicate ((T i).names.length - vs.length) none) env' →
          HeldO g F' H' σ' env' (New H (Own (start (T i).names vs) (starts (D i).modes ps ++ List.replicate ((T i).names.length - vs.length) none))) (.vl q k) v → Q v H' := by
        intro q k env' v σ' F' H' ho hrq x' R' st hv
        subst hrq
        have place : ∀ (j : Nat) (s : Slot), (endE (D i).modes os)[j]? = some (some s) → s.k = .own ∧ env'[j]? = some (some s) ∧ σ'[j]? = (vs.map some)[j]? := fun j s e => by
          obtain ⟨h1, h2, h3⟩ := outs_get (n := 0) ho e
          refine ⟨h1, h2, ?_⟩
          rw [st.pm j (by rw [Nat.zero_add] at h3; exact h3)]
          have hj : j < vs.length := by
            have := lt_of_some e
            rw [endE_len] at this
            rw [l1, l2]; exact this
          unfold start
          rw [List.getElem?_append_left (by rw [List.length_map]; exact hj)]
        refine fin v F' H' ⟨fun a o e n => x'.keep a o e fun z => n ((own0 a).mp z), x'.dom, x'.mono, fun a h => (x'.newF a h).imp id fun z => z.imp (own0 a).mp id, fun a ⟨j, y, e, es⟩ => ?_⟩ ⟨?_, fun j s e => ?_, fun j l y s b hjl e1 k1 e2 k2 es el => ?_, R'.dom⟩ ?_
        · obtain ⟨_, h2, h3⟩ := place j _ e
          rcases x'.newO a ⟨j, y, h2, by rw [h3]; exact es⟩ with z | z
          · exact .inl ((own0 a).mp z)
          · exact .inr z
        · rw [endE_len, List.length_map, l1, l2]
        · obtain ⟨_, h2, h3⟩ := place j s e
          obtain ⟨w, ew, rr⟩ := R'.slot j s h2
          exact ⟨w, by rw [← h3]; exact ew, rr⟩
        · obtain ⟨_, h2, h3⟩ := place j y e1
          obtain ⟨_, h4, h5⟩ := place l s e2
          exact R'.sep j l y s b hjl h2 k1 h4 k2 (by rw [h3]; exact es) (by rw [h5]; exact el)
        · cases k with
          | false => exact hv
          | true =>
            obtain ⟨b, rfl, nb, c, nn, aw⟩ := hv
            refine ⟨b, rfl, nb, c, nn.imp (own0 b).mp id, fun j s e kk es => ?_⟩
            obtain ⟨_, h2, h3⟩ := place j s e
            exact aw j s h2 kk (by rw [h3]; exact es)
      rw [← ks] at hrun
      split at hrun
      · rename_i q k env' hx
        split at hrun
        · rename_i os' ho
          simp only [Option.some.injEq, Prod.mk.injEq] at hrun
          obtain ⟨hr1, hr2⟩ := hrun
          subst hr2
          exact ⟨F, _, _, R0, hx, fun v σ' F' H' x' R' st hv => fin' ho hr1.symm x' R' st hv⟩
        · cases hrun
      · rename_i env' hx
        split at hrun
        · rename_i os' ho
          simp only [Option.some.injEq, Prod.mk.injEq] at hrun
          obtain ⟨hr1, hr2⟩ := hrun
          subst hr2
          exact ⟨F, _, _, R0, hx, fun σ' F' H' x' R' st => fin' (q := .non) (k := false) ho hr1.symm x' R' st .non⟩
        · cases hrun
      · cases hrun
end
end L2.Pz
set_option Elab.async false
set_option linter.all false
set_option maxRecDepth 100000
set_option maxHeartbeats 4000000
namespace L2.Pz
set_option autoImplicit false
open PySem PySem.Spec PyProof.Rows L2

/-! ## Pz24: a law, from its defs' pure meaning -/
open Classical in
/-- loops without a bound: what some number of turns comes to -/
noncomputable def lim : Lp := fun f e => if h : ∃ (r : Fl) (n : Nat), turns f n e = some r then some h.choose else none
theorem lim_ok : LpOk lim := fun f e r h => by
  unfold lim at h
  split at h
  · rename_i q
    cases h
    exact q.choose_spec
  · cases h
theorem turns_mono {f : En → Option (Sum En Fl)} : ∀ {n m : Nat} {e : En} {r : Fl}, turns f n e = some r → n ≤ m → turns f m e = some r
  | 0, _, _, _, h, _ => by cases h
  | n + 1, 0, _, _, _, h => by omega
  | n + 1, m + 1, e, r, h, hm => by
    simp only [turns] at h ⊢
    split at h
    · rename_i e1 he
      exact turns_mono h (by omega)
    · rename_i r1 he
      exact h
    · cases h
theorem turns_uniq {f : En → Option (Sum En Fl)} {n m : Nat} {e : En} {r s : Fl} (h : turns f n e = some r) (k : turns f m e = some s) : r = s := by
  have a := turns_mono h (Nat.le_max_left n m)
  have b := turns_mono k (Nat.le_max_right n m)
  rw [a] at b
  exact Option.some.inj b
theorem lim_of {f : En → Option (Sum En Fl)} {e : En} {r : Fl} (n : Nat) (h : turns f n e = some r) : lim f e = some r := by
  have q : ∃ (r : Fl) (n : Nat), turns f n e = some r := ⟨r, n, h⟩
  unfold lim
  rw [dif_pos q]
  obtain ⟨m, hm⟩ := q.choose_spec
  rw [turns_uniq hm h]
theorem lim_step {f : En → Option (Sum En Fl)} {e e' : En} (h : f e = some (.inl e')) : lim f e = lim f e' := by
  cases q : lim f e' with
  | some r =>
    obtain ⟨n, hn⟩ := lim_ok _ _ _ q
    exact lim_of (n + 1) (by simp only [turns, h]; exact hn)
  | none =>
    cases q2 : lim f e with
    | none => rfl
    | some r =>
      obtain ⟨n, hn⟩ := lim_ok _ _ _ q2
      cases n with
      | zero => cases hn
      | succ n =>
        simp only [turns, h] at hn
        rw [lim_of n hn] at q
        cases q
theorem lim_stop {f : En → Option (Sum En Fl)} {e : En} {r : Fl} (h : f e = some (.inr r)) : lim f e = some r := lim_of 1 (by simp only [turns, h])

def faOf (nf : Nf) : List He.Fa := nf.fn.map He.Fa.glo ++ (nf.free.map He.Fa.free ++ nf.cst.map fun q => match q.2 with
  | .int i => He.Fa.int q.1 i
  | .str s => He.Fa.str q.1 s
  | _ => He.Fa.glo q.1)
def ddOf (t : Txt) : He.DefD := ⟨(t.name, none), t.name, t.name, t.params, t.body, t.scope, [], []⟩
def fnOf (tl : List Txt) : List He.DefD := tl.map ddOf
def cstB (nf : Nf) : Bool := nf.cst.all fun q => match q.2 with
  | .int _ | .str _ => true
  | _ => false
/-- all defs are checked -/
def chkAll (nf : Nf) (tl : List Txt) (dl : List Dfn) : Bool := decide (nf.fn = tl.map Txt.name) && cstB nf && decide (tl.length = dl.length) && (tl.zip dl).all fun q => chkD nf q.1 q.2
abbrev dAt (dl : List Dfn) (i : Nat) : Dfn := dl.getD i ⟨[], 0, []⟩
abbrev tAt (tl : List Txt) (i : Nat) : Txt := tl.getD i ⟨Str.ofString "", ⟨[], [], none, [], [], none, []⟩, [], ⟨.function, [], false, false, []⟩, []⟩
section
variable {K : PySem.W.Frag} {h : Heap} {mg : Str → Option Value} {nf : Nf} {tl : List Txt} {dl : List Dfn} {P : Program}
theorem says_mem {fa : List He.Fa} {fn : List He.DefD} (c : He.SaysD fa fn K) {f : He.Fa} (hf : f ∈ fa) : f.ok K = true := by
  have e : ((fa.all fun f => f.ok K) && fn.all fun d => d.ok K) = true := congrArg (fun z : He.AlD => z.1) c
  rw [Bool.and_eq_true] at e
  exact List.all_eq_true.mp e.1 f hf
theorem mdl_of (w : World) (X : K.In h) (G : h.Ns mainGlobals mg) (c : He.SaysD (faOf nf) (fnOf tl) K) (hc : chkAll nf tl dl = true) : Mdl ⟨K, w⟩ mg nf (dAt dl) (tAt tl) := by
  unfold chkAll at hc
  simp only [Bool.and_eq_true, decide_eq_true_eq] at hc
  obtain ⟨⟨⟨h1, h2⟩, h3⟩, h4⟩ := hc
  have at_ : ∀ (i : Nat) (x : Str), nf.fn[i]? = some x → ∃ t d, tl[i]? = some t ∧ dl[i]? = some d ∧ t.name = x ∧ tAt tl i = t ∧ dAt dl i = d := fun i x hx => by
    rw [h1, List.getElem?_map] at hx
    obtain ⟨t, ht, rfl⟩ := Option.map_eq_some_iff.mp hx
    have hl : i < dl.length := by rw [← h3]; exact lt_of_some ht
    refine ⟨t, dl[i], ht, List.getElem?_eq_getElem hl, rfl, ?_, ?_⟩
    · show tl.getD i _ = t
      rw [List.getD_eq_getElem?_getD, ht]; rfl
    · show dl.getD i _ = _
      rw [List.getD_eq_getElem?_getD, List.getElem?_eq_getElem hl]; rfl
  refine ⟨fun x hx => ?_, fun q hq => ?_, fun i x hx => ?_, fun i x hx => ?_⟩
  · exact He.free_ok X G (says_mem c (List.mem_append_right _ (List.mem_append_left _ (List.mem_map_of_mem hx))))
  · have hm := says_mem c (f := match q.2 with
      | .int i => He.Fa.int q.1 i
      | .str s => He.Fa.str q.1 s
      | _ => He.Fa.glo q.1) (List.mem_append_right _ (List.mem_append_right _ (List.mem_map.mpr ⟨q, hq, rfl⟩)))
    have hb := List.all_eq_true.mp h2 q hq
    obtain ⟨x, p⟩ := q
    cases p with
    | int i =>
      obtain ⟨t, ht⟩ := He.int_ok X G hm
      exact ⟨_, .int i, ht, ⟨t, rfl⟩, fun F H => .int i⟩
    | str z =>
      obtain ⟨t, ht⟩ := He.str_ok X G hm
      exact ⟨_, .str z, ht, ⟨t, rfl⟩, fun F H => .str z⟩
    | _ => cases hb
  · obtain ⟨t, d, e1, e2, e3, e4, e5⟩ := at_ i x hx
    have hg := He.glo_ok X G (says_mem c (f := .glo x) (List.mem_append_left _ (List.mem_map_of_mem (List.mem_of_getElem? hx))))
    have hd := c.def_ i (d := ddOf t) (by unfold fnOf; rw [List.getElem?_map, e1]; rfl)
    obtain ⟨fd, hF⟩ := hd
    rw [e4]
    refine ⟨_, fd, hg, ?_⟩
    rw [← e3]
    exact hF
  · obtain ⟨t, d, e1, e2, e3, e4, e5⟩ := at_ i x hx
    rw [e4, e5]
    refine List.all_eq_true.mp h4 (t, d) ?_
    have : (tl.zip dl)[i]? = some (t, d) := by
      rw [List.getElem?_zip_eq_some]
      exact ⟨e1, e2⟩
    exact List.mem_of_getElem? this
/-- a law keeps its promise, by its pure meaning -/
theorem law_F (w : World) (X : K.In h) (G : h.Ns mainGlobals mg) (c : He.SaysD (faOf nf) (fnOf tl) K) (hc : chkAll nf tl dl = true) {li : Nat} {x : Str} {fa : Addr} {n k : Nat} {ps : Str} (hx : nf.fn[li]? = some x) (hm : mg x = some (.ref fa)) (hp : (tAt tl li).params.args.map (·.arg) = [ps]) (hmd : (dAt dl li).modes = [.ro])
    (hrun : ∀ ns : List Int, ns.length ≤ n → ∃ b os, run lim (dAt dl) k li [.scr ns] = some ((.bl true, b), os)) :
    ∃ (K : PySem.W.Frag) (fd : FuncData) (sp : Sp), K.In h ∧ (∀ (s : Shared) (u : Value), BindsTo s fd ⟨[u], []⟩ [(ps, u)]) ∧
        (∀ (H : Hp) (a : Addr) (ns : List Int), ns.length ≤ n → Only H → SqL K H a (ns.map V.int) → sp [.ref a] H (fun v _ => v = .bl true) fun _ _ _ => False) ∧
        ∀ base : Heap, K.In base → base.Ns mainGlobals mg → FnOk P w K mg base CX0 k fa fd [ps] sp := by
  have m := mdl_of w X G c hc
  obtain ⟨fb, fd, hm', hF⟩ := m.fn li x hx
  rw [hm] at hm'; cases hm'
  have hcj := m.chk li x hx
  unfold chkD at hcj
  simp only [Bool.and_eq_true, decide_eq_true_eq] at hcj
  have hsj := hcj.1.1.1
  have hml := hcj.1.1.2
  unfold scopeB at hsj
  simp only [Bool.and_eq_true, Bool.not_eq_true', decide_eq_true_eq, List.all_eq_true] at hsj
  have hbA := hF.bindsA (ps := [ps]) fun kV doc pmv an cdv ct us hl => bind_all hsj.2 hp (by simp) hl
  refine ⟨K, fd, spC ⟨K, w⟩ (fun i => (dAt dl i).modes) (run lim (dAt dl) k) li, X, fun s u => hbA s [u] rfl, fun H a ns hl _ hS => ?_, fun base _ _ => ?_⟩
  · obtain ⟨b, os, hr⟩ := hrun ns hl
    rw [hp] at hml
    have hv : ∃ F : Ad, (∀ b, F b → H b ≠ none) ∧ RepV ⟨K, w⟩ F H (.scr ns) (.ref a) := by
      rcases hS with hS | hS
      · exact ⟨fun b => b = a, fun b e => by rw [e]; exact rdD hS, .scr rfl hS⟩
      · exact ⟨fun _ => False, fun _ e => e.elim, .scrK hS⟩
    obtain ⟨F, hF0, hv⟩ := hv
    refine ⟨F, [.scr ns], _, os, rfl, by show _ = (dAt dl li).modes.length; rw [hmd]; rfl, ?_, hr, fun v F' H' _ _ hh => ?_⟩
    · show Rep _ F H [some (.ref a)] (starts (dAt dl li).modes [.scr ns])
      rw [hmd]
      refine ⟨rfl, fun i s e => ?_, fun i j x s a hij e1 k1 e2 k2 es ej => ?_, hF0⟩
      · cases i with
        | zero => cases e; exact ⟨_, rfl, .inl hv⟩
        | succ i => cases e
      · have hi : i = 0 := by have := lt_of_some e1; simp [starts] at this; exact this
        have hj : j = 0 := by have := lt_of_some e2; simp [starts] at this; exact this
        exact (hij (hi.trans hj.symm)).elim
    · cases b with
      | false => exact (show Peek _ F' H' (.bl true) v from .inl hh).bl
      | true => obtain ⟨_, _, _, c, _⟩ := hh; cases c
  · have := fn_ok (P := P) (base := base) lim_ok m k li x hx fa fd hm hF
    have e : parN (tAt tl) li = [ps] := hp
    rw [e] at this
    exact this
end
end L2.Pz
set_option Elab.async false
set_option linter.all false
set_option maxRecDepth 100000
set_option maxHeartbeats 4000000
namespace L2.Pz
set_option autoImplicit false
open PySem hiding run
open L2

/-! ## Pz24e: the pure meaning, construct by construct -/
section
variable {M : Nat → List Md} {C : Cl}
theorem ev_con (c : PV) (env : En) : ev M C (.con c) env = (some (.vl c false, env)) := by first | rfl | (simp only [ev]; rfl)
theorem ev_glo (x0 : Str) (c : PV) (env : En) : ev M C (.glo x0 c) env = (some (.vl c false, env)) := by first | rfl | (simp only [ev]; rfl)
theorem ev_var (i : Nat) (env : En) : ev M C (.var i) env = (match env[i]? with
    | some (some _) => some (.sl i, env)
    | _ => none) := by first | rfl | (simp only [ev]; rfl)
theorem ev_bin (o : Bop) (a b : E) (env : En) : ev M C (.bin o a b) env = (match ev M C a env with
    | some (x, env) => match ev M C b env with
      | some (y, env) => match deref env x, deref env y with
        | some p, some q => match binF o p q with
          | some (r, f) => some (.vl r f, env)
          | none => none
        | _, _ => none
      | none => none
    | none => none) := by first | rfl | (simp only [ev]; rfl)
theorem ev_un (o : Uop) (a : E) (env : En) : ev M C (.un o a) env = (match ev M C a env with
    | some (x, env) => match deref env x with
      | some p => match unF o p with
        | some r => some (.vl r false, env)
        | none => none
      | none => none
    | none => none) := by first | rfl | (simp only [ev]; rfl)
theorem ev_cmp (o : Cop) (a b : E) (env : En) : ev M C (.cmp o a b) env = (match ev M C a env with
    | some (x, env) => match ev M C b env with
      | some (y, env) => match deref env x, deref env y with
        | some p, some q => match cmpF o p q with
          | some r => some (.vl (.bl r) false, env)
          | none => none
        | _, _ => none
      | none => none
    | none => none) := by first | rfl | (simp only [ev]; rfl)
theorem ev_cmp2 (o p : Cop) (a b c : E) (env : En) : ev M C (.cmp2 o p a b c) env = (match ev M C a env with
    | some (x, env) => match ev M C b env with
      | some (y, env) => match deref env x, deref env y with
        | some u, some v => match cmpF o u v with
          | some true => match ev M C c env with
            | some (z, env) => match deref env y, deref env z with
              | some v, some w => match cmpF p v w with
                | some r => some (.vl (.bl r) false, env)
                | none => none
              | _, _ => none
            | none => none
          | some false => some (.vl (.bl false) false, env)
          | none => none
        | _, _ => none
      | none => none
    | none => none) := by first | rfl | (simp only [ev]; rfl)
theorem ev_and (a b : E) (env : En) : ev M C (.and a b) env = (match ev M C a env with
    | some (x, env) => match deref env x with
      | some (.bl true) => ev M C b env
      | some (.bl false) => some (.vl (.bl false) false, env)
      | _ => none
    | none => none) := by first | rfl | (simp only [ev]; rfl)
theorem ev_or (a b : E) (env : En) : ev M C (.or a b) env = (match ev M C a env with
    | some (x, env) => match deref env x with
      | some (.bl true) => some (.vl (.bl true) false, env)
      | some (.bl false) => ev M C b env
      | _ => none
    | none => none) := by first | rfl | (simp only [ev]; rfl)
theorem ev_not (a : E) (env : En) : ev M C (.not a) env = (match ev M C a env with
    | some (x, env) => match deref env x with
      | some (.bl k) => some (.vl (.bl (!k)) false, env)
      | _ => none
    | none => none) := by first | rfl | (simp only [ev]; rfl)
theorem ev_ite (c a b : E) (env : En) : ev M C (.ite c a b) env = (match ev M C c env with
    | some (x, env) => match deref env x with
      | some (.bl true) => ev M C a env
      | some (.bl false) => ev M C b env
      | _ => none
    | none => none) := by first | rfl | (simp only [ev]; rfl)
theorem ev_tup (es : List E) (env : En) : ev M C (.tup es) env = (match evs M C es env with
    | some (os, env) => match consumes env os with
      | some (ps, env) => if ps.length ≤ sizeLine then some (.vl (.tup ps) false, env) else none
      | none => none
    | none => none) := by first | rfl | (simp only [ev]; rfl)
theorem ev_lst (es : List E) (env : En) : ev M C (.lst es) env = (match evs M C es env with
    | some (os, env) => match consumes env os with
      | some (ps, env) => if ps.length ≤ sizeLine then some (.vl (.lst ps) true, env) else none
      | none => none
    | none => none) := by first | rfl | (simp only [ev]; rfl)
theorem ev_dnk  (env : En) : ev M C (.dnk ) env = (some (.vl (.dk []) true, env)) := by first | rfl | (simp only [ev]; rfl)
theorem ev_dnt  (env : En) : ev M C (.dnt ) env = (some (.vl (.dt []) true, env)) := by first | rfl | (simp only [ev]; rfl)
theorem ev_idx (a i : E) (env : En) : ev M C (.idx a i) env = (match ev M C a env with
    | some (x, env) => match ev M C i env with
      | some (y, env) => match deref env x, deref env y with
        | some p, some q => match idxF p q with
          | some r => some (.vl r false, env)
          | none => none
        | _, _ => none
      | none => none
    | none => none) := by first | rfl | (simp only [ev]; rfl)
theorem ev_slc (a : E) (lo hi : List E) (env : En) : ev M C (.slc a lo hi) env = (match ev M C a env with
    | some (x, env) => match evs M C lo env with
      | some (l, env) => match ((derefs env l).bind asInts).bind asOpt with
        | some lo => match evs M C hi env with
          | some (h, env) => match ((derefs env h).bind asInts).bind asOpt with
            | some hi => match deref env x with
              | some p => match slcF p lo hi with
                | some (r, f) => some (.vl r f, env)
                | none => none
              | none => none
            | none => none
          | none => none
        | none => none
      | none => none
    | none => none) := by first | rfl | (simp only [ev]; rfl)
theorem ev_rev (a : E) (env : En) : ev M C (.rev a) env = (match ev M C a env with
    | some (x, env) => match deref env x with
      | some (.lst xs) => some (.vl (.lst xs.reverse) true, env)
      | _ => none
    | none => none) := by first | rfl | (simp only [ev]; rfl)
theorem ev_isi (t : Ty) (a : E) (env : En) : ev M C (.isi t a) env = (match ev M C a env with
    | some (x, env) => match deref env x with
      | some p => match isiF t p with
        | some (r, f) => some (.vl r f, env)
        | none => none
      | none => none
    | none => none) := by first | rfl | (simp only [ev]; rfl)
theorem ev_call (f : Nat) (es : List E) (env : En) : ev M C (.call f es) env = (match evs M C es env with
    | some (os, env) => match pass (M f) os env with
      | some (ps, is, env) => match C f ps with
        | some ((r, k), outs) => match back is outs env with
          | some env => some (.vl r k, env)
          | none => none
        | none => none
      | none => none
    | none => none) := by first | rfl | (simp only [ev]; rfl)
theorem ev_bi (b : Bi) (es : List E) (env : En) : ev M C (.bi b es) env = (match evs M C es env with
    | some (os, env) => match derefs env os with
      | some ps => match biF b ps with
        | some (r, f) => some (.vl r f, env)
        | none => none
      | none => none
    | none => none) := by first | rfl | (simp only [ev]; rfl)
theorem ev_met (m : Mt) (o : E) (es : List E) (env : En) : ev M C (.met m o es) env = (match ev M C o env with
    | some (x, env) => match deref env x with
      | some p0 => match evs M C es env with
        | some (os, env) => match deref env x, derefs env os with
          | some p, some ps => if p0.kn = p.kn then (match metF m p ps with
            | some (r, f) => some (.vl r f, env)
            | none => none) else none
          | _, _ => none
        | none => none
      | none => none
    | none => none) := by first | rfl | (simp only [ev]; rfl)
theorem ev_mm (m : Mm) (i : Nat) (es : List E) (env : En) : ev M C (.mm m i es) env = (match env[i]? with
    | some (some s0) => match evs M C es env with
      | some (os, env) => match consumes env os with
        | some (ps, env) => match env[i]? with
          | some (some ⟨p, .own⟩) => if s0.v.kn = p.kn then (match mutF m p ps with
            | some (p', r) => some (.vl r false, env.set i (some ⟨p', .own⟩))
            | none => none) else none
          | _ => none
        | none => none
      | none => none
    | _ => none) := by first | rfl | (simp only [ev]; rfl)
theorem ev_zip (a b : E) (env : En) : ev M C (.zip a b) env = (match ev M C a env with
    | some (x, env) => match ev M C b env with
      | some (y, env) => match deref env x, deref env y with
        | some (.lst xs), some (.lst ys) => some (.wk (zipP xs ys) (x.slot ++ y.slot), env)
        | some (.tup xs), some (.tup ys) => some (.wk (zipP xs ys) (x.slot ++ y.slot), env)
        | _, _ => none
      | none => none
    | none => none) := by first | rfl | (simp only [ev]; rfl)
theorem ev_enum (a : E) (env : En) : ev M C (.enum a) env = (match ev M C a env with
    | some (x, env) => match deref env x with
      | some (.lst xs) => some (.wk (enumP 0 xs) x.slot, env)
      | _ => none
    | none => none) := by first | rfl | (simp only [ev]; rfl)
theorem ev_rngI (es : List E) (env : En) : ev M C (.rngI es) env = (match evs M C es env with
    | some (os, env) => match (derefs env os).bind asInts with
      | some ns => match rngIF ns with
        | some xs => some (.wk (xs.map PV.int) [], env)
        | none => none
      | none => none
    | none => none) := by first | rfl | (simp only [ev]; rfl)
/-- a comprehension whose turns leave the slots as they are -/
theorem lcGo_map {turn : PV → En → Option (Option PV × En)} {f : PV → Option PV} {env : En} : ∀ {l : List PV}, (∀ z ∈ l, turn z env = some (f z, env)) → lcGo turn l env = some (l.filterMap f, env)
  | [], _ => rfl
  | z :: l, h => by
    have ih := lcGo_map (f := f) fun y hy => h y (List.mem_cons_of_mem _ hy)
    simp only [lcGo, h z (List.mem_cons_self ..), List.filterMap_cons]
    cases q : f z with
    | none => simp only [ih]
    | some y => simp only [ih]
theorem ev_lc (tg : Tg) (it : E) (ifs : List E) (elt : E) (env : En) : ev M C (.lc tg it ifs elt) env = (match ev M C it env with
    | some (x, env) => match walkO env x with
      | some (xs, o) => match lcGo (turn1F M C tg.slots tg ifs elt) xs (wipeE (lock env o) tg.slots) with
        | some (ys, env') => if ys.length ≤ sizeLine then some (.vl (.lst ys) true, unlock (restore env env' tg.slots) (lkOf env o)) else none
        | none => none
      | none => none
    | none => none) := by first | rfl | (simp only [ev]; rfl)
theorem ev_lc_map {tg : Tg} {it elt : E} {ifs : List E} {env env1 : En} {x : Opd} {xs : List PV} {l : List Nat} (f : PV → Option PV) (h1 : ev M C it env = some (x, env1)) (h2 : walkO env1 x = some (xs, l))
    (ht : ∀ z ∈ xs, turn1F M C tg.slots tg ifs elt z (wipeE (lock env1 l) tg.slots) = some (f z, wipeE (lock env1 l) tg.slots)) (hz : (xs.filterMap f).length ≤ sizeLine) :
    ev M C (.lc tg it ifs elt) env = some (.vl (.lst (xs.filterMap f)) true, unlock (restore env1 (wipeE (lock env1 l) tg.slots) tg.slots) (lkOf env1 l)) := by
  have hg := lcGo_map (turn := turn1F M C tg.slots tg ifs elt) ht
  rw [ev_lc]
  simp only [h1, h2, hg, hz, if_true]
variable {W : Lp} {pm : List Nat}
theorem ex_ex (e : E) (env : En) : ex M C W pm (.ex e) env = (match ev M C e env with
    | some (_, env) => some (.nx env)
    | none => none) := by first | rfl | (simp only [ex]; rfl)
theorem ex_set (i : Nat) (e : E) (env : En) : ex M C W pm (.set i e) env = (match ev M C e env with
    | some (x, env) => match move pm x env with
      | some ((p, f), env) => match store pm i p f env with
        | some env => some (.nx env)
        | none => none
      | none => none
    | none => none) := by first | rfl | (simp only [ex]; rfl)
theorem ex_unp (is : List Nat) (e : E) (env : En) : ex M C W pm (.unp is e) env = (match ev M C e env with
    | some (x, env) => match deref env x with
      | some (.tup ps) => match stores pm is ps env with
        | some env => some (.nx env)
        | none => none
      | _ => none
    | none => none) := by first | rfl | (simp only [ex]; rfl)
theorem ex_par (is : List Nat) (es : List E) (env : En) : ex M C W pm (.par is es) env = (match evs M C es env with
    | some (os, env) => match moves pm os env with
      | some (rs, env) => match storeR pm is rs env with
        | some env => some (.nx env)
        | none => none
      | none => none
    | none => none) := by first | rfl | (simp only [ex]; rfl)
theorem ex_sti (i : Nat) (k e : E) (env : En) : ex M C W pm (.sti i k e) env = (match ev M C e env with
    | some (y, env) => match consume env y with
      | some (y, env) => match ev M C k env with
        | some (k, env) => match deref env k, env[i]? with
          | some k, some (some ⟨p, .own⟩) => match setF p k y with
            | some p => some (.nx (env.set i (some ⟨p, .own⟩)))
            | none => none
          | _, _ => none
        | none => none
      | none => none
    | none => none) := by first | rfl | (simp only [ex]; rfl)
theorem ex_aug (i : Nat) (o : Bop) (e : E) (env : En) : ex M C W pm (.aug i o e) env = (match ev M C e env with
    | some (y, env) => match deref env (.sl i), deref env y with
      | some (.int p), some (.int q) => match binF o (.int p) (.int q) with
        | some (r, f) => match store pm i r f env with
          | some env => some (.nx env)
          | none => none
        | none => none
      | _, _ => none
    | none => none) := by first | rfl | (simp only [ex]; rfl)
theorem ex_ite (c : E) (a b : List S) (env : En) : ex M C W pm (.ite c a b) env = (match ev M C c env with
    | some (x, env) => match deref env x with
      | some (.bl true) => exs M C W pm a env
      | some (.bl false) => exs M C W pm b env
      | _ => none
    | none => none) := by first | rfl | (simp only [ex]; rfl)
theorem ex_ret (e : E) (env : En) : ex M C W pm (.ret e) env = (match ev M C e env with
    | some (x, env) => match move pm x env with
      | some ((p, f), env) => some (.rt p f env)
      | none => none
    | none => none) := by first | rfl | (simp only [ex]; rfl)
theorem ex_retN (env : En) : ex M C W pm .retN env = some (.rt .non false env) := by first | rfl | (simp only [ex]; rfl)
theorem ex_pas (env : En) : ex M C W pm .pas env = some (.nx env) := by first | rfl | (simp only [ex]; rfl)
theorem exs_nil (env : En) : exs M C W pm [] env = some (.nx env) := by first | rfl | (simp only [exs]; rfl)
theorem exs_cons (s : S) (ss : List S) (env : En) : exs M C W pm (s :: ss) env = (match ex M C W pm s env with
  | some (.nx env) => exs M C W pm ss env
  | r => r) := by first | rfl | (simp only [exs]; rfl)
theorem exs_nx {s : S} {ss : List S} {env env1 : En} (h : ex M C W pm s env = some (.nx env1)) : exs M C W pm (s :: ss) env = exs M C W pm ss env1 := by rw [exs_cons, h]
theorem exs_rt {s : S} {ss : List S} {env env1 : En} {p : PV} {k : Bool} (h : ex M C W pm s env = some (.rt p k env1)) : exs M C W pm (s :: ss) env = some (.rt p k env1) := by rw [exs_cons, h]
/-- a for's turn, a while's turn -/
def forT (M : Nat → List Md) (C : Cl) (W : Lp) (pm : List Nat) (tg : Tg) (b : List S) : PV → En → Option Fl := fun x env => match bindTg pm tg x env with
  | some env => exs M C W pm b env
  | none => none
def whlT (M : Nat → List Md) (C : Cl) (W : Lp) (pm : List Nat) (c : E) (b : List S) : En → Option (Sum En Fl) := fun env => match ev M C c env with
  | some (x, env) => match deref env x with
    | some (.bl true) => match exs M C W pm b env with
      | some (.nx env) => some (.inl env)
      | some r => some (.inr r)
      | none => none
    | some (.bl false) => some (.inr (.nx env))
    | _ => none
  | none => none
theorem ex_whl (c : E) (b : List S) (env : En) : ex M C W pm (.whl c b) env = W (whlT M C W pm c b) env := by first | rfl | (simp only [ex]; rfl)
theorem ex_for (tg : Tg) (it : E) (b : List S) (env : En) : ex M C W pm (.for_ tg it b) env = (match ev M C it env with
  | some (x, env) => match walkO env x with
    | some (xs, o) => match forGo (forT M C W pm tg b) xs (lock env o) with
      | some (.nx env') => some (.nx (unlock env' (lkOf env o)))
      | r => r
    | none => none
  | none => none) := by first | rfl | (simp only [ex]; rfl)
theorem ex_for_nx {tg : Tg} {it : E} {b : List S} {env env1 env2 : En} {x : Opd} {xs : List PV} {l : List Nat} (h1 : ev M C it env = some (x, env1)) (h2 : walkO env1 x = some (xs, l)) (h3 : forGo (forT M C W pm tg b) xs (lock env1 l) = some (.nx env2)) : ex M C W pm (.for_ tg it b) env = some (.nx (unlock env2 (lkOf env1 l))) := by
  rw [ex_for, h1]
  simp only [h2, h3]
theorem ex_for_rt {tg : Tg} {it : E} {b : List S} {env env1 env2 : En} {x : Opd} {xs : List PV} {l : List Nat} {p : PV} {k : Bool} (h1 : ev M C it env = some (x, env1)) (h2 : walkO env1 x = some (xs, l)) (h3 : forGo (forT M C W pm tg b) xs (lock env1 l) = some (.rt p k env2)) : ex M C W pm (.for_ tg it b) env = some (.rt p k env2) := by
  rw [ex_for, h1]
  simp only [h2, h3]
end
end L2.Pz
set_option Elab.async false
set_option linter.all false
set_option maxRecDepth 100000
set_option maxHeartbeats 4000000
namespace L2.Pz
set_option autoImplicit false
open PySem hiding run
open L2

/-! ## Pz25: what the laws' own small defs do -/
def cRoll : Dfn := ⟨[.mu, .ro], 4, [.ite (.cmp .gt (.idx (.var 0) (.con (.int 0))) (.con (.int 0))) [.set 3 (.bin .mod (.bi .int [(.idx (.var 0) (.con (.int 0)))]) (.var 1)), .sti 0 (.con (.int 0)) (.bin .fdiv (.idx (.var 0) (.con (.int 0))) (.var 1)), .ret (.var 3)] [], .sti 0 (.con (.int 1)) (.bin .mod (.bi .int [(.bin .add (.bin .mul (.idx (.var 0) (.con (.int 1))) (.con (.int 31051))) (.con (.int 7993)))]) (.con (.int 2147483543))), .set 2 (.bin .mod (.bi .int [(.bin .mul (.idx (.var 0) (.con (.int 1))) (.bin .add (.idx (.var 0) (.con (.int 1))) (.con (.int 229))))]) (.con (.int 2147483587))), .ret (.bin .mod (.bi .int [(.bin .fdiv (.var 2) (.con (.int 821)))]) (.var 1))]⟩
section
variable {W : Lp} {D : Nat → Dfn} {i : Nat}
theorem run_succ (d : Nat) (f : Nat) (ps : List PV) : run W D (d + 1) f ps = if ps.length = (D f).modes.length then
    (match exs (fun f => (D f).modes) (run W D d) W (mutsOf 0 (D f).modes) (D f).body (starts (D f).modes ps ++ List.replicate ((D f).slots - (D f).modes.length) none) with
    | some (.rt p k env) => (match outs (D f).modes env with
      | some os => some ((p, k), os)
      | none => none)
    | some (.nx env) => (match outs (D f).modes env with
      | some os => some ((.non, false), os)
      | none => none)
    | none => none) else none := rfl
theorem roll_ok (h : D i = cRoll) (d : Nat) (a b m : Int) (hm : 0 < m) (hl : m.natAbs.log2 < 9000) : ∃ v a' b' : Int, 0 ≤ v ∧ v < m ∧ run W D (d + 1) i [.lst [.int a, .int b], .int m] = some ((.int v, false), [.lst [.int a', .int b']]) := by
  by_cases ha : 0 < a
  · refine ⟨a % m, a / m, b, Int.emod_nonneg _ (by omega), Int.emod_lt_of_pos _ hm, ?_⟩
    rw [run_succ, h]
    simp [cRoll, exs, ex, ev, evs, starts, kdOf, deref, derefs, cmpF, icF, idxF, atP, ixN, ha, mutsOf, binF, intF, hm, hl, biF, intBi, move, store, consume, kd, setF, outs, asInts]
  · have h1 : mulOk b 31051 = true := by unfold mulOk; simp
    have hb1 := Int.emod_nonneg (b * 31051 + 7993) (show (2147483543 : Int) ≠ 0 by decide)
    have hb2 := Int.emod_lt_of_pos (b * 31051 + 7993) (show (0 : Int) < 2147483543 by decide)
    generalize hb : (b * 31051 + 7993) % 2147483543 = b' at hb1 hb2
    have h2 : mulOk b' (b' + 229) = true := by
      unfold mulOk
      have e1 : decide (-(2 ^ 64) < b') = true := decide_eq_true (by omega)
      have e2 : decide (b' < 2 ^ 64) = true := decide_eq_true (by omega)
      rw [e1, e2]; simp
    refine ⟨(b' * (b' + 229) % 2147483587 / 821) % m, a, b', Int.emod_nonneg _ (by omega), Int.emod_lt_of_pos _ hm, ?_⟩
    rw [run_succ, h]
    have l8 : Nat.log2 821 < 9000 := by decide
    simp [cRoll, exs, ex, ev, evs, starts, kdOf, deref, derefs, cmpF, icF, idxF, atP, ixN, ha, mutsOf, binF, intF, mulF, addF, h1, h2, hb, hm, hl, biF, intBi, move, store, consume, kd, setF, outs, asInts, l8]
/-- a cup of chance -/
def Cup (p : PV) : Prop := ∃ a b : Int, p = .lst [.int a, .int b]
theorem roll {D : Nat → Dfn} {i : Nat} (h : D i = cRoll) (d : Nat) {c : PV} (hc : Cup c) {m : Int} (hm : 0 < m) (hl : m < 2 ^ 200) : ∃ (v : Int) (c' : PV), 0 ≤ v ∧ v < m ∧ Cup c' ∧ run W D (d + 1) i [c, .int m] = some ((.int v, false), [c']) := by
  obtain ⟨a, b, rfl⟩ := hc
  have hl' : m.natAbs.log2 < 9000 := by
    have h1 : m.natAbs < 2 ^ 200 := by omega
    have h2 : m.natAbs.log2 < 200 := (Nat.log2_lt (by omega)).mpr h1
    omega
  obtain ⟨v, a', b', h1, h2, h3⟩ := roll_ok (W := W) h d a b m hm hl'
  exact ⟨v, _, h1, h2, ⟨a', b', rfl⟩, h3⟩
def cSort : Dfn := ⟨[.ro], 1, [.ite (.or (.cmp .is_ (.var 0) (.con .non)) (.isi .bool (.var 0))) [.ret (.ite (.cmp .is_ (.var 0) (.con .non)) (.con (.int 0)) (.con (.int 1)))] [], .ite (.or (.isi .int (.var 0)) (.isi .str (.var 0))) [.ret (.ite (.isi .int (.var 0)) (.con (.int 2)) (.con (.int 3)))] [], .ret (.ite (.isi .tuple (.var 0)) (.con (.int 4)) (.ite (.isi .list (.var 0)) (.con (.int 5)) (.con (.int 6))))]⟩
def sortN : PV → Int
  | .non => 0
  | .bl _ => 1
  | .int _ => 2
  | .str _ => 3
  | .tup _ => 4
  | .lst _ | .scr _ => 5
  | _ => 6
/-- values that == is known of -/
def Pln : PV → Bool
  | .non | .bl _ | .int _ | .str _ | .tup _ | .lst _ => true
  | _ => false
theorem sort_run {D : Nat → Dfn} {i : Nat} (h : D i = cSort) (d : Nat) {p : PV} (hp : Pln p = true) : run W D (d + 1) i [p] = some ((.int (sortN p), false), []) := by
  rw [run_succ, h]
  cases p <;> first | (cases hp; done) | rfl
theorem addF_int (i j : Int) : addF (.int i) (.int j) = some (.int (i + j), false) := rfl
def cSome (r : Nat) : Dfn := ⟨[.mu, .ro], 2, [.ret (.idx (.var 1) (.call r [(.var 0), (.bi .len [(.var 1)])]))]⟩
def cCup : Dfn := ⟨[.ro], 2, [.set 1 (.bi .abs [(.idx (.bin .add (.bi .list [(.var 0)]) (.lst [(.con (.int 0))])) (.con (.int 0)))]), .ret (.lst [(.ite (.cmp .ge (.var 1) (.bin .pow (.con (.int 10)) (.con (.int 18)))) (.bin .fdiv (.var 1) (.con (.int 73))) (.con (.int 0))), (.bin .add (.bin .mod (.bi .int [(.bin .add (.bin .mul (.var 1) (.con (.int 283))) (.con (.int 3907)))]) (.con (.int 2077503167))) (.con (.int 167)))])]⟩
theorem cup_run {D : Nat → Dfn} {i : Nat} (h : D i = cCup) (d : Nat) {ns : List Int} (hl : ns.length ≤ 63) : ∃ c, Cup c ∧ run W D (d + 1) i [.scr ns] = some ((c, true), []) := by
  have go : ∀ x : Int, (∃ l : List Int, addF (.lst (ns.map PV.int)) (.lst [.int 0]) = some (.lst (l.map PV.int), true) ∧ atP (l.map PV.int) 0 = some (.int x)) → run W D (d + 1) i [.scr ns] = some ((.lst [.int (if 1000000000000000000 ≤ (if x < 0 then -x else x) then (if x < 0 then -x else x) / 73 else 0), .int (((if x < 0 then -x else x) * 283 + 3907) % 2077503167 + 167)], true), []) := by
    rintro x ⟨l, e1, e2⟩
    have h1 : mulOk (if x < 0 then -x else x) 283 = true := by unfold mulOk; simp
    have h2 : powOk 10 18 = true := by decide
    have l8 : Nat.log2 73 < 9000 := by decide
    rw [run_succ, h]
    by_cases hx : 1000000000000000000 ≤ (if x < 0 then -x else x) <;>
      simp [cCup, exs, ex, ev, evs, deref, derefs, starts, kdOf, biF, listF, consumes, consume, binF, e1, e2, idxF, absF, move, store, kd, mutsOf, outs, sizeLine, cmpF, icF, intF, mulF, h1, h2, hx, l8, intBi, addF_int]
  cases ns with
  | nil => exact ⟨_, ⟨_, _, rfl⟩, go 0 ⟨[0], by simp [addF, sizeLine], by simp [atP, ixN]⟩⟩
  | cons n ns =>
    refine ⟨_, ⟨_, _, rfl⟩, go n ⟨n :: (ns ++ [0]), ?_, by
      have : (0 : Int) < ns.length + 1 + 1 := by omega
      simp [atP, ixN, this]⟩⟩
    have : ns.length + 1 + 1 ≤ sizeLine := by
      simp only [List.length_cons] at hl
      unfold sizeLine; omega
    simp [addF, this]
/-! ### _law_like of a thing and itself -/
def cLike (li ls : Nat) : Dfn := ⟨[.ro, .ro], 5, [.set 2 (.call ls [(.var 1)]), .ite (.or (.cmp .ne (.call ls [(.var 0)]) (.var 2)) (.cmp .eq (.var 2) (.con (.int 6)))) [.ret (.con (.bl false))] [], .ite (.cmp .inn (.var 2) (.tup [(.con (.int 4)), (.con (.int 5))])) [.ret (.and (.cmp .eq (.bi .len [(.var 0)]) (.bi .len [(.var 1)])) (.cmp .eq (.lc (.many [3, 4]) (.zip (.var 0) (.var 1)) [(.not (.call li [(.var 3), (.var 4)]))] (.con (.int 1))) (.lst [])))] [], .ret (.cmp .eq (.var 0) (.var 1))]⟩
/-- plain data, so deep at most -/
inductive Plain : Nat → PV → Prop
  | non {n : Nat} : Plain n .non
  | bl {n : Nat} (b : Bool) : Plain n (.bl b)
  | int {n : Nat} (i : Int) : Plain n (.int i)
  | str {n : Nat} (s : Str) : okP (.str s) = true → Plain n (.str s)
  | tup {n : Nat} {xs : List PV} : (∀ x ∈ xs, Plain n x) → Plain (n + 1) (.tup xs)
  | lst {n : Nat} {xs : List PV} : (∀ x ∈ xs, Plain n x) → Plain (n + 1) (.lst xs)
theorem Plain.pln {n : Nat} {p : PV} (h : Plain n p) : Pln p = true := by cases h <;> rfl
theorem Plain.mono {n m : Nat} {p : PV} (h : Plain n p) (hm : n ≤ m) : Plain m p := by
  induction h generalizing m with
  | non => exact .non
  | bl b => exact .bl b
  | int i => exact .int i
  | str s e => exact .str s e
  | tup _ ih =>
    cases m with
    | zero => omega
    | succ m => exact .tup fun x hx => ih x hx (by omega)
  | lst _ ih =>
    cases m with
    | zero => omega
    | succ m => exact .lst fun x hx => ih x hx (by omega)
theorem lcGo_nil {turn : PV → En → Option (Option PV × En)} {env : En} : ∀ {l : List PV}, (∀ z ∈ l, turn z env = some (none, env)) → lcGo turn l env = some ([], env)
  | [], _ => rfl
  | z :: l, h => by
    simp only [lcGo, h z (List.mem_cons_self ..)]
    exact lcGo_nil fun y hy => h y (List.mem_cons_of_mem _ hy)
theorem mem_zipP {xs : List PV} {z : PV} (h : z ∈ zipP xs xs) : ∃ x ∈ xs, z = .tup [x, x] := by
  obtain ⟨i, hi⟩ := List.mem_iff_getElem?.mp h
  obtain ⟨x, y, h1, h2, rfl⟩ := zipP_get hi
  rw [h1] at h2; cases h2
  exact ⟨x, List.mem_of_getElem? h1, rfl⟩
theorem eqv_str (s : Str) : eqP (.str s) (.str s) = true := by
  show (s == s) = true
  exact beq_self_eq_true s
theorem okP_int (i : Int) : okP (.int i) = true := rfl
theorem okP_bl (i : Bool) : okP (.bl i) = true := by cases i <;> rfl
theorem okP_nil : okP (.lst []) = true := rfl
theorem eqP_int (i j : Int) : eqP (.int i) (.int j) = (i == j) := rfl
theorem eqP_bl (i j : Bool) : eqP (.bl i) (.bl j) = (i == j) := rfl
theorem eqP_nil : eqP (.lst []) (.lst []) = true := rfl
theorem eqF_int (n : Bool) (i j : Int) : eqF n (.int i) (.int j) = some (n != (i == j)) := rfl
theorem inF45 : inF (.int 4) (.tup [.int 4, .int 5]) = some true := rfl
theorem inF55 : inF (.int 5) (.tup [.int 4, .int 5]) = some true := rfl
theorem inF_no {k : Int} (h : k = 0 ∨ k = 1 ∨ k = 2 ∨ k = 3) : inF (.int k) (.tup [.int 4, .int 5]) = some false ∧ k ≠ 6 := by
  rcases h with rfl | rfl | rfl | rfl <;> exact ⟨rfl, by decide⟩
theorem inF_yes {k : Int} (h : k = 4 ∨ k = 5) : inF (.int k) (.tup [.int 4, .int 5]) = some true ∧ k ≠ 6 := by
  rcases h with rfl | rfl <;> exact ⟨rfl, by decide⟩
theorem like_leaf {D : Nat → Dfn} {li ls : Nat} (hs : D ls = cSort) (h : D li = cLike li ls) (d : Nat) {p : PV} (hp : Pln p = true) (hk : sortN p = 0 ∨ sortN p = 1 ∨ sortN p = 2 ∨ sortN p = 3) (he : eqF false p p = some true) : run W D (d + 2) li [p, p] = some ((.bl true, false), []) := by
  have sr := sort_run (W := W) hs d hp
  have hm : (D ls).modes = [.ro] := by rw [hs]; rfl
  obtain ⟨h1, h2⟩ := inF_no hk
  have h6 : (sortN p == 6) = false := by simpa using h2
  have hz : 2 ≤ sizeLine := by decide
  rw [run_succ, h]
  simp [cLike, exs, ex, ev, evs, starts, kdOf, deref, derefs, pass, hm, sr, back, move, store, kd, cmpF, eqF_int, mutsOf, outs, h1, h6, consumes, consume, hz, he]
theorem like_seq {D : Nat → Dfn} {li ls : Nat} (hs : D ls = cSort) (h : D li = cLike li ls) (d : Nat) {p : PV} {xs : List PV} (hp : p = .tup xs ∨ p = .lst xs) (ih : ∀ x ∈ xs, run W D (d + 1) li [x, x] = some ((.bl true, false), [])) : run W D (d + 2) li [p, p] = some ((.bl true, false), []) := by
  have pl : Pln p = true := by rcases hp with rfl | rfl <;> rfl
  have sr := sort_run (W := W) hs d pl
  have hm : (D ls).modes = [.ro] := by rw [hs]; rfl
  have hk : sortN p = 4 ∨ sortN p = 5 := by rcases hp with rfl | rfl <;> simp [sortN]
  obtain ⟨h1, h2⟩ := inF_yes hk
  have hml : (D li).modes = [.ro, .ro] := by rw [h]; rfl
  have hlen : lenF [p] = some (.int xs.length, false) := by rcases hp with rfl | rfl <;> rfl
  have h6 : (sortN p == 6) = false := by simpa using h2
  have hz : 2 ≤ sizeLine := by decide
  have en : eqF false (.lst []) (.lst []) = some true := rfl
  have fm : (zipP xs xs).filterMap (fun _ => (none : Option PV)) = [] := by
    induction zipP xs xs with
    | nil => rfl
    | cons _ _ ih => simpa using ih
  have lc : ev (fun f => (D f).modes) (run W D (d + 1)) (.lc (.many [3, 4]) (.zip (.var 0) (.var 1)) [(.not (.call li [(.var 3), (.var 4)]))] (.con (.int 1))) [some ⟨p, .ro⟩, some ⟨p, .ro⟩, some ⟨.int (sortN p), .fz⟩, none, none] = some (.vl (.lst []) true, [some ⟨p, .ro⟩, some ⟨p, .ro⟩, some ⟨.int (sortN p), .fz⟩, none, none]) := by
    have e0 : ev (fun f => (D f).modes) (run W D (d + 1)) (.zip (.var 0) (.var 1)) [some ⟨p, .ro⟩, some ⟨p, .ro⟩, some ⟨.int (sortN p), .fz⟩, none, none] = some (.wk (zipP xs xs) [0, 1], [some ⟨p, .ro⟩, some ⟨p, .ro⟩, some ⟨.int (sortN p), .fz⟩, none, none]) := by
      rcases hp with rfl | rfl <;> simp [ev_zip, ev_var, deref, Opd.slot]
    have := ev_lc_map (tg := .many [3, 4]) (elt := .con (.int 1)) (ifs := [(.not (.call li [(.var 3), (.var 4)]))]) (fun _ => (none : Option PV)) e0 rfl (fun z hz => by
      obtain ⟨x, hx, rfl⟩ := mem_zipP hz
      simp [turn1F, bindTg, stores, store, kd, evIfs, ev_not, ev_call, ev_var, evs, hml, pass, deref, ih x hx, back, wipeE, lock, lock1, Tg.slots]) (by rw [fm]; exact Nat.zero_le _)
    rw [fm] at this
    rw [this]
    simp [wipeE, lock, lock1, Tg.slots, restore, unlock, lkOf, isOwn]
  rw [run_succ, h]
  simp [cLike, exs, ex, ev_con, ev_glo, ev_var, ev_bin, ev_un, ev_cmp, ev_cmp2, ev_and, ev_or, ev_not, ev_ite, ev_tup, ev_lst, ev_dnk, ev_idx, ev_slc, ev_rev, ev_isi, ev_call, ev_bi, ev_met, ev_mm, ev_zip, ev_enum, ev_rngI, evs, starts, kdOf, deref, derefs, pass, hm, sr, back, move, store, kd, cmpF, eqF_int, mutsOf, outs, h1, h6, consumes, consume, hz, biF, hlen, lc, en]
theorem like_run {D : Nat → Dfn} {li ls : Nat} (hs : D ls = cSort) (h : D li = cLike li ls) : ∀ (n : Nat) {p : PV}, Plain n p → ∀ d : Nat, run W D (d + n + 2) li [p, p] = some ((.bl true, false), []) := by
  have leaf : ∀ {n : Nat} {p : PV}, Plain n p → (∀ xs, p ≠ .tup xs) → (∀ xs, p ≠ .lst xs) → ∀ d : Nat, run W D (d + 2) li [p, p] = some ((.bl true, false), []) := fun {n p} hp h1 h2 d => by
    refine like_leaf hs h d hp.pln ?_ ?_
    · cases hp with
      | tup _ => exact (h1 _ rfl).elim
      | lst _ => exact (h2 _ rfl).elim
      | _ => simp [sortN]
    · cases hp with
      | tup _ => exact (h1 _ rfl).elim
      | lst _ => exact (h2 _ rfl).elim
      | non => rfl
      | bl b => cases b <;> rfl
      | int i => simp [eqF, okP_int, eqP_int]
      | str s e => simp [eqF, e, eqv_str]
  intro n
  induction n with
  | zero => exact fun hp d => leaf hp (fun xs z => by subst z; cases hp) (fun xs z => by subst z; cases hp) (d + 0)
  | succ n ih =>
    intro p hp d
    cases hp with
    | tup hx => exact like_seq hs h (d + n + 1) (.inl rfl) fun x hx' => (ih (hx x hx') d : _)
    | lst hx => exact like_seq hs h (d + n + 1) (.inr rfl) fun x hx' => (ih (hx x hx') d : _)
    | non => exact leaf (n := 0) .non (fun _ z => by cases z) (fun _ z => by cases z) (d + n + 1)
    | bl b => exact leaf (n := 0) (.bl b) (fun _ z => by cases z) (fun _ z => by cases z) (d + n + 1)
    | int i => exact leaf (n := 0) (.int i) (fun _ z => by cases z) (fun _ z => by cases z) (d + n + 1)
    | str s e => exact leaf (n := 0) (.str s e) (fun _ z => by cases z) (fun _ z => by cases z) (d + n + 1)
end
end L2.Pz
set_option Elab.async false
set_option linter.all false
set_option maxRecDepth 100000
set_option maxHeartbeats 4000000
namespace L2.Pz
set_option autoImplicit false
open PySem hiding run
open L2

/-! ## Pz26: loops over states; plain facts of values -/
/-- a for whose turns go from state to state -/
theorem forGo_rel {α : Type} {turn : PV → En → Option Fl} {R : α → En → Prop} {step : α → PV → α} : ∀ {l : List PV} {a : α} {env : En}, R a env → (∀ z ∈ l, ∀ a env, R a env → ∃ env', turn z env = some (.nx env') ∧ R (step a z) env') → ∃ env', forGo turn l env = some (.nx env') ∧ R (l.foldl step a) env'
  | [], a, env, h, _ => ⟨env, rfl, h⟩
  | z :: l, a, env, h, ht => by
    obtain ⟨env1, h1, h2⟩ := ht z (List.mem_cons_self ..) a env h
    obtain ⟨env2, h3, h4⟩ := forGo_rel (l := l) h2 fun y hy => ht y (List.mem_cons_of_mem _ hy)
    exact ⟨env2, by simp only [forGo, h1, h3], h4⟩
/-- the same with an invariant of the state -/
theorem forGo_inv {turn : PV → En → Option Fl} {R : List PV → En → Prop} : ∀ {l done : List PV} {env : En}, R done env → (∀ (z : PV) (d r : List PV) (env : En), done ++ l = d ++ z :: r → R d env → ∃ env', turn z env = some (.nx env') ∧ R (d ++ [z]) env') → ∃ env', forGo turn l env = some (.nx env') ∧ R (done ++ l) env'
  | [], done, env, h, _ => ⟨env, rfl, by rw [List.append_nil]; exact h⟩
  | z :: l, done, env, h, ht => by
    obtain ⟨env1, h1, h2⟩ := ht z done l env rfl h
    obtain ⟨env2, h3, h4⟩ := forGo_inv (l := l) (done := done ++ [z]) h2 fun y d r env e => ht y d r env (by rw [← e, List.append_assoc]; rfl)
    exact ⟨env2, by simp only [forGo, h1, h3], by rw [List.append_assoc] at h4; exact h4⟩
/-- a while that goes from state to state until it stops -/
theorem lim_rel {α : Type} {f : En → Option (Sum En Fl)} {R : α → En → Prop} {c : α → Bool} {g : α → α} (ht : ∀ a env, R a env → if c a = true then ∃ env', f env = some (.inl env') ∧ R (g a) env' else ∃ env', f env = some (.inr (.nx env')) ∧ R a env') : ∀ (n : Nat) {a : α} {env : En}, R a env → (∃ k, k ≤ n ∧ c (Nat.repeat g k a) = false) →
    ∃ k env', lim f env = some (.nx env') ∧ R (Nat.repeat g k a) env' ∧ c (Nat.repeat g k a) = false ∧ ∀ j < k, c (Nat.repeat g j a) = true := by
  have shift : ∀ (k : Nat) (a : α), Nat.repeat g k (g a) = Nat.repeat g (k + 1) a := fun k a => by
    induction k with
    | zero => rfl
    | succ k ih => show g (Nat.repeat g k (g a)) = g (Nat.repeat g (k + 1) a); rw [ih]
  intro n
  induction n with
  | zero =>
    intro a env h ⟨k, hk, hc⟩
    have : k = 0 := by omega
    subst this
    have h1 := ht a env h
    rw [if_neg (by rw [show c a = false from hc]; decide)] at h1
    obtain ⟨env', h1, h2⟩ := h1
    exact ⟨0, env', lim_stop h1, h2, hc, fun j hj => by omega⟩
  | succ n ih =>
    intro a env h ⟨k, hk, hc⟩
    have h1 := ht a env h
    cases q : c a with
    | false =>
      rw [if_neg (by rw [q]; decide)] at h1
      obtain ⟨env', h1, h2⟩ := h1
      exact ⟨0, env', lim_stop h1, h2, q, fun j hj => by omega⟩
    | true =>
      rw [if_pos q] at h1
      obtain ⟨env1, h1, h2⟩ := h1
      cases k with
      | zero => rw [show c a = false from hc] at q; cases q
      | succ k =>
        obtain ⟨k', env', h3, h4, h5, h6⟩ := ih h2 ⟨k, by omega, by rw [shift]; exact hc⟩
        rw [shift] at h4 h5
        refine ⟨k' + 1, env', by rw [lim_step h1]; exact h3, h4, h5, fun j hj => ?_⟩
        cases j with
        | zero => exact q
        | succ j => rw [← shift]; exact h6 j (by omega)
def leafB : PV → Bool
  | .non | .bl _ | .int _ => true
  | _ => false
theorem leafs_lay : ∀ {xs : List PV}, xs.all leafB = true → PyData.canLayAll0 (toDs xs) = true ∧ PyData.depthAll (toDs xs) = 0
  | [], _ => ⟨rfl, rfl⟩
  | x :: xs, h => by
    rw [List.all_cons, Bool.and_eq_true] at h
    obtain ⟨h1, h2⟩ := leafs_lay h.2
    have hx : x.toD.canLay0 = true ∧ x.toD.depth = 0 := by
      cases x <;> first | (cases h.1; done) | exact ⟨rfl, rfl⟩
    refine ⟨?_, ?_⟩
    · show (x.toD.canLay0 && PyData.canLayAll0 (toDs xs)) = true
      rw [hx.1, h1]; rfl
    · show max x.toD.depth (PyData.depthAll (toDs xs)) = 0
      rw [hx.2, h2]; rfl
theorem okP_lst {xs : List PV} (h : xs.all leafB = true) : okP (.lst xs) = true := by
  obtain ⟨h1, h2⟩ := leafs_lay h
  show (PyData.canLayAll0 (toDs xs) && decide (PyData.depthAll (toDs xs) + 1 ≤ 64)) = true
  rw [h1, h2]; rfl
theorem okP_tup {xs : List PV} (h : xs.all leafB = true) : okP (.tup xs) = true := by
  obtain ⟨h1, h2⟩ := leafs_lay h
  show (PyData.canLayAll0 (toDs xs) && decide (PyData.depthAll (toDs xs) + 1 ≤ 64)) = true
  rw [h1, h2]; rfl
theorem eqP_lnil (xs : List PV) : eqP (.lst xs) (.lst []) = xs.isEmpty := by
  cases xs <;> rfl
theorem eqF_lnil {n : Bool} {xs : List PV} (h : xs.all leafB = true) : eqF n (.lst xs) (.lst []) = some (n != xs.isEmpty) := by
  unfold eqF
  rw [if_pos ⟨okP_lst h, rfl⟩, eqP_lnil]
theorem all_ints (ns : List Int) : (ns.map PV.int).all leafB = true := by
  induction ns with
  | nil => rfl
  | cons _ _ ih => simpa [leafB] using ih
theorem atP_nat {xs : List PV} {i : Nat} {x : PV} (h : xs[i]? = some x) : atP xs (i : Int) = some x := by
  have hl := lt_of_some h
  unfold atP ixN
  rw [if_pos (by omega), if_pos (by omega)]
  simpa using h
theorem ixN_nat {n i : Nat} (h : i < n) : ixN n (i : Int) = some i := by
  unfold ixN
  rw [if_pos (by omega), if_pos (by omega)]
  simp
end L2.Pz
set_option Elab.async false
set_option linter.all false
set_option maxRecDepth 100000
set_option maxHeartbeats 4000000
namespace L2.Pz
set_option autoImplicit false
open PySem hiding run
open L2

/-! ## Pz27: what an expression comes to, the slots as they were -/
section
variable {M : Nat → List Md} {C : Cl} {W : Lp} {pm : List Nat} {env : En}
/-- e comes to p -/
def Pv (M : Nat → List Md) (C : Cl) (e : E) (env : En) (p : PV) : Prop := ∃ x, ev M C e env = some (x, env) ∧ deref env x = some p
/-- e comes to p, which may be kept elsewhere -/
def Pc (M : Nat → List Md) (C : Cl) (e : E) (env : En) (p : PV) : Prop := ∃ x, ev M C e env = some (x, env) ∧ consume env x = some (p, env)
theorem consume_deref {x : Opd} {p : PV} {env1 : En} (h : consume env x = some (p, env1)) : deref env x = some p := by
  cases x with
  | vl q f => simp only [consume, Option.some.injEq, Prod.mk.injEq] at h; simp only [deref, h.1]
  | sl i =>
    simp only [consume] at h
    simp only [deref]
    cases q : env[i]? with
    | none => rw [q] at h; cases h
    | some s =>
      cases s with
      | none => rw [q] at h; cases h
      | some s =>
        obtain ⟨v, k⟩ := s
        rw [q] at h
        cases k with
        | fz => simp only [Option.some.injEq, Prod.mk.injEq] at h; simp [h.1]
        | own => simp only [Option.some.injEq, Prod.mk.injEq] at h; simp [h.1]
        | ro =>
          simp only at h
          split at h
          · simp only [Option.some.injEq, Prod.mk.injEq] at h; simp [h.1]
          · cases h
        | lk => cases h
  | wk xs l => cases h
theorem Pc.pv {e : E} {p : PV} (h : Pc M C e env p) : Pv M C e env p := let ⟨x, h1, h2⟩ := h; ⟨x, h1, consume_deref h2⟩
theorem Pc.of {e : E} {p : PV} {f : Bool} (h : ev M C e env = some (.vl p f, env)) : Pc M C e env p := ⟨_, h, rfl⟩
theorem Pv.of {e : E} {p : PV} {f : Bool} (h : ev M C e env = some (.vl p f, env)) : Pv M C e env p := ⟨_, h, rfl⟩
theorem pc_con (c : PV) : Pc M C (.con c) env c := ⟨_, ev_con .., rfl⟩
theorem pv_con (c : PV) : Pv M C (.con c) env c := ⟨_, ev_con .., rfl⟩
theorem pv_glo (x : Str) (c : PV) : Pv M C (.glo x c) env c := ⟨_, ev_glo .., rfl⟩
theorem ev_var_of {i : Nat} {s : Slot} (h : env[i]? = some (some s)) : ev M C (.var i) env = some (.sl i, env) := by rw [ev_var, h]
theorem pv_var {i : Nat} {s : Slot} (h : env[i]? = some (some s)) : Pv M C (.var i) env s.v := ⟨_, ev_var_of h, by simp only [deref, h]⟩
theorem pv_at {i : Nat} {p : PV} {k : Kd} (h : env[i]? = some (some ⟨p, k⟩)) : Pv M C (.var i) env p := pv_var h
theorem pc_fz {i : Nat} {p : PV} (h : env[i]? = some (some ⟨p, .fz⟩)) : Pc M C (.var i) env p := ⟨_, ev_var_of h, by simp only [consume, h]⟩
theorem pc_ro {i : Nat} {p : PV} (h : env[i]? = some (some ⟨p, .ro⟩)) (hp : p.imm = true) : Pc M C (.var i) env p := ⟨_, ev_var_of h, by simp only [consume, h, hp, if_true]⟩
theorem vl_bin {o : Bop} {a b : E} {p q r : PV} {f : Bool} (h1 : Pv M C a env p) (h2 : Pv M C b env q) (h3 : binF o p q = some (r, f)) : ev M C (.bin o a b) env = some (.vl r f, env) := by
  obtain ⟨x, e1, d1⟩ := h1
  obtain ⟨y, e2, d2⟩ := h2
  rw [ev_bin, e1]
  simp only [e2, d1, d2, h3]
theorem vl_cmp {o : Cop} {a b : E} {p q : PV} {r : Bool} (h1 : Pv M C a env p) (h2 : Pv M C b env q) (h3 : cmpF o p q = some r) : ev M C (.cmp o a b) env = some (.vl (.bl r) false, env) := by
  obtain ⟨x, e1, d1⟩ := h1
  obtain ⟨y, e2, d2⟩ := h2
  rw [ev_cmp, e1]
  simp only [e2, d1, d2, h3]
theorem vl_cmp2 {o o' : Cop} {a b c : E} {p q r : PV} {k : Bool} (h1 : Pv M C a env p) (h2 : Pv M C b env q) (h3 : Pv M C c env r) (h4 : ∃ k1 k2, cmpF o p q = some k1 ∧ cmpF o' q r = some k2 ∧ k = (k1 && k2)) : ev M C (.cmp2 o o' a b c) env = some (.vl (.bl k) false, env) := by
  obtain ⟨x, e1, d1⟩ := h1
  obtain ⟨y, e2, d2⟩ := h2
  obtain ⟨z, e3, d3⟩ := h3
  obtain ⟨k1, k2, c1, c2, rfl⟩ := h4
  rw [ev_cmp2, e1]
  simp only [e2, d1, d2, c1]
  cases k1
  · rfl
  · simp only [e3, d3, c2, d2, Bool.true_and]
theorem vl_and {a b : E} {p : PV} {k : Bool} {f : Bool} (h1 : Pv M C a env (.bl k)) (h2 : k = true → ev M C b env = some (.vl p f, env)) (h3 : k = false → p = .bl false ∧ f = false) : ev M C (.and a b) env = some (.vl p f, env) := by
  obtain ⟨x, e1, d1⟩ := h1
  rw [ev_and, e1]
  simp only [d1]
  cases k with
  | true => exact h2 rfl
  | false => obtain ⟨rfl, rfl⟩ := h3 rfl; rfl
theorem vl_andb {a b : E} {k k' : Bool} (h1 : Pv M C a env (.bl k)) (h2 : k = true → ev M C b env = some (.vl (.bl k') false, env)) : ev M C (.and a b) env = some (.vl (.bl (k && k')) false, env) :=
  vl_and h1 (fun h => by rw [h, h2 h]; rfl) (fun h => by rw [h]; exact ⟨rfl, rfl⟩)
theorem vl_orb {a b : E} {k k' : Bool} (h1 : Pv M C a env (.bl k)) (h2 : k = false → ev M C b env = some (.vl (.bl k') false, env)) : ev M C (.or a b) env = some (.vl (.bl (k || k')) false, env) := by
  obtain ⟨x, e1, d1⟩ := h1
  rw [ev_or, e1]
  simp only [d1]
  cases k with
  | true => rfl
  | false => rw [h2 rfl]; rfl
theorem vl_not {a : E} {k : Bool} (h1 : Pv M C a env (.bl k)) : ev M C (.not a) env = some (.vl (.bl (!k)) false, env) := by
  obtain ⟨x, e1, d1⟩ := h1
  rw [ev_not, e1]
  simp only [d1]
theorem pv_ite {c a b : E} {k : Bool} {p : PV} (h1 : Pv M C c env (.bl k)) (h2 : k = true → Pv M C a env p) (h3 : k = false → Pv M C b env p) : Pv M C (.ite c a b) env p := by
  obtain ⟨x, e1, d1⟩ := h1
  cases k with
  | true => obtain ⟨y, e2, d2⟩ := h2 rfl; exact ⟨y, by rw [ev_ite, e1]; simp only [d1, e2], d2⟩
  | false => obtain ⟨y, e2, d2⟩ := h3 rfl; exact ⟨y, by rw [ev_ite, e1]; simp only [d1, e2], d2⟩
theorem pc_ite {c a b : E} {k : Bool} {p : PV} (h1 : Pv M C c env (.bl k)) (h2 : k = true → Pc M C a env p) (h3 : k = false → Pc M C b env p) : Pc M C (.ite c a b) env p := by
  obtain ⟨x, e1, d1⟩ := h1
  cases k with
  | true => obtain ⟨y, e2, d2⟩ := h2 rfl; exact ⟨y, by rw [ev_ite, e1]; simp only [d1, e2], d2⟩
  | false => obtain ⟨y, e2, d2⟩ := h3 rfl; exact ⟨y, by rw [ev_ite, e1]; simp only [d1, e2], d2⟩
theorem vl_ite {c a b : E} {k : Bool} {p : PV} {f : Bool} (h1 : Pv M C c env (.bl k)) (h2 : k = true → ev M C a env = some (.vl p f, env)) (h3 : k = false → ev M C b env = some (.vl p f, env)) : ev M C (.ite c a b) env = some (.vl p f, env) := by
  obtain ⟨x, e1, d1⟩ := h1
  rw [ev_ite, e1]
  simp only [d1]
  cases k with
  | true => exact h2 rfl
  | false => exact h3 rfl
theorem vl_idx {a i : E} {p q r : PV} (h1 : Pv M C a env p) (h2 : Pv M C i env q) (h3 : idxF p q = some r) : ev M C (.idx a i) env = some (.vl r false, env) := by
  obtain ⟨x, e1, d1⟩ := h1
  obtain ⟨y, e2, d2⟩ := h2
  rw [ev_idx, e1]
  simp only [e2, d1, d2, h3]
theorem vl_isi {t : Ty} {a : E} {p r : PV} {f : Bool} (h1 : Pv M C a env p) (h3 : isiF t p = some (r, f)) : ev M C (.isi t a) env = some (.vl r f, env) := by
  obtain ⟨x, e1, d1⟩ := h1
  rw [ev_isi, e1]
  simp only [d1, h3]
/-- several -/
def Pvs (M : Nat → List Md) (C : Cl) (es : List E) (env : En) (ps : List PV) : Prop := ∃ os, evs M C es env = some (os, env) ∧ derefs env os = some ps
def Pcs (M : Nat → List Md) (C : Cl) (es : List E) (env : En) (ps : List PV) : Prop := ∃ os, evs M C es env = some (os, env) ∧ consumes env os = some (ps, env)
theorem evs_nil : evs M C [] env = some ([], env) := by first | rfl | (simp only [evs]; done)
theorem evs_cons {e : E} {es : List E} {env1 env2 : En} {x : Opd} {xs : List Opd} (h : ev M C e env = some (x, env1)) (h2 : evs M C es env1 = some (xs, env2)) : evs M C (e :: es) env = some (x :: xs, env2) := by
  rw [evs, h]
  simp only [h2]
theorem pvs_nil : Pvs M C [] env [] := ⟨[], evs_nil, rfl⟩
theorem pcs_nil : Pcs M C [] env [] := ⟨[], evs_nil, rfl⟩
theorem pvs_cons {e : E} {es : List E} {p : PV} {ps : List PV} (h1 : Pv M C e env p) (h2 : Pvs M C es env ps) : Pvs M C (e :: es) env (p :: ps) := by
  obtain ⟨x, e1, d1⟩ := h1
  obtain ⟨os, e2, d2⟩ := h2
  exact ⟨x :: os, evs_cons e1 e2, by simp only [derefs, d1, d2]⟩
theorem pcs_cons {e : E} {es : List E} {p : PV} {ps : List PV} (h1 : Pc M C e env p) (h2 : Pcs M C es env ps) : Pcs M C (e :: es) env (p :: ps) := by
  obtain ⟨x, e1, d1⟩ := h1
  obtain ⟨os, e2, d2⟩ := h2
  exact ⟨x :: os, evs_cons e1 e2, by simp only [consumes, d1, d2]⟩
theorem vl_tup {es : List E} {ps : List PV} (h1 : Pcs M C es env ps) (hz : ps.length ≤ sizeLine) : ev M C (.tup es) env = some (.vl (.tup ps) false, env) := by
  obtain ⟨os, e1, d1⟩ := h1
  rw [ev_tup, e1]
  simp only [d1, hz, if_true]
theorem vl_lst {es : List E} {ps : List PV} (h1 : Pcs M C es env ps) (hz : ps.length ≤ sizeLine) : ev M C (.lst es) env = some (.vl (.lst ps) true, env) := by
  obtain ⟨os, e1, d1⟩ := h1
  rw [ev_lst, e1]
  simp only [d1, hz, if_true]
theorem vl_bi {b : Bi} {es : List E} {ps : List PV} {r : PV} {f : Bool} (h1 : Pvs M C es env ps) (h2 : biF b ps = some (r, f)) : ev M C (.bi b es) env = some (.vl r f, env) := by
  obtain ⟨os, e1, d1⟩ := h1
  rw [ev_bi, e1]
  simp only [d1, h2]
theorem vl_bi1 {b : Bi} {e : E} {p r : PV} {f : Bool} (h1 : Pv M C e env p) (h2 : biF b [p] = some (r, f)) : ev M C (.bi b [e]) env = some (.vl r f, env) := vl_bi (pvs_cons h1 pvs_nil) h2
theorem pass_ro : ∀ {ms : List Md} {os : List Opd} {ps : List PV}, derefs env os = some ps → ms = List.replicate ps.length Md.ro → pass ms os env = some (ps, [], env)
  | ms, [], ps, h, hm => by cases h; subst hm; rfl
  | ms, o :: os, ps, h, hm => by
    simp only [derefs] at h
    cases q : deref env o with
    | none => rw [q] at h; cases h
    | some p =>
      cases q2 : derefs env os with
      | none => rw [q, q2] at h; cases h
      | some ps' =>
        rw [q, q2] at h
        cases h
        subst hm
        have ih := pass_ro (ms := List.replicate ps'.length Md.ro) q2 rfl
        show pass (Md.ro :: List.replicate ps'.length Md.ro) (o :: os) env = _
        simp only [pass, q, ih]
        rfl
theorem vl_call {f : Nat} {es : List E} {ps : List PV} {r : PV} {k : Bool} (h1 : Pvs M C es env ps) (hm : M f = List.replicate ps.length Md.ro) (hc : C f ps = some ((r, k), [])) : ev M C (.call f es) env = some (.vl r k, env) := by
  obtain ⟨os, e1, d1⟩ := h1
  rw [ev_call, e1]
  simp only [pass_ro d1 hm, hc, back]
theorem vl_callv {f : Nat} {e : E} {p : PV} {r : PV} {k : Bool} (h1 : Pc M C e env p) (hm : M f = [.val]) (hc : C f [p] = some ((r, k), [])) : ev M C (.call f [e]) env = some (.vl r k, env) := by
  obtain ⟨x, e1, d1⟩ := h1
  rw [ev_call, evs_cons e1 evs_nil]
  simp only [hm, pass, d1, hc, back]
/-- a call with a cup -/
theorem vl_roll {f i : Nat} {e : E} {c c' p r : PV} {g k : Bool} (h0 : env[i]? = some (some ⟨c, .own⟩)) (h1 : ev M C e env = some (.vl p g, env)) (hm : M f = [.mu, .ro]) (hc : C f [c, p] = some ((r, k), [c'])) : ev M C (.call f [(.var i), e]) env = some (.vl r k, env.set i (some ⟨c', .own⟩)) := by
  rw [ev_call, evs_cons (ev_var_of h0) (evs_cons h1 evs_nil)]
  simp only [hm, pass, h0, deref, List.any_cons, List.any_nil, Opd.is, Bool.or_false, Bool.or_self, if_false, Bool.false_eq_true, hc, back]
/-- what is walked -/
def Pw (M : Nat → List Md) (C : Cl) (e : E) (env : En) (xs : List PV) (l : List Nat) : Prop := ∃ x, ev M C e env = some (x, env) ∧ walkO env x = some (xs, l)
theorem pw_rng1 {e : E} {j : Int} (h : Pv M C e env (.int j)) (hb : inB j = true) : Pw M C (.rngI [e]) env ((rngL 0 j).map .int) [] := by
  obtain ⟨x, e1, d1⟩ := h
  refine ⟨.wk _ _, ?_, rfl⟩
  rw [ev_rngI, evs_cons e1 evs_nil]
  simp only [derefs, d1, Option.bind_some, asInts, Option.map_some, rngIF, hb, if_true]
theorem pw_rng2 {e e' : E} {i j : Int} (h : Pv M C e env (.int i)) (h' : Pv M C e' env (.int j)) (hb : inB i = true) (hb' : inB j = true) : Pw M C (.rngI [e, e']) env ((rngL i j).map .int) [] := by
  obtain ⟨x, e1, d1⟩ := h
  obtain ⟨y, e2, d2⟩ := h'
  refine ⟨.wk _ _, ?_, rfl⟩
  rw [ev_rngI, evs_cons e1 (evs_cons e2 evs_nil)]
  simp only [derefs, d1, d2, Option.bind_some, asInts, Option.map_some, rngIF, hb, hb', and_self, if_true]
theorem pw_var {i : Nat} {s : Slot} {xs : List PV} (h : env[i]? = some (some s)) (hw : walkF s.v = some xs) : Pw M C (.var i) env xs [i] := ⟨.sl i, ev_var_of h, by simp only [walkO, deref, h, hw]; rfl⟩
theorem pw_vl {e : E} {p : PV} {f : Bool} {xs : List PV} (h : ev M C e env = some (.vl p f, env)) (hw : walkF p = some xs) : Pw M C e env xs [] := ⟨_, h, by simp only [walkO, deref, hw]; rfl⟩
theorem ex_for_pw {tg : Tg} {it : E} {b : List S} {env2 : En} {xs : List PV} {l : List Nat} (h1 : Pw M C it env xs l) (h3 : forGo (forT M C W pm tg b) xs (lock env l) = some (.nx env2)) : ex M C W pm (.for_ tg it b) env = some (.nx (unlock env2 (lkOf env l))) := by
  obtain ⟨x, e1, w1⟩ := h1
  exact ex_for_nx e1 w1 h3
/-- a comprehension over what has a slot free, the rest of the slots as they were -/
theorem vl_lc {v : Nat} {it elt : E} {ifs : List E} {xs : List PV} {l : List Nat} (f : PV → Option PV) (h1 : Pw M C it env xs l) (hl : ∀ i ∈ l, isOwn env i = false)
    (ht : ∀ z ∈ xs, turn1F M C [v] (.one v) ifs elt z (env.set v none) = some (f z, env.set v none)) (hv : v < env.length) (hz : (xs.filterMap f).length ≤ sizeLine) :
    ev M C (.lc (.one v) it ifs elt) env = some (.vl (.lst (xs.filterMap f)) true, env) := by
  obtain ⟨x, e1, w1⟩ := h1
  have lk : ∀ l : List Nat, (∀ i ∈ l, isOwn env i = false) → lock env l = env := fun l => by
    induction l with
    | nil => intro _; rfl
    | cons i l ih =>
      intro h
      show lock1 (lock env l) i = env
      rw [ih fun j hj => h j (List.mem_cons_of_mem _ hj)]
      have := h i (List.mem_cons_self ..)
      unfold isOwn at this
      unfold lock1
      split
      · rename_i e; rw [e] at this; cases this
      · rfl
  have lo : lkOf env l = [] := by
    unfold lkOf
    rw [List.filter_eq_nil_iff]
    intro i hi
    rw [hl i hi]; decide
  have := ev_lc_map (tg := .one v) f e1 w1 (by rw [lk l hl]; exact ht) hz
  rw [this, lk l hl, lo]
  have r : restore env (wipeE env (Tg.one v).slots) (Tg.one v).slots = env := by
    show ((env.set v none).set v (match env[v]? with | some s => s | none => none)) = env
    rw [List.set_set, List.getElem?_eq_getElem hv]
    simp
  rw [r]
  rfl
/-- a comprehension's turn, the slot and its conditions -/
theorem turn_some {v : Nat} {elt : E} {ifs : List E} {z y : PV} (hv : v < env.length) (h1 : evIfs M C ifs (env.set v (some ⟨z, .fz⟩)) = some (true, env.set v (some ⟨z, .fz⟩))) (h2 : Pc M C elt (env.set v (some ⟨z, .fz⟩)) y) : turn1F M C [v] (.one v) ifs elt z (env.set v none) = some (some y, env.set v none) := by
  obtain ⟨x, e1, d1⟩ := h2
  have hb : bindTg [] (.one v) z (env.set v none) = some (env.set v (some ⟨z, .fz⟩)) := by
    show store [] v z false (env.set v none) = _
    unfold store
    rw [List.getElem?_set_self hv]
    show some ((env.set v none).set v (some ⟨z, .fz⟩)) = _
    rw [List.set_set]
  simp only [turn1F, hb, h1, e1, d1]
  show some (some y, (env.set v (some ⟨z, .fz⟩)).set v none) = _
  rw [List.set_set]
theorem turn_none {v : Nat} {elt : E} {ifs : List E} {z : PV} (hv : v < env.length) (h1 : evIfs M C ifs (env.set v (some ⟨z, .fz⟩)) = some (false, env.set v (some ⟨z, .fz⟩))) : turn1F M C [v] (.one v) ifs elt z (env.set v none) = some (none, env.set v none) := by
  have hb : bindTg [] (.one v) z (env.set v none) = some (env.set v (some ⟨z, .fz⟩)) := by
    show store [] v z false (env.set v none) = _
    unfold store
    rw [List.getElem?_set_self hv]
    show some ((env.set v none).set v (some ⟨z, .fz⟩)) = _
    rw [List.set_set]
  simp only [turn1F, hb, h1]
  show some ((none : Option PV), (env.set v (some ⟨z, .fz⟩)).set v none) = _
  rw [List.set_set]
theorem ifs_nil : evIfs M C [] env = some (true, env) := rfl
theorem ifs_one {e : E} {k : Bool} (h : Pv M C e env (.bl k)) : evIfs M C [e] env = some (k, env) := by
  obtain ⟨x, e1, d1⟩ := h
  cases k <;> simp only [evIfs, e1, d1]
/-- a comprehension: condition and item by value -/
theorem vl_lc1 {v : Nat} {it elt c : E} {xs : List PV} {l : List Nat} (k : PV → Bool) (g : PV → PV) (h1 : Pw M C it env xs l) (hl : ∀ i ∈ l, isOwn env i = false) (hv : v < env.length) (hz : xs.length ≤ sizeLine)
    (hk : ∀ z ∈ xs, Pv M C c (env.set v (some ⟨z, .fz⟩)) (.bl (k z))) (hg : ∀ z ∈ xs, k z = true → Pc M C elt (env.set v (some ⟨z, .fz⟩)) (g z)) : ev M C (.lc (.one v) it [c] elt) env = some (.vl (.lst ((xs.filter k).map g)) true, env) := by
  have e : (xs.filter k).map g = xs.filterMap fun z => if k z = true then some (g z) else none := by
    clear h1 hk hg hz
    induction xs with
    | nil => rfl
    | cons x xs ih => cases q : k x <;> simp [q, ih]
  rw [e]
  refine vl_lc (fun z => if k z = true then some (g z) else none) h1 hl (fun z hz => ?_) hv (Nat.le_trans (List.length_filterMap_le ..) hz)
  have h := ifs_one (hk z hz)
  cases q : k z with
  | true => rw [q] at h; rw [if_pos rfl]; exact turn_some hv h (hg z hz q)
  | false => rw [q] at h; rw [if_neg (by decide)]; exact turn_none hv h
theorem vl_lc0 {v : Nat} {it elt : E} {xs : List PV} {l : List Nat} (g : PV → PV) (h1 : Pw M C it env xs l) (hl : ∀ i ∈ l, isOwn env i = false) (hv : v < env.length) (hz : xs.length ≤ sizeLine)
    (hg : ∀ z ∈ xs, Pc M C elt (env.set v (some ⟨z, .fz⟩)) (g z)) : ev M C (.lc (.one v) it [] elt) env = some (.vl (.lst (xs.map g)) true, env) := by
  have e : xs.map g = xs.filterMap fun z => some (g z) := by rw [List.filterMap_eq_map']
  rw [e]
  exact vl_lc (fun z => some (g z)) h1 hl (fun z hz => turn_some hv ifs_nil (hg z hz)) hv (Nat.le_trans (List.length_filterMap_le ..) hz)
/-- statements -/
theorem set_vl {i : Nat} {e : E} {p : PV} {f : Bool} {env1 env2 : En} (h : ev M C e env = some (.vl p f, env1)) (hs : store pm i p f env1 = some env2) : ex M C W pm (.set i e) env = some (.nx env2) := by
  rw [ex_set, h]
  simp only [move, hs]
def NL (s : Option Slot) : Prop := ∀ q, s = some q → q.k ≠ .lk
theorem nl_fz (p : PV) : NL (some ⟨p, .fz⟩) := fun q e => by cases e; intro z; cases z
theorem nl_own (p : PV) : NL (some ⟨p, .own⟩) := fun q e => by cases e; intro z; cases z
theorem nl_ro (p : PV) : NL (some ⟨p, .ro⟩) := fun q e => by cases e; intro z; cases z
theorem nl_none : NL none := fun q e => by cases e
theorem st_nl {i : Nat} {s : Option Slot} (h : env[i]? = some s) (n : NL s) (p : PV) (f : Bool) : store [] i p f env = some (env.set i (some ⟨p, kd f⟩)) := by
  unfold store
  rw [h]
  cases s with
  | none => rfl
  | some q =>
    obtain ⟨q, k⟩ := q
    cases k <;> first | rfl | exact (n _ rfl rfl).elim
theorem set_nl {i : Nat} {e : E} {p : PV} {f : Bool} {env1 : En} {s : Option Slot} (h : ev M C e env = some (.vl p f, env1)) (hs : env1[i]? = some s) (n : NL s) : ex M C W [] (.set i e) env = some (.nx (env1.set i (some ⟨p, kd f⟩))) := set_vl h (st_nl hs n p f)
theorem ret_vl {e : E} {p : PV} {f : Bool} {env1 : En} (h : ev M C e env = some (.vl p f, env1)) : ex M C W pm (.ret e) env = some (.rt p f env1) := by
  rw [ex_ret, h]
  rfl
theorem ex_vl {e : E} {x : Opd} {env1 : En} (h : ev M C e env = some (x, env1)) : ex M C W pm (.ex e) env = some (.nx env1) := by
  rw [ex_ex, h]
theorem ite_pv {c : E} {a b : List S} {k : Bool} {r : Option Fl} (h1 : Pv M C c env (.bl k)) (h2 : k = true → exs M C W pm a env = r) (h3 : k = false → exs M C W pm b env = r) : ex M C W pm (.ite c a b) env = r := by
  obtain ⟨x, e1, d1⟩ := h1
  rw [ex_ite, e1]
  simp only [d1]
  cases k with
  | true => exact h2 rfl
  | false => exact h3 rfl
theorem sti_pv {i : Nat} {k e : E} {p p' q y : PV} (h1 : Pc M C e env y) (h2 : Pv M C k env q) (h3 : env[i]? = some (some ⟨p, .own⟩)) (h4 : setF p q y = some p') : ex M C W pm (.sti i k e) env = some (.nx (env.set i (some ⟨p', .own⟩))) := by
  obtain ⟨x, e1, d1⟩ := h1
  obtain ⟨z, e2, d2⟩ := h2
  rw [ex_sti, e1]
  simp only [d1, e2, d2, h3, h4]
theorem exs_fl {s : S} {ss : List S} {env1 : En} {r : Option Fl} (h : ex M C W pm s env = some (.nx env1)) (h2 : exs M C W pm ss env1 = r) : exs M C W pm (s :: ss) env = r := by rw [exs_nx h, h2]
theorem run_rt {D : Nat → Dfn} {d f n : Nat} {ms : List Md} {body : List S} {ps : List PV} {p : PV} {k : Bool} {env : En} {os : List PV} (h : D f = ⟨ms, n, body⟩) (hl : ps.length = ms.length) (he : exs (fun f => (D f).modes) (run W D d) W (mutsOf 0 ms) body (starts ms ps ++ List.replicate (n - ms.length) none) = some (.rt p k env)) (ho : outs ms env = some os) : run W D (d + 1) f ps = some ((p, k), os) := by
  rw [run_succ]
  simp only [h, hl, if_true, he, ho]
theorem run_nx {D : Nat → Dfn} {d f n : Nat} {ms : List Md} {body : List S} {ps : List PV} {env : En} {os : List PV} (h : D f = ⟨ms, n, body⟩) (hl : ps.length = ms.length) (he : exs (fun f => (D f).modes) (run W D d) W (mutsOf 0 ms) body (starts ms ps ++ List.replicate (n - ms.length) none) = some (.nx env)) (ho : outs ms env = some os) : run W D (d + 1) f ps = some ((.non, false), os) := by
  rw [run_succ]
  simp only [h, hl, if_true, he, ho]
/-- a def that returns an expression at once -/
theorem run_e {D : Nat → Dfn} {d f n : Nat} {ms : List Md} {e : E} {ps : List PV} {p : PV} {k : Bool} (h : D f = ⟨ms, n, [.ret e]⟩) (hl : ps.length = ms.length) (he : ev (fun f => (D f).modes) (run W D d) e (starts ms ps ++ List.replicate (n - ms.length) none) = some (.vl p k, starts ms ps ++ List.replicate (n - ms.length) none)) (ho : outs ms (starts ms ps ++ List.replicate (n - ms.length) none) = some []) : run W D (d + 1) f ps = some ((p, k), []) :=
  run_rt h hl (exs_rt (ret_vl he)) ho
end
theorem inB_nat {n : Nat} (h : n < 16777216) : inB (n : Int) = true := by
  unfold inB
  have h1 : -(2 ^ 62) ≤ (n : Int) := by omega
  have h2 : (n : Int) < 2 ^ 62 := by omega
  rw [decide_eq_true h1, decide_eq_true h2]; rfl
theorem rep_none : ∀ n : Nat, (List.replicate n ([PV.non] : List PV)).flatten = List.replicate n PV.non
  | 0 => rfl
  | n + 1 => by rw [List.replicate_succ, List.flatten_cons, rep_none n]; rfl
/-- lists of natural numbers -/
def natL (l : List Nat) : List PV := l.map fun n => .int (n : Nat)
def pnt : PV → Nat
  | .int i => i.toNat
  | _ => 0
theorem fold_nat {α : Type} (f : α → Nat → α) : ∀ (l : List Nat) (a : α), (natL l).foldl (fun a z => f a (pnt z)) a = l.foldl f a
  | [], _ => rfl
  | x :: l, a => by
    show (natL l).foldl (fun a z => f a (pnt z)) (f a (pnt (.int (x : Nat)))) = _
    rw [fold_nat f l]; rfl
theorem mem_natL {l : List Nat} {z : PV} (h : z ∈ natL l) : ∃ s ∈ l, z = .int (s : Nat) := by
  unfold natL at h
  obtain ⟨s, hs, rfl⟩ := List.mem_map.mp h
  exact ⟨s, hs, rfl⟩
theorem natL_leaf (l : List Nat) : (natL l).all leafB = true := by
  induction l with
  | nil => rfl
  | cons _ _ ih => exact ih
theorem rngL_nat (a b : Nat) : (rngL (a : Int) (b : Int)).map .int = natL (List.range' a (b - a)) := by
  have hu : ∀ (n a : Nat), (upto (a : Int) n).map PV.int = natL (List.range' a n) := fun n => by
    induction n with
    | zero => intro a; rfl
    | succ n ih =>
      intro a
      have := ih (a + 1)
      rw [List.range'_succ]
      show PV.int a :: (upto ((a : Int) + 1) n).map PV.int = .int a :: natL (List.range' (a + 1) n)
      rw [← this]; rfl
  unfold rngL
  rw [show ((b : Int) - a).toNat = b - a by omega, hu]
theorem mulF_none {h : Nat} (hs : h < sizeLine) : binF .mul (.lst [.non]) (.int (h : Nat)) = some (.lst (List.replicate h PV.non), true) := by
  have hb : inB (h : Int) = true := inB_nat (by unfold sizeLine at hs; omega)
  have i2 : [PV.non].length * (h : Int).toNat ≤ sizeLine := by
    rw [Int.toNat_natCast]
    show 1 * h ≤ _
    omega
  unfold binF mulF
  simp only [hb, i2, and_self, if_true]
  rw [Int.toNat_natCast, rep_none]
/-- a for that may return -/
theorem forGo_find {turn : PV → En → Option Fl} {R Q : En → Prop} {k : Bool} {P : PV → Option PV} : ∀ {l : List PV} {env : En}, R env → (∀ z ∈ l, ∀ env, R env → (P z = none → ∃ env', turn z env = some (.nx env') ∧ R env') ∧ (∀ p, P z = some p → ∃ env', turn z env = some (.rt p k env') ∧ Q env')) →
    (l.findSome? P = none → ∃ env', forGo turn l env = some (.nx env') ∧ R env') ∧ (∀ p, l.findSome? P = some p → ∃ env', forGo turn l env = some (.rt p k env') ∧ Q env')
  | [], env, h, _ => ⟨fun _ => ⟨env, rfl, h⟩, fun p e => by cases e⟩
  | z :: l, env, h, ht => by
    obtain ⟨t1, t2⟩ := ht z (List.mem_cons_self ..) env h
    cases q : P z with
    | some p =>
      obtain ⟨env', e1, e2⟩ := t2 p q
      rw [List.findSome?_cons, q]
      refine ⟨fun e => by (cases e), fun p' e => ?_⟩
      cases e
      exact ⟨env', by simp only [forGo, e1], e2⟩
    | none =>
      obtain ⟨env1, e1, e2⟩ := t1 q
      obtain ⟨i1, i2⟩ := forGo_find (l := l) e2 fun y hy => ht y (List.mem_cons_of_mem _ hy)
      rw [List.findSome?_cons, q]
      refine ⟨fun e => ?_, fun p e => ?_⟩
      · obtain ⟨env', e3, e4⟩ := i1 e
        exact ⟨env', by simp only [forGo, e1, e3], e4⟩
      · obtain ⟨env', e3, e4⟩ := i2 p e
        exact ⟨env', by simp only [forGo, e1, e3], e4⟩
theorem ex_for_ret {M : Nat → List Md} {C : Cl} {W : Lp} {pm : List Nat} {env : En} {tg : Tg} {it : E} {b : List S} {env2 : En} {xs : List PV} {l : List Nat} {p : PV} {k : Bool} (h1 : Pw M C it env xs l) (h3 : forGo (forT M C W pm tg b) xs (lock env l) = some (.rt p k env2)) : ex M C W pm (.for_ tg it b) env = some (.rt p k env2) := by
  obtain ⟨x, e1, w1⟩ := h1
  exact ex_for_rt e1 w1 h3
theorem find_natL (P : PV → Option PV) (l : List Nat) : (natL l).findSome? P = l.findSome? fun n => P (.int (n : Nat)) := by
  induction l with
  | nil => rfl
  | cons x l ih =>
    show ((.int (x : Nat) : PV) :: natL l).findSome? P = _
    rw [List.findSome?_cons, List.findSome?_cons, ih]
theorem maxL_nat : ∀ (ns : List Nat) (n : Nat), maxL (n : Int) (ns.map fun (k : Nat) => (k : Int)) = ((ns.foldl max n : Nat) : Int)
  | [], _ => rfl
  | x :: ns, n => by
    show maxL (if (n : Int) < (x : Int) then (x : Int) else (n : Int)) (ns.map fun (k : Nat) => (k : Int)) = ((ns.foldl max (max n x) : Nat) : Int)
    rw [← maxL_nat ns (max n x)]
    congr 1
    split <;> omega
theorem wht_go {M : Nat → List Md} {C : Cl} {W : Lp} {pm : List Nat} {env env' : En} {c : E} {b : List S} (h1 : Pv M C c env (.bl true)) (h2 : exs M C W pm b env = some (.nx env')) : whlT M C W pm c b env = some (.inl env') := by
  obtain ⟨x, e1, d1⟩ := h1
  unfold whlT
  simp only [e1, d1, h2]
theorem wht_stop {M : Nat → List Md} {C : Cl} {W : Lp} {pm : List Nat} {env : En} {c : E} {b : List S} (h1 : Pv M C c env (.bl false)) : whlT M C W pm c b env = some (.inr (.nx env)) := by
  obtain ⟨x, e1, d1⟩ := h1
  unfold whlT
  simp only [e1, d1]
/-- a comprehension over an own list -/
theorem vl_lc1o {M : Nat → List Md} {C : Cl} {env : En} {v i : Nat} {elt c : E} {p : PV} {xs : List PV} (k : PV → Bool) (g : PV → PV) (h0 : env[i]? = some (some ⟨p, .own⟩)) (hw : walkF p = some xs) (hiv : i ≠ v) (hv : v < env.length) (hz : xs.length ≤ sizeLine)
    (hk : ∀ z ∈ xs, Pv M C c ((env.set i (some ⟨p, .lk⟩)).set v (some ⟨z, .fz⟩)) (.bl (k z))) (hg : ∀ z ∈ xs, k z = true → Pc M C elt ((env.set i (some ⟨p, .lk⟩)).set v (some ⟨z, .fz⟩)) (g z)) : ev M C (.lc (.one v) (.var i) [c] elt) env = some (.vl (.lst ((xs.filter k).map g)) true, env) := by
  have e : (xs.filter k).map g = xs.filterMap fun z => if k z = true then some (g z) else none := by
    clear hk hg hz hw
    induction xs with
    | nil => rfl
    | cons x xs ih => cases q : k x <;> simp [q, ih]
  have hi : i < env.length := lt_of_some h0
  have lk : lock env [i] = env.set i (some ⟨p, .lk⟩) := by
    show lock1 env i = _
    unfold lock1
    rw [h0]
  have hv' : v < (env.set i (some ⟨p, .lk⟩)).length := by rw [List.length_set]; exact hv
  have lo : lkOf env [i] = [i] := by
    have : isOwn env i = true := by unfold isOwn; rw [h0]
    show List.filter _ [i] = _
    rw [List.filter_cons, if_pos this]; rfl
  have := ev_lc_map (M := M) (C := C) (tg := .one v) (elt := elt) (ifs := [c]) (l := [i]) (xs := xs) (fun z => if k z = true then some (g z) else none) (ev_var_of h0) (by simp only [walkO, deref, h0, hw]; rfl) (fun z hz => by
    rw [lk]
    have h := ifs_one (hk z hz)
    cases q : k z with
    | true => rw [q] at h; rw [if_pos rfl]; exact turn_some hv' h (hg z hz q)
    | false => rw [q] at h; rw [if_neg (by decide)]; exact turn_none hv' h) (Nat.le_trans (List.length_filterMap_le ..) hz)
  rw [this, lk, lo, e]
  congr 2
  show unlock1 (((env.set i (some ⟨p, .lk⟩)).set v none).set v (match env[v]? with | some s => s | none => none)) i = env
  rw [List.set_set, List.getElem?_eq_getElem hv]
  unfold unlock1
  rw [List.getElem?_set_ne (fun q => hiv q.symm), List.getElem?_set_self hi]
  show ((env.set i (some ⟨p, .lk⟩)).set v env[v]).set i (some ⟨p, .own⟩) = env
  apply List.ext_getElem? fun x => ?_
  by_cases q1 : i = x
  · subst q1
    rw [List.getElem?_set_self (by rw [List.length_set, List.length_set]; exact hi), h0]
  · rw [List.getElem?_set_ne q1]
    by_cases q2 : v = x
    · subst q2
      rw [List.getElem?_set_self hv', List.getElem?_eq_getElem hv]
    · rw [List.getElem?_set_ne q2, List.getElem?_set_ne q1]
end L2.Pz
set_option Elab.async false
set_option linter.all false
set_option maxRecDepth 100000
set_option maxHeartbeats 0
namespace Lw
open PySem PySem.Spec PyProof.Rows L2 L2.Pz
/-! the codes of the defs -/
def top (i : Nat) : Stmt := PySem.Challenge.pw_setsadded_k60_whole_greatest_clocks_for.main.body.getD i (.Pass ⟨0, 0, 0, 0⟩)
def c0 : Dfn := ⟨[.ro], 1, [.ret (.and (.isi .int (.var 0)) (.not (.isi .bool (.var 0))))]⟩
def t0 : Txt := ⟨(Str.ofString "is_integer"), defArgs (top 7), defBody (top 7), defScope (top 7), [(Str.ofString "value")]⟩
def c1 : Dfn := ⟨[.ro, .ro, .ro], 3, [.ret (.and (.call 0 [(.var 0)]) (.cmp2 .le .le (.var 1) (.var 0) (.var 2)))]⟩
def t1 : Txt := ⟨(Str.ofString "is_whole"), defArgs (top 8), defBody (top 8), defScope (top 8), [(Str.ofString "value"), (Str.ofString "low"), (Str.ofString "high")]⟩
def c2 : Dfn := ⟨[.ro], 3, [.ret (.bi .all [(.lc (.many [1, 2]) (.zip (.var 0) (.slc (.var 0) [(.con (.int 1))] [])) [] (.cmp .lt (.var 1) (.var 2)))])]⟩
def t2 : Txt := ⟨(Str.ofString "is_rising"), defArgs (top 9), defBody (top 9), defScope (top 9), [(Str.ofString "things"), (Str.ofString "one"), (Str.ofString "other")]⟩
def c3 : Dfn := ⟨[.ro, .ro, .ro], 4, [.ret (.and (.isi .tuple (.var 0)) (.and (.bi .all [(.lc (.one 3) (.var 0) [] (.call 1 [(.var 3), (.var 1), (.var 2)]))]) (.call 2 [(.var 0)])))]⟩
def t3 : Txt := ⟨(Str.ofString "are_members"), defArgs (top 10), defBody (top 10), defScope (top 10), [(Str.ofString "value"), (Str.ofString "low"), (Str.ofString "high"), (Str.ofString "one")]⟩
def c4 : Dfn := ⟨[.ro], 1, [.ret (.call 1 [(.var 0), (.con (.int 1)), (.glo (Str.ofString "MOST") (.int (400)))])]⟩
def t4 : Txt := ⟨(Str.ofString "fits_clock"), defArgs (top 11), defBody (top 11), defScope (top 11), [(Str.ofString "value")]⟩
def c5 : Dfn := ⟨[.ro], 1, [.ite (.not (.call 4 [(.var 0)])) [.nev] []]⟩
def t5 : Txt := ⟨(Str.ofString "need_clock"), defArgs (top 12), defBody (top 12), defScope (top 12), [(Str.ofString "value")]⟩
def c6 : Dfn := ⟨[.ro, .ro], 2, [.ret (.call 3 [(.var 1), (.con (.int 0)), (.bin .sub (.var 0) (.con (.int 1)))])]⟩
def t6 : Txt := ⟨(Str.ofString "fits_clock_set"), defArgs (top 13), defBody (top 13), defScope (top 13), [(Str.ofString "hours"), (Str.ofString "value")]⟩
def c7 : Dfn := ⟨[.ro, .ro], 2, [.ex (.call 5 [(.var 0)]), .ite (.not (.call 6 [(.var 0), (.var 1)])) [.nev] []]⟩
def t7 : Txt := ⟨(Str.ofString "need_clock_set"), defArgs (top 14), defBody (top 14), defScope (top 14), [(Str.ofString "hours"), (Str.ofString "value")]⟩
def c8 : Dfn := ⟨[.ro, .ro], 2, [.ex (.call 5 [(.var 0)]), .ret (.call 6 [(.var 0), (.var 1)])]⟩
def t8 : Txt := ⟨(Str.ofString "is_clock_set"), defArgs (top 15), defBody (top 15), defScope (top 15), [(Str.ofString "hours"), (Str.ofString "value")]⟩
def c9 : Dfn := ⟨[.ro, .ro], 8, [.par [2, 3] [(.bin .mul (.lst [(.con .non)]) (.var 0)), (.lst [(.con (.int 0))])], .sti 2 (.con (.int 0)) (.con (.int 0)), .whl (.cmp .ne (.var 3) (.lst [])) [.set 4 (.lst []), .for_ (.one 5) (.var 3) [.for_ (.one 6) (.var 1) [.set 7 (.bin .mod (.bin .add (.var 5) (.var 6)) (.var 0)), .ite (.cmp .is_ (.idx (.var 2) (.var 7)) (.con .non)) [.sti 2 (.var 7) (.bin .add (.idx (.var 2) (.var 5)) (.con (.int 1))), .ex (.mm .append 4 [(.var 7)])] []]], .set 3 (.var 4)], .ret (.var 2)]⟩
def t9 : Txt := ⟨(Str.ofString "table_in"), defArgs (top 20), defBody (top 20), defScope (top 20), [(Str.ofString "hours"), (Str.ofString "steps"), (Str.ofString "found"), (Str.ofString "line"), (Str.ofString "later"), (Str.ofString "here"), (Str.ofString "step"), (Str.ofString "hour")]⟩
def c10 : Dfn := ⟨[.ro, .ro], 3, [.ret (.bi .sorted [(.bi .set [(.bin .add (.lc (.one 2) (.var 1) [] (.bin .mod (.var 2) (.var 0))) (.lc (.one 2) (.var 1) [] (.bin .mod (.bin .sub (.var 0) (.var 2)) (.var 0))))])])]⟩
def t10 : Txt := ⟨(Str.ofString "both_of"), defArgs (top 21), defBody (top 21), defScope (top 21), [(Str.ofString "hours"), (Str.ofString "members"), (Str.ofString "one")]⟩
def c11 : Dfn := ⟨[.ro], 1, [.ret (.ite (.cmp .nin (.con .non) (.var 0)) (.bi .max [(.var 0)]) (.con .non))]⟩
def t11 : Txt := ⟨(Str.ofString "depth_in"), defArgs (top 22), defBody (top 22), defScope (top 22), [(Str.ofString "table")]⟩
def c12 : Dfn := ⟨[.ro, .ro], 5, [.for_ (.one 2) (.rngI [(.var 0)]) [.for_ (.one 3) (.rngI [(.bin .add (.var 2) (.con (.int 1))), (.var 0)]) [.set 4 (.call 11 [(.call 9 [(.var 0), (.tup [(.var 2), (.var 3)])])]), .ite (.and (.cmp .isn (.var 4) (.con .non)) (.cmp .le (.var 4) (.var 1))) [.ret (.tup [(.var 2), (.var 3)])] []]], .ret (.con .non)]⟩
def t12 : Txt := ⟨(Str.ofString "pair_in"), defArgs (top 23), defBody (top 23), defScope (top 23), [(Str.ofString "hours"), (Str.ofString "many"), (Str.ofString "one"), (Str.ofString "other"), (Str.ofString "depth")]⟩
def c13 : Dfn := ⟨[.ro], 2, [.set 1 (.bin .fdiv (.bin .mul (.bin .add (.var 0) (.con (.int 1))) (.bin .add (.var 0) (.con (.int 2)))) (.con (.int 2))), .whl (.cmp .is_ (.call 12 [(.var 1), (.var 0)]) (.con .non)) [.set 1 (.bin .sub (.var 1) (.con (.int 1)))], .ret (.var 1)]⟩
def t13 : Txt := ⟨(Str.ofString "greatest_in_depth"), defArgs (top 24), defBody (top 24), defScope (top 24), [(Str.ofString "many"), (Str.ofString "hours")]⟩
def c14 : Dfn := ⟨[.ro, .ro], 2, [.ite (.not (.call 1 [(.var 0), (.con (.int 1)), (.var 1)])) [.nev] []]⟩
def t14 : Txt := ⟨(Str.ofString "need_depth"), defArgs (top 25), defBody (top 25), defScope (top 25), [(Str.ofString "value"), (Str.ofString "most")]⟩
def c15 : Dfn := ⟨[.ro, .ro], 2, [.ex (.call 7 [(.var 0), (.var 1)]), .ret (.bi .tuple [(.call 9 [(.var 0), (.call 10 [(.var 0), (.var 1)])])])]⟩
def t15 : Txt := ⟨(Str.ofString "both_table"), defArgs (top 26), defBody (top 26), defScope (top 26), [(Str.ofString "hours"), (Str.ofString "one")]⟩
def c16 : Dfn := ⟨[.ro, .ro], 2, [.ex (.call 7 [(.var 0), (.var 1)]), .ret (.call 11 [(.call 9 [(.var 0), (.var 1)])])]⟩
def t16 : Txt := ⟨(Str.ofString "clock_depth"), defArgs (top 27), defBody (top 27), defScope (top 27), [(Str.ofString "hours"), (Str.ofString "one")]⟩
def c17 : Dfn := ⟨[.ro, .ro], 2, [.ex (.call 7 [(.var 0), (.var 1)]), .ret (.call 11 [(.call 9 [(.var 0), (.call 10 [(.var 0), (.var 1)])])])]⟩
def t17 : Txt := ⟨(Str.ofString "both_depth"), defArgs (top 28), defBody (top 28), defScope (top 28), [(Str.ofString "hours"), (Str.ofString "one")]⟩
def c18 : Dfn := ⟨[.ro, .ro], 2, [.ex (.call 5 [(.var 0)]), .ite (.cmp .gt (.var 0) (.glo (Str.ofString "SEARCHED") (.int (60)))) [.nev] [], .ex (.call 14 [(.var 1), (.var 0)]), .ret (.call 12 [(.var 0), (.var 1)])]⟩
def t18 : Txt := ⟨(Str.ofString "two_steps"), defArgs (top 29), defBody (top 29), defScope (top 29), [(Str.ofString "hours"), (Str.ofString "many")]⟩
def c19 : Dfn := ⟨[.ro], 1, [.ex (.call 14 [(.var 0), (.glo (Str.ofString "MOST_DEPTH") (.int (8)))]), .ret (.call 13 [(.var 0)])]⟩
def t19 : Txt := ⟨(Str.ofString "greatest_clock"), defArgs (top 30), defBody (top 30), defScope (top 30), [(Str.ofString "many")]⟩
def c20 : Dfn := ⟨[.val], 1, [.ex (.call 14 [(.var 0), (.glo (Str.ofString "MOST_BOTH") (.int (13)))]), .ret (.tup [(.bin .add (.bin .add (.bin .mul (.bin .mul (.con (.int 2)) (.var 0)) (.var 0)) (.bin .mul (.con (.int 2)) (.var 0))) (.con (.int 1))), (.tup [(.var 0), (.bin .add (.var 0) (.con (.int 1)))])])]⟩
def t20 : Txt := ⟨(Str.ofString "perfect_clock"), defArgs (top 31), defBody (top 31), defScope (top 31), [(Str.ofString "many")]⟩
def c21 : Dfn := ⟨[.ro], 2, [.set 1 (.bi .abs [(.idx (.bin .add (.bi .list [(.var 0)]) (.lst [(.con (.int 0))])) (.con (.int 0)))]), .ret (.lst [(.ite (.cmp .ge (.var 1) (.bin .pow (.con (.int 10)) (.con (.int 18)))) (.bin .fdiv (.var 1) (.con (.int 73))) (.con (.int 0))), (.bin .add (.bin .mod (.bi .int [(.bin .add (.bin .mul (.var 1) (.con (.int 283))) (.con (.int 3907)))]) (.con (.int 2077503167))) (.con (.int 167)))])]⟩
def t21 : Txt := ⟨(Str.ofString "_law_cup"), defArgs (top 33), defBody (top 33), defScope (top 33), [(Str.ofString "script"), (Str.ofString "cell")]⟩
def c22 : Dfn := ⟨[.mu, .ro], 4, [.ite (.cmp .gt (.idx (.var 0) (.con (.int 0))) (.con (.int 0))) [.set 3 (.bin .mod (.bi .int [(.idx (.var 0) (.con (.int 0)))]) (.var 1)), .sti 0 (.con (.int 0)) (.bin .fdiv (.idx (.var 0) (.con (.int 0))) (.var 1)), .ret (.var 3)] [], .sti 0 (.con (.int 1)) (.bin .mod (.bi .int [(.bin .add (.bin .mul (.idx (.var 0) (.con (.int 1))) (.con (.int 31051))) (.con (.int 7993)))]) (.con (.int 2147483543))), .set 2 (.bin .mod (.bi .int [(.bin .mul (.idx (.var 0) (.con (.int 1))) (.bin .add (.idx (.var 0) (.con (.int 1))) (.con (.int 229))))]) (.con (.int 2147483587))), .ret (.bin .mod (.bi .int [(.bin .fdiv (.var 2) (.con (.int 821)))]) (.var 1))]⟩
def t22 : Txt := ⟨(Str.ofString "_law_roll"), defArgs (top 34), defBody (top 34), defScope (top 34), [(Str.ofString "cup"), (Str.ofString "many"), (Str.ofString "deep"), (Str.ofString "found")]⟩
def c23 : Dfn := ⟨[.mu, .ro], 2, [.ret (.idx (.var 1) (.call 22 [(.var 0), (.bi .len [(.var 1)])]))]⟩
def t23 : Txt := ⟨(Str.ofString "_law_some"), defArgs (top 35), defBody (top 35), defScope (top 35), [(Str.ofString "cup"), (Str.ofString "things")]⟩
def c24 : Dfn := ⟨[.ro], 1, [.ite (.or (.cmp .is_ (.var 0) (.con .non)) (.isi .bool (.var 0))) [.ret (.ite (.cmp .is_ (.var 0) (.con .non)) (.con (.int 0)) (.con (.int 1)))] [], .ite (.or (.isi .int (.var 0)) (.isi .str (.var 0))) [.ret (.ite (.isi .int (.var 0)) (.con (.int 2)) (.con (.int 3)))] [], .ret (.ite (.isi .tuple (.var 0)) (.con (.int 4)) (.ite (.isi .list (.var 0)) (.con (.int 5)) (.con (.int 6))))]⟩
def t24 : Txt := ⟨(Str.ofString "_law_sort"), defArgs (top 36), defBody (top 36), defScope (top 36), [(Str.ofString "value")]⟩
def c25 : Dfn := ⟨[.ro, .ro], 5, [.set 2 (.call 24 [(.var 1)]), .ite (.or (.cmp .ne (.call 24 [(.var 0)]) (.var 2)) (.cmp .eq (.var 2) (.con (.int 6)))) [.ret (.con (.bl false))] [], .ite (.cmp .inn (.var 2) (.tup [(.con (.int 4)), (.con (.int 5))])) [.ret (.and (.cmp .eq (.bi .len [(.var 0)]) (.bi .len [(.var 1)])) (.cmp .eq (.lc (.many [3, 4]) (.zip (.var 0) (.var 1)) [(.not (.call 25 [(.var 3), (.var 4)]))] (.con (.int 1))) (.lst [])))] [], .ret (.cmp .eq (.var 0) (.var 1))]⟩
def t25 : Txt := ⟨(Str.ofString "_law_like"), defArgs (top 37), defBody (top 37), defScope (top 37), [(Str.ofString "one"), (Str.ofString "other"), (Str.ofString "sort"), (Str.ofString "first"), (Str.ofString "second")]⟩
def c26 : Dfn := ⟨[.ro, .ro], 8, [.set 2 (.bin .add (.lst [(.con (.int 0))]) (.bin .mul (.lst [(.con .non)]) (.bin .sub (.var 0) (.con (.int 1))))), .for_ (.one 3) (.rngI [(.con (.int 1)), (.bin .add (.var 0) (.con (.int 1)))]) [.for_ (.one 4) (.lc (.one 6) (.rngI [(.var 0)]) [(.cmp .eq (.idx (.var 2) (.var 6)) (.bin .sub (.var 3) (.con (.int 1))))] (.var 6)) [.for_ (.one 5) (.var 1) [.set 7 (.bin .mod (.bi .int [(.bin .add (.var 4) (.var 5))]) (.var 0)), .sti 2 (.var 7) (.ite (.cmp .is_ (.idx (.var 2) (.var 7)) (.con .non)) (.var 3) (.idx (.var 2) (.var 7)))]]], .ret (.var 2)]⟩
def t26 : Txt := ⟨(Str.ofString "_law_dials"), defArgs (top 38), defBody (top 38), defScope (top 38), [(Str.ofString "hours"), (Str.ofString "steps"), (Str.ofString "found"), (Str.ofString "used"), (Str.ofString "hour"), (Str.ofString "step"), (Str.ofString "here"), (Str.ofString "there")]⟩
def c27 : Dfn := ⟨[.ro, .ro], 3, [.set 2 (.call 26 [(.var 0), (.var 1)]), .ret (.ite (.cmp .inn (.con .non) (.var 2)) (.con .non) (.bi .max [(.var 2)]))]⟩
def t27 : Txt := ⟨(Str.ofString "_law_depth"), defArgs (top 39), defBody (top 39), defScope (top 39), [(Str.ofString "hours"), (Str.ofString "steps"), (Str.ofString "found")]⟩
def c28 : Dfn := ⟨[.ro, .ro], 8, [.set 2 (.lst []), .for_ (.one 3) (.rngI [(.var 0)]) [.set 2 (.bin .add (.var 2) (.lc (.one 7) (.rngI [(.bin .add (.var 3) (.con (.int 1))), (.var 0)]) [] (.call 27 [(.var 0), (.tup [(.var 3), (.var 7)])])))], .set 4 (.lc (.one 6) (.var 2) [(.and (.cmp .isn (.var 6) (.con .non)) (.cmp .le (.var 6) (.var 1)))] (.var 6)), .set 5 (.call 18 [(.var 0), (.var 1)]), .ite (.cmp .ne (.cmp .is_ (.var 5) (.con .non)) (.cmp .eq (.var 4) (.lst []))) [.ret (.con (.bl false))] [], .ret (.or (.cmp .is_ (.var 5) (.con .non)) (.and (.cmp .is_ (.call 8 [(.var 0), (.var 5)]) (.con (.bl true))) (.and (.cmp .eq (.bi .len [(.var 5)]) (.con (.int 2))) (.and (.cmp .le (.call 27 [(.var 0), (.var 5)]) (.var 1)) (.cmp .le (.call 16 [(.var 0), (.var 5)]) (.var 1))))))]⟩
def t28 : Txt := ⟨(Str.ofString "_law_two_right"), defArgs (top 40), defBody (top 40), defScope (top 40), [(Str.ofString "hours"), (Str.ofString "size"), (Str.ofString "depths"), (Str.ofString "one"), (Str.ofString "able"), (Str.ofString "told"), (Str.ofString "depth"), (Str.ofString "other")]⟩
def c29 : Dfn := ⟨[.val], 7, [.unp [3, 4] (.call 20 [(.var 0)]), .ite (.or (.cmp .ne (.var 3) (.bin .add (.bin .add (.bin .mul (.bin .mul (.con (.int 2)) (.var 0)) (.var 0)) (.bin .mul (.con (.int 2)) (.var 0))) (.con (.int 1)))) (.cmp .ne (.var 4) (.tup [(.var 0), (.bin .add (.var 0) (.con (.int 1)))]))) [.ret (.con (.bl false))] [], .set 1 (.call 15 [(.var 3), (.var 4)]), .set 2 (.lc (.one 5) (.rngI [(.bin .add (.var 0) (.con (.int 1)))]) [] (.bi .len [(.lc (.one 6) (.var 1) [(.cmp .eq (.var 6) (.var 5))] (.con (.int 1)))])), .ite (.or (.cmp .ne (.var 2) (.bin .add (.lst [(.con (.int 1))]) (.lc (.one 5) (.rngI [(.con (.int 1)), (.bin .add (.var 0) (.con (.int 1)))]) [] (.bin .mul (.con (.int 4)) (.var 5))))) (.not (.call 25 [(.var 1), (.bi .tuple [(.call 26 [(.var 3), (.lst [(.var 0), (.bin .add (.var 0) (.con (.int 1))), (.bin .sub (.var 3) (.var 0)), (.bin .sub (.bin .sub (.var 3) (.var 0)) (.con (.int 1)))])])])]))) [.ret (.con (.bl false))] [], .ret (.cmp .eq (.call 17 [(.var 3), (.var 4)]) (.var 0))]⟩
def t29 : Txt := ⟨(Str.ofString "_law_perfect_right"), defArgs (top 41), defBody (top 41), defScope (top 41), [(Str.ofString "size"), (Str.ofString "table"), (Str.ofString "counts"), (Str.ofString "hours"), (Str.ofString "steps"), (Str.ofString "far"), (Str.ofString "depth")]⟩
def c30 : Dfn := ⟨[.ro], 7, [.ite (.or (.not (.call 25 [(.bin .add (.lc (.one 4) (.tup [(.con (.int 1)), (.con (.int 2)), (.con (.int 3)), (.con (.int 4))]) [] (.call 19 [(.var 4)])) (.lst [(.call 20 [(.con (.int 2))])])), (.lst [(.con (.int 3)), (.con (.int 5)), (.con (.int 8)), (.con (.int 11)), (.tup [(.con (.int 13)), (.tup [(.con (.int 2)), (.con (.int 3))])])])])) (.cmp .is_ (.call 18 [(.con (.int 8)), (.con (.int 3))]) (.con .non))) [.ret (.con (.bl false))] [], .set 1 (.lst [(.call 18 [(.con (.int 9)), (.con (.int 3))]), (.call 16 [(.con (.int 8)), (.call 18 [(.con (.int 8)), (.con (.int 3))])]), (.call 19 [(.con (.int 1))]), (.call 19 [(.con (.int 2))]), (.call 19 [(.con (.int 3))]), (.call 19 [(.con (.int 4))]), (.call 20 [(.con (.int 2))]), (.call 18 [(.con (.int 1)), (.con (.int 1))])]), .ite (.not (.call 25 [(.var 1), (.lst [(.con .non), (.con (.int 3)), (.con (.int 3)), (.con (.int 5)), (.con (.int 8)), (.con (.int 11)), (.tup [(.con (.int 13)), (.tup [(.con (.int 2)), (.con (.int 3))])]), (.con .non)])])) [.ret (.con (.bl false))] [], .set 2 (.call 21 [(.var 0)]), .for_ (.one 3) (.tup [(.con (.int 6)), (.con (.int 14)), (.con (.int 22))]) [.set 6 (.bin .add (.con (.int 1)) (.call 22 [(.var 2), (.var 3)])), .ite (.not (.call 28 [(.var 6), (.bin .add (.con (.int 1)) (.call 22 [(.var 2), (.bi .min [(.var 6), (.con (.int 8))])]))])) [.ret (.con (.bl false))] []], .ite (.or (.not (.call 29 [(.bin .add (.con (.int 1)) (.call 22 [(.var 2), (.con (.int 13))]))])) (.and (.cmp .eq (.call 22 [(.var 2), (.con (.int 6))]) (.con (.int 0))) (.not (.call 28 [(.bin .add (.con (.int 23)) (.call 22 [(.var 2), (.con (.int 14))])), (.bin .add (.con (.int 4)) (.call 22 [(.var 2), (.con (.int 9))]))])))) [.ret (.con (.bl false))] [], .set 4 (.ite (.cmp .gt (.call 22 [(.var 2), (.con (.int 6))]) (.con (.int 0))) (.bin .add (.con (.int 2)) (.call 22 [(.var 2), (.con (.int 4))])) (.bin .add (.con (.int 6)) (.call 22 [(.var 2), (.con (.int 3))]))), .set 3 (.call 19 [(.var 4)]), .ite (.cmp .ne (.var 3) (.bin .add (.bin .fdiv (.bin .mul (.var 4) (.bin .add (.var 4) (.con (.int 4)))) (.con (.int 3))) (.con (.int 1)))) [.ret (.con (.bl false))] [], .set 5 (.call 18 [(.var 3), (.var 4)]), .ret (.and (.cmp .isn (.var 5) (.con .non)) (.and (.cmp .eq (.call 27 [(.var 3), (.var 5)]) (.var 4)) (.cmp .is_ (.call 18 [(.bin .add (.var 3) (.con (.int 1))), (.var 4)]) (.con .non))))]⟩
def t30 : Txt := ⟨(Str.ofString "law"), defArgs (top 42), defBody (top 42), defScope (top 42), [(Str.ofString "script"), (Str.ofString "told"), (Str.ofString "cup"), (Str.ofString "most"), (Str.ofString "size"), (Str.ofString "found"), (Str.ofString "hours")]⟩
def dl : List Dfn := [c0, c1, c2, c3, c4, c5, c6, c7, c8, c9, c10, c11, c12, c13, c14, c15, c16, c17, c18, c19, c20, c21, c22, c23, c24, c25, c26, c27, c28, c29, c30]
def tl : List Txt := [t0, t1, t2, t3, t4, t5, t6, t7, t8, t9, t10, t11, t12, t13, t14, t15, t16, t17, t18, t19, t20, t21, t22, t23, t24, t25, t26, t27, t28, t29, t30]
def cst : List (Str × PV) := [((Str.ofString "MOST"), .int (400)), ((Str.ofString "MOST_DEPTH"), .int (8)), ((Str.ofString "MOST_BOTH"), .int (13)), ((Str.ofString "SEARCHED"), .int (60))]
def nf : Nf := ⟨[(Str.ofString "is_integer"), (Str.ofString "is_whole"), (Str.ofString "is_rising"), (Str.ofString "are_members"), (Str.ofString "fits_clock"), (Str.ofString "need_clock"), (Str.ofString "fits_clock_set"), (Str.ofString "need_clock_set"), (Str.ofString "is_clock_set"), (Str.ofString "table_in"), (Str.ofString "both_of"), (Str.ofString "depth_in"), (Str.ofString "pair_in"), (Str.ofString "greatest_in_depth"), (Str.ofString "need_depth"), (Str.ofString "both_table"), (Str.ofString "clock_depth"), (Str.ofString "both_depth"), (Str.ofString "two_steps"), (Str.ofString "greatest_clock"), (Str.ofString "perfect_clock"), (Str.ofString "_law_cup"), (Str.ofString "_law_roll"), (Str.ofString "_law_some"), (Str.ofString "_law_sort"), (Str.ofString "_law_like"), (Str.ofString "_law_dials"), (Str.ofString "_law_depth"), (Str.ofString "_law_two_right"), (Str.ofString "_law_perfect_right"), (Str.ofString "law")], [(Str.ofString "abs"), (Str.ofString "all"), (Str.ofString "bool"), (Str.ofString "int"), (Str.ofString "isinstance"), (Str.ofString "len"), (Str.ofString "list"), (Str.ofString "max"), (Str.ofString "min"), (Str.ofString "range"), (Str.ofString "set"), (Str.ofString "sorted"), (Str.ofString "str"), (Str.ofString "tuple"), (Str.ofString "zip")], cst⟩
def D (i : Nat) : Dfn := dl.getD i ⟨[], 0, []⟩
def T (i : Nat) : Txt := tl.getD i ⟨Str.ofString "", defArgs (top 0), [], defScope (top 0), []⟩
end Lw
set_option Elab.async false
set_option linter.all false
set_option maxRecDepth 100000
namespace Lw
set_option autoImplicit false
/-! plain: tables of fewest steps -/
abbrev Tb := List (Option Nat)
def gt (t : Tb) (x : Nat) : Option Nat := (t[x]?).join
def put (w : Nat) (t : Tb) (y : Nat) : Tb := match gt t y with
  | some _ => t
  | none => t.set y (some w)
def fil (w : Nat) (ys : List Nat) (t : Tb) : Tb := ys.foldl (put w) t
def tgt (h : Nat) (S L : List Nat) : List Nat := L.flatMap fun i => S.map fun s => (i + s) % h
def lay (t : Tb) (u : Nat) : List Nat := (List.range t.length).filter fun x => gt t x == some u
def TT (h : Nat) (S : List Nat) : Nat → Tb
  | 0 => some 0 :: List.replicate (h - 1) none
  | u + 1 => fil (u + 1) (tgt h S (lay (TT h S u) u)) (TT h S u)
def nn (t : Tb) : Nat := t.countP Option.isNone
theorem gt_lt {t : Tb} {x v : Nat} (h : gt t x = some v) : x < t.length := by
  unfold gt at h
  by_cases q : x < t.length
  · exact q
  · rw [List.getElem?_eq_none (by omega)] at h; cases h
theorem gt_some {t : Tb} {x : Nat} (h : x < t.length) : t[x]? = some (gt t x) := by
  unfold gt; rw [List.getElem?_eq_getElem h]; rfl
theorem gt_set {t : Tb} {y : Nat} (hy : y < t.length) (o : Option Nat) (x : Nat) : gt (t.set y o) x = if y = x then o else gt t x := by
  unfold gt
  rw [List.getElem?_set]
  split
  · rename_i e; subst e; simp [hy]
  · rfl
theorem tb_ext {t t' : Tb} (hl : t.length = t'.length) (h : ∀ x < t.length, gt t x = gt t' x) : t = t' := by
  apply List.ext_getElem? fun x => ?_
  by_cases q : x < t.length
  · rw [gt_some q, gt_some (hl ▸ q), h x q]
  · rw [List.getElem?_eq_none (by omega), List.getElem?_eq_none (by omega)]
theorem put_len (w : Nat) (t : Tb) (y : Nat) : (put w t y).length = t.length := by
  unfold put; split
  · rfl
  · exact List.length_set
theorem fil_len (w : Nat) : ∀ (ys : List Nat) (t : Tb), (fil w ys t).length = t.length
  | [], _ => rfl
  | y :: ys, t => by show (fil w ys (put w t y)).length = _; rw [fil_len w ys, put_len]
theorem gt_put {w : Nat} {t : Tb} {y : Nat} (hy : y < t.length) (x : Nat) : gt (put w t y) x = (gt t x).or (if y = x then some w else none) := by
  unfold put
  split
  · rename_i v e
    by_cases q : y = x
    · subst q; rw [e]; rfl
    · rw [if_neg q, Option.or_none]
  · rename_i e
    rw [gt_set hy]
    split
    · rename_i q; subst q; rw [e]; rfl
    · rw [Option.or_none]
theorem gt_fil {w : Nat} : ∀ {ys : List Nat} {t : Tb}, (∀ y ∈ ys, y < t.length) → ∀ x, gt (fil w ys t) x = (gt t x).or (if x ∈ ys then some w else none)
  | [], t, _, x => by show gt t x = _; rw [if_neg (by simp), Option.or_none]
  | y :: ys, t, h, x => by
    show gt (fil w ys (put w t y)) x = _
    rw [gt_fil (fun z hz => by rw [put_len]; exact h z (List.mem_cons_of_mem _ hz)) x, gt_put (h y (List.mem_cons_self ..)), Option.or_assoc]
    congr 1
    by_cases q : y = x
    · subst q; simp
    · have q' : ¬ x = y := fun e => q e.symm
      rw [if_neg q, Option.none_or]; simp [q']
theorem fil_congr {w : Nat} {ys zs : List Nat} {t : Tb} (h : ∀ y ∈ ys, y < t.length) (h' : ∀ y ∈ zs, y < t.length) (e : ∀ x, x ∈ ys ↔ x ∈ zs) : fil w ys t = fil w zs t := by
  refine tb_ext (by rw [fil_len, fil_len]) fun x _ => ?_
  rw [gt_fil h, gt_fil h']
  simp only [e x]
theorem mem_tgt {h : Nat} {S L : List Nat} {x : Nat} : x ∈ tgt h S L ↔ ∃ i ∈ L, ∃ s ∈ S, (i + s) % h = x := by
  unfold tgt; simp [List.mem_flatMap]
theorem tgt_lt {h : Nat} (hh : 0 < h) {S L : List Nat} {x : Nat} (m : x ∈ tgt h S L) : x < h := by
  obtain ⟨i, _, s, _, rfl⟩ := mem_tgt.mp m; exact Nat.mod_lt _ hh
theorem mem_lay {t : Tb} {u x : Nat} : x ∈ lay t u ↔ gt t x = some u := by
  unfold lay
  rw [List.mem_filter, List.mem_range, beq_iff_eq]
  exact ⟨fun h => h.2, fun h => ⟨gt_lt h, h⟩⟩
theorem T_len {h : Nat} (hh : 0 < h) {S : List Nat} : ∀ u, (TT h S u).length = h
  | 0 => by simp [TT]; omega
  | u + 1 => by rw [TT, fil_len, T_len hh u]
theorem gt_T {h : Nat} (hh : 0 < h) {S : List Nat} (u x : Nat) : gt (TT h S (u + 1)) x = (gt (TT h S u) x).or (if x ∈ tgt h S (lay (TT h S u) u) then some (u + 1) else none) := by
  rw [TT, gt_fil fun y hy => by rw [T_len hh]; exact tgt_lt hh hy]
theorem T_keep {h : Nat} (hh : 0 < h) {S : List Nat} {u x v : Nat} (e : gt (TT h S u) x = some v) : gt (TT h S (u + 1)) x = some v := by
  rw [gt_T hh, e]; rfl
theorem gt_T0 {h : Nat} {S : List Nat} (x : Nat) : gt (TT h S 0) x = if x = 0 then some 0 else none := by
  cases x with
  | zero => rfl
  | succ x =>
    rw [if_neg (by omega)]
    unfold TT gt
    rw [List.getElem?_cons_succ, List.getElem?_replicate]
    split <;> rfl
theorem T_le {h : Nat} (hh : 0 < h) {S : List Nat} : ∀ {u x v : Nat}, gt (TT h S u) x = some v → v ≤ u
  | 0, x, v, e => by rw [gt_T0] at e; split at e <;> simp_all
  | u + 1, x, v, e => by
    rw [gt_T hh] at e
    cases q : gt (TT h S u) x with
    | some w => rw [q] at e; cases e; have := T_le hh q; omega
    | none =>
      rw [q, Option.none_or] at e
      split at e <;> simp_all
theorem T_new {h : Nat} (hh : 0 < h) {S : List Nat} {u x : Nat} : gt (TT h S (u + 1)) x = some (u + 1) ↔ gt (TT h S u) x = none ∧ x ∈ tgt h S (lay (TT h S u) u) := by
  rw [gt_T hh]
  cases q : gt (TT h S u) x with
  | some w =>
    have := T_le hh q
    simp only [Option.some_or, Option.some.injEq]
    constructor
    · intro e; omega
    · intro e; cases e.1
  | none => simp
theorem T_closed {h : Nat} (hh : 0 < h) {S : List Nat} : ∀ {u i j s : Nat}, gt (TT h S u) i = some j → j < u → s ∈ S → ∃ v, v ≤ j + 1 ∧ gt (TT h S u) ((i + s) % h) = some v
  | 0, _, _, _, _, hj, _ => by omega
  | u + 1, i, j, s, e, hj, hs => by
    rw [gt_T hh] at e
    have ei : gt (TT h S u) i = some j := by
      cases q : gt (TT h S u) i with
      | some w => rw [q] at e; exact e
      | none =>
        rw [q, Option.none_or] at e
        split at e
        · cases e; omega
        · cases e
    by_cases q : j < u
    · obtain ⟨v, hv, ev⟩ := T_closed hh ei q hs
      exact ⟨v, hv, T_keep hh ev⟩
    · have : j = u := by omega
      subst this
      rw [gt_T hh, if_pos (mem_tgt.mpr ⟨i, mem_lay.mpr ei, s, hs, rfl⟩)]
      cases q' : gt (TT h S j) ((i + s) % h) with
      | some w => exact ⟨w, by have := T_le hh q'; omega, rfl⟩
      | none => exact ⟨j + 1, by omega, rfl⟩
theorem T_stop {h : Nat} (hh : 0 < h) {S : List Nat} {k : Nat} (e : lay (TT h S k) k = []) : ∀ j, TT h S (k + j) = TT h S k
  | 0 => rfl
  | j + 1 => by
    have ih := T_stop hh e j
    have le : lay (TT h S (k + j)) (k + j) = [] := by
      cases j with
      | zero => exact e
      | succ j =>
        apply List.eq_nil_iff_forall_not_mem.mpr fun x hx => ?_
        have hx := mem_lay.mp hx
        rw [ih] at hx
        have := T_le hh hx
        omega
    show TT h S (k + j + 1) = _
    rw [TT, le, ih]; rfl
theorem nn_put {w : Nat} {t : Tb} {y : Nat} (hy : y < t.length) (e : gt t y = none) : nn (t.set y (some w)) + 1 = nn t := by
  have ey : t[y] = none := by have := gt_some hy; rw [List.getElem?_eq_getElem hy, e] at this; exact Option.some.inj this
  unfold nn
  rw [List.countP_set hy, ey]
  have : 0 < t.countP Option.isNone := List.countP_pos_iff.mpr ⟨t[y], List.getElem_mem hy, by rw [ey]; rfl⟩
  simp; omega
theorem nn_put_le (w : Nat) (t : Tb) (y : Nat) : nn (put w t y) ≤ nn t := by
  unfold put
  split
  · exact Nat.le_refl _
  · rename_i e
    by_cases q : y < t.length
    · have := nn_put (w := w) q e; omega
    · rw [List.set_eq_of_length_le (by omega)]; exact Nat.le_refl _
theorem nn_fil_le (w : Nat) : ∀ (ys : List Nat) (t : Tb), nn (fil w ys t) ≤ nn t
  | [], _ => Nat.le_refl _
  | y :: ys, t => Nat.le_trans (nn_fil_le w ys (put w t y)) (nn_put_le w t y)
theorem nn_fil_lt {w : Nat} : ∀ {ys : List Nat} {t : Tb} {y : Nat}, y ∈ ys → y < t.length → gt t y = none → nn (fil w ys t) < nn t
  | z :: ys, t, y, hm, hy, e => by
    show nn (fil w ys (put w t z)) < nn t
    cases q : gt t z with
    | some v =>
      have hz : y ≠ z := fun h => by subst h; rw [e] at q; cases q
      have hp : put w t z = t := by unfold put; rw [q]
      rw [hp]
      exact nn_fil_lt ((List.mem_cons.mp hm).resolve_left hz) hy e
    | none =>
      have hp : put w t z = t.set z (some w) := by unfold put; rw [q]
      rw [hp]
      by_cases hz : z < t.length
      · have := nn_put (w := w) hz q
        have := nn_fil_le w ys (t.set z (some w))
        omega
      · have hz' : y ≠ z := fun h => hz (h ▸ hy)
        rw [List.set_eq_of_length_le (by omega)]
        exact nn_fil_lt ((List.mem_cons.mp hm).resolve_left hz') hy e
theorem T_ends {h : Nat} (hh : 0 < h) {S : List Nat} : ∃ k, k ≤ h ∧ lay (TT h S k) k = [] := by
  apply Classical.byContradiction
  intro no
  have go : ∀ u, u ≤ h → nn (TT h S u) + u + 1 ≤ h + 0 := by
    intro u
    induction u with
    | zero =>
      intro _
      have : nn (TT h S 0) = h - 1 := by unfold nn TT; simp [List.countP_replicate]
      omega
    | succ u ih =>
      intro hu
      have := ih (by omega)
      have ne : lay (TT h S (u + 1)) (u + 1) ≠ [] := fun e => no ⟨u + 1, hu, e⟩
      obtain ⟨x, hx⟩ := List.exists_mem_of_ne_nil _ ne
      have hx := (T_new hh).mp (mem_lay.mp hx)
      have lt : nn (TT h S (u + 1)) < nn (TT h S u) := by
        rw [TT]; exact nn_fil_lt hx.2 (by rw [T_len hh]; exact tgt_lt hh hx.2) hx.1
      omega
  have := go h (Nat.le_refl h)
  omega
theorem T_last {h : Nat} (hh : 0 < h) {S : List Nat} {k : Nat} (e : lay (TT h S k) k = []) (hk : k ≤ h) : TT h S k = TT h S h := by
  have := T_stop hh e (h - k)
  rw [show k + (h - k) = h by omega] at this
  exact this.symm
/-! the depth -/
def dep (h : Nat) (S : List Nat) : Option Nat := (TT h S h).foldl (fun m o => match m, o with
  | some a, some b => some (max a b)
  | _, _ => none) (some 0)
theorem dep_fold : ∀ (t : Tb) (a : Nat), t.foldl (fun m o => match m, o with
  | some a, some b => some (max a b)
  | _, _ => none) (some a) = if none ∈ t then none else some (t.foldl (fun m o => max m (o.getD 0)) a)
  | [], _ => rfl
  | none :: t, a => by
    have : ∀ t : Tb, t.foldl (fun m o => match m, o with
      | some a, some b => some (max a b)
      | _, _ => none) none = none := fun t => by
        induction t with
        | nil => rfl
        | cons x t ih => exact ih
    show t.foldl _ none = _
    rw [this, if_pos (List.mem_cons_self ..)]
  | some b :: t, a => by
    show t.foldl _ (some (max a b)) = _
    rw [dep_fold t]
    simp

/-! one level, with the list of the new ones -/
def stq (w : Nat) (st : Tb × List Nat) (y : Nat) : Tb × List Nat := match gt st.1 y with
  | some _ => st
  | none => (st.1.set y (some w), st.2 ++ [y])
def stp (h here : Nat) (st : Tb × List Nat) (s : Nat) : Tb × List Nat := stq ((gt st.1 here).getD 0 + 1) st ((here + s) % h)
def row (h : Nat) (S : List Nat) (st : Tb × List Nat) (here : Nat) : Tb × List Nat := S.foldl (stp h here) st
def lvl (h : Nat) (S L : List Nat) (t : Tb) : Tb × List Nat := L.foldl (row h S) (t, [])
theorem stq_fst (w : Nat) (st : Tb × List Nat) (y : Nat) : (stq w st y).1 = put w st.1 y := by
  unfold stq put; split <;> rename_i e
  · simp only [e]
  · simp only [e]
theorem stq_keep {w : Nat} {st : Tb × List Nat} {y i v : Nat} (e : gt st.1 i = some v) : gt (stq w st y).1 i = some v := by
  rw [stq_fst]
  by_cases q : y < st.1.length
  · rw [gt_put q, e]; rfl
  · unfold put
    split
    · exact e
    · rw [List.set_eq_of_length_le (by omega)]; exact e
theorem row_stq {h : Nat} {u here : Nat} : ∀ {S : List Nat} {st : Tb × List Nat}, gt st.1 here = some u → row h S st here = (S.map fun s => (here + s) % h).foldl (stq (u + 1)) st
  | [], _, _ => rfl
  | s :: S, st, e => by
    have e1 : stp h here st s = stq (u + 1) st ((here + s) % h) := by unfold stp; rw [e]; rfl
    show row h S (stp h here st s) here = _
    rw [e1, row_stq (stq_keep e)]; rfl
theorem fold_keep {w : Nat} : ∀ {ys : List Nat} {st : Tb × List Nat} {i v : Nat}, gt st.1 i = some v → gt (ys.foldl (stq w) st).1 i = some v
  | [], _, _, _, e => e
  | y :: ys, st, _, _, e => by
    show gt (ys.foldl (stq w) (stq w st y)).1 _ = _
    exact fold_keep (stq_keep e)
theorem rows_stq {h : Nat} {u : Nat} {S : List Nat} : ∀ {L : List Nat} {st : Tb × List Nat}, (∀ i ∈ L, gt st.1 i = some u) → L.foldl (row h S) st = (tgt h S L).foldl (stq (u + 1)) st
  | [], _, _ => rfl
  | i :: L, st, e => by
    show L.foldl (row h S) (row h S st i) = _
    rw [row_stq (e i (List.mem_cons_self ..)), rows_stq fun j hj => fold_keep (e j (List.mem_cons_of_mem _ hj))]
    unfold tgt
    rw [List.flatMap_cons, List.foldl_append]
theorem stq_fold {w : Nat} : ∀ {ys : List Nat} {st : Tb × List Nat}, (∀ y ∈ ys, y < st.1.length) → (ys.foldl (stq w) st).1 = fil w ys st.1 ∧ (ys.foldl (stq w) st).2.length + nn (ys.foldl (stq w) st).1 = st.2.length + nn st.1 ∧ ∀ x, x ∈ (ys.foldl (stq w) st).2 ↔ x ∈ st.2 ∨ (gt st.1 x = none ∧ x ∈ ys)
  | [], st, _ => ⟨rfl, rfl, fun x => by simp⟩
  | y :: ys, st, h => by
    have hl : (stq w st y).1.length = st.1.length := by rw [stq_fst, put_len]
    obtain ⟨h1, h2, h3⟩ := stq_fold (w := w) (ys := ys) (st := stq w st y) fun z hz => by rw [hl]; exact h z (List.mem_cons_of_mem _ hz)
    have hy := h y (List.mem_cons_self ..)
    refine ⟨by show (ys.foldl (stq w) (stq w st y)).1 = _; rw [h1, stq_fst]; rfl, ?_, fun x => ?_⟩
    · show (ys.foldl (stq w) (stq w st y)).2.length + nn (ys.foldl (stq w) (stq w st y)).1 = _
      rw [h2]
      unfold stq
      split
      · rfl
      · rename_i e
        have := nn_put (w := w) hy e
        simp only [List.length_append, List.length_singleton]
        omega
    · show x ∈ (ys.foldl (stq w) (stq w st y)).2 ↔ _
      rw [h3 x, stq_fst]
      rw [gt_put hy]
      unfold stq
      cases e : gt st.1 y with
      | some v =>
        by_cases q : y = x
        · subst q; simp [e]
        · have q' : ¬ x = y := fun z => q z.symm
          simp [q, q']
      | none =>
        by_cases q : y = x
        · subst q; simp [e]
        · have q' : ¬ x = y := fun z => q z.symm
          simp [q, q']
/-- a level of the walk is a level of the table -/
theorem lvl_T {h : Nat} (hh : 0 < h) {S L : List Nat} {u : Nat} (hL : ∀ x, x ∈ L ↔ x ∈ lay (TT h S u) u) : (lvl h S L (TT h S u)).1 = TT h S (u + 1) ∧ ∀ x, x ∈ (lvl h S L (TT h S u)).2 ↔ x ∈ lay (TT h S (u + 1)) (u + 1) := by
  unfold lvl
  rw [rows_stq fun i hi => mem_lay.mp ((hL i).mp hi)]
  have ht : ∀ x, x ∈ tgt h S L ↔ x ∈ tgt h S (lay (TT h S u) u) := fun x => by rw [mem_tgt, mem_tgt]; simp only [hL]
  have hlt : ∀ y ∈ tgt h S L, y < (TT h S u).length := fun y hy => by rw [T_len hh]; exact tgt_lt hh hy
  obtain ⟨h1, h2, h3⟩ := stq_fold (w := u + 1) (st := (TT h S u, [])) hlt
  refine ⟨?_, fun x => ?_⟩
  · rw [h1, TT]
    exact fil_congr hlt (fun y hy => by rw [T_len hh]; exact tgt_lt hh hy) ht
  · rw [h3, mem_lay, T_new hh, ht]
    simp
end Lw
set_option Elab.async false
set_option linter.all false
set_option maxRecDepth 100000
set_option maxHeartbeats 4000000
namespace Lw
open PySem hiding run
open L2 L2.Pz
abbrev dd : Nat → Dfn := dAt dl
theorem dd9 : dd 9 = c9 := rfl
def oV : Option Nat → PV
  | none => .non
  | some k => .int (k : Nat)
def tV (t : Tb) : PV := .lst (t.map oV)
section
variable {d : Nat} {h : Nat} {Ss : List Nat} {sv : PV}
abbrev M0 : Nat → List Md := fun f => (dd f).modes
theorem oV_at {t : Tb} {i : Nat} {x : Option Nat} (e : t[i]? = some x) : atP (t.map oV) (i : Int) = some (oV x) := atP_nat (by rw [List.getElem?_map, e]; rfl)
def bIn : List S := [.set 7 (.bin .mod (.bin .add (.var 5) (.var 6)) (.var 0)), .ite (.cmp .is_ (.idx (.var 2) (.var 7)) (.con .non)) [.sti 2 (.var 7) (.bin .add (.idx (.var 2) (.var 5)) (.con (.int 1))), .ex (.mm .append 4 [(.var 7)])] []]
theorem inner (hh : 0 < h) {line : List Nat} {k : Kd} {st : Tb × List Nat} {here s : Nat} {env : En} {s6 s7 : Option Slot} (hl : ∃ v, gt st.1 here = some v) (hlen : st.1.length = h) (hz : st.2.length < sizeLine)
    (he : env = [some ⟨.int (h : Nat), .ro⟩, some ⟨sv, .ro⟩, some ⟨tV st.1, .own⟩, some ⟨.lst (natL line), k⟩, some ⟨.lst (natL st.2), .own⟩, some ⟨.int (here : Nat), .fz⟩, s6, s7]) (h6 : ∀ s, s6 = some s → s.k ≠ .lk) (h7 : ∀ s, s7 = some s → s.k ≠ .lk) :
    forT M0 (run lim dd d) lim [] (.one 6) bIn (.int (s : Nat)) env = some (.nx [some ⟨.int (h : Nat), .ro⟩, some ⟨sv, .ro⟩, some ⟨tV (stp h here st s).1, .own⟩, some ⟨.lst (natL line), k⟩, some ⟨.lst (natL (stp h here st s).2), .own⟩, some ⟨.int (here : Nat), .fz⟩, some ⟨.int (s : Nat), .fz⟩, some ⟨.int (((here + s) % h : Nat) : Int), .fz⟩]) := by
  have hy : (here + s) % h < h := Nat.mod_lt _ hh
  obtain ⟨v, hg⟩ := hl
  have hv : st.1[here]? = some (some v) := by rw [gt_some (gt_lt hg), hg]
  have ey : st.1[(here + s) % h]? = some st.1[(here + s) % h] := List.getElem?_eq_getElem (by rw [hlen]; exact hy)
  have ny : ((here : Int) + (s : Int)) % (h : Int) = (((here + s) % h : Nat) : Int) := by rw [← Int.natCast_add, ← Int.natCast_emod]
  have e1 := oV_at ey
  have e2 := oV_at hv
  have hm : (0 : Int) < (h : Int) := by omega
  have hlk : ∀ (o : Option Slot) (q : PV), (∀ s, o = some s → s.k ≠ .lk) → o ≠ some ⟨q, .lk⟩ := fun o q ho z => ho _ z rfl
  subst he
  have st6 : store [] 6 (.int (s : Nat)) false [some ⟨.int (h : Nat), .ro⟩, some ⟨sv, .ro⟩, some ⟨tV st.1, .own⟩, some ⟨.lst (natL line), k⟩, some ⟨.lst (natL st.2), .own⟩, some ⟨.int (here : Nat), .fz⟩, s6, s7] = some [some ⟨.int (h : Nat), .ro⟩, some ⟨sv, .ro⟩, some ⟨tV st.1, .own⟩, some ⟨.lst (natL line), k⟩, some ⟨.lst (natL st.2), .own⟩, some ⟨.int (here : Nat), .fz⟩, some ⟨.int (s : Nat), .fz⟩, s7] := by
    cases s6 with
    | none => rfl
    | some q =>
      obtain ⟨q, kk⟩ := q
      cases kk <;> first | rfl | exact (h6 _ rfl rfl).elim
  have st7 : ∀ p : PV, store [] 7 p false [some ⟨.int (h : Nat), .ro⟩, some ⟨sv, .ro⟩, some ⟨tV st.1, .own⟩, some ⟨.lst (natL line), k⟩, some ⟨.lst (natL st.2), .own⟩, some ⟨.int (here : Nat), .fz⟩, some ⟨.int (s : Nat), .fz⟩, s7] = some [some ⟨.int (h : Nat), .ro⟩, some ⟨sv, .ro⟩, some ⟨tV st.1, .own⟩, some ⟨.lst (natL line), k⟩, some ⟨.lst (natL st.2), .own⟩, some ⟨.int (here : Nat), .fz⟩, some ⟨.int (s : Nat), .fz⟩, some ⟨p, .fz⟩] := fun p => by
    cases s7 with
    | none => rfl
    | some q =>
      obtain ⟨q, kk⟩ := q
      cases kk <;> first | rfl | exact (h7 _ rfl rfl).elim
  unfold forT
  simp only [bindTg, st6]
  have s1 : ex M0 (run lim dd d) lim [] (.set 7 (.bin .mod (.bin .add (.var 5) (.var 6)) (.var 0))) [some ⟨.int (h : Nat), .ro⟩, some ⟨sv, .ro⟩, some ⟨tV st.1, .own⟩, some ⟨.lst (natL line), k⟩, some ⟨.lst (natL st.2), .own⟩, some ⟨.int (here : Nat), .fz⟩, some ⟨.int (s : Nat), .fz⟩, s7] = some (.nx [some ⟨.int (h : Nat), .ro⟩, some ⟨sv, .ro⟩, some ⟨tV st.1, .own⟩, some ⟨.lst (natL line), k⟩, some ⟨.lst (natL st.2), .own⟩, some ⟨.int (here : Nat), .fz⟩, some ⟨.int (s : Nat), .fz⟩, some ⟨.int (((here + s) % h : Nat) : Int), .fz⟩]) := by
    simp only [ex_set, ev_bin, ev_var, deref, move, binF, addF, intF, hm, ny, List.getElem?_cons_zero, List.getElem?_cons_succ, decide_true, if_true, st7]
  rw [bIn, exs_nx s1]
  have c1 : ∀ (x : PV), atP (st.1.map oV) (((here + s) % h : Nat) : Int) = some x → ev M0 (run lim dd d) (.cmp .is_ (.idx (.var 2) (.var 7)) (.con .non)) [some ⟨.int (h : Nat), .ro⟩, some ⟨sv, .ro⟩, some ⟨tV st.1, .own⟩, some ⟨.lst (natL line), k⟩, some ⟨.lst (natL st.2), .own⟩, some ⟨.int (here : Nat), .fz⟩, some ⟨.int (s : Nat), .fz⟩, some ⟨.int (((here + s) % h : Nat) : Int), .fz⟩] = some (.vl (.bl x.isNon) false, [some ⟨.int (h : Nat), .ro⟩, some ⟨sv, .ro⟩, some ⟨tV st.1, .own⟩, some ⟨.lst (natL line), k⟩, some ⟨.lst (natL st.2), .own⟩, some ⟨.int (here : Nat), .fz⟩, some ⟨.int (s : Nat), .fz⟩, some ⟨.int (((here + s) % h : Nat) : Int), .fz⟩]) := fun x ex0 => by
    simp only [ev_cmp, ev_idx, ev_var, ev_con, deref, idxF, tV, ex0, cmpF, isF, List.getElem?_cons_zero, List.getElem?_cons_succ]
  cases q : st.1[(here + s) % h] with
  | some w =>
    have gy : gt st.1 ((here + s) % h) = some w := by unfold gt; rw [ey, q]; rfl
    have es : stp h here st s = st := by unfold stp stq; rw [gy]
    rw [es]
    rw [q] at e1
    simp only [exs_cons, exs_nil, ex_ite, c1 _ e1, deref, oV, PV.isNon]
  | none =>
    have gy : gt st.1 ((here + s) % h) = none := by unfold gt; rw [ey, q]; rfl
    have es : stp h here st s = (st.1.set ((here + s) % h) (some (v + 1)), st.2 ++ [(here + s) % h]) := by unfold stp stq; rw [gy, hg]; rfl
    rw [es]
    rw [q] at e1
    have hx : ixN (st.1.map oV).length (((here + s) % h : Nat) : Int) = some ((here + s) % h) := ixN_nat (by rw [List.length_map, hlen]; exact hy)
    have hz' : (natL st.2).length < sizeLine := by unfold natL; rw [List.length_map]; exact hz
    have s2 : ex M0 (run lim dd d) lim [] (.sti 2 (.var 7) (.bin .add (.idx (.var 2) (.var 5)) (.con (.int 1)))) [some ⟨.int (h : Nat), .ro⟩, some ⟨sv, .ro⟩, some ⟨tV st.1, .own⟩, some ⟨.lst (natL line), k⟩, some ⟨.lst (natL st.2), .own⟩, some ⟨.int (here : Nat), .fz⟩, some ⟨.int (s : Nat), .fz⟩, some ⟨.int (((here + s) % h : Nat) : Int), .fz⟩] = some (.nx [some ⟨.int (h : Nat), .ro⟩, some ⟨sv, .ro⟩, some ⟨tV (st.1.set ((here + s) % h) (some (v + 1))), .own⟩, some ⟨.lst (natL line), k⟩, some ⟨.lst (natL st.2), .own⟩, some ⟨.int (here : Nat), .fz⟩, some ⟨.int (s : Nat), .fz⟩, some ⟨.int (((here + s) % h : Nat) : Int), .fz⟩]) := by
      simp only [ex_sti, ev_bin, ev_idx, ev_var, ev_con, deref, consume, idxF, tV, e2, oV, binF, addF, setF, hx, Option.map_some, List.getElem?_cons_zero, List.getElem?_cons_succ, List.set_cons_zero, List.set_cons_succ, List.map_set]
      rfl
    have s3 : ex M0 (run lim dd d) lim [] (.ex (.mm .append 4 [(.var 7)])) [some ⟨.int (h : Nat), .ro⟩, some ⟨sv, .ro⟩, some ⟨tV (st.1.set ((here + s) % h) (some (v + 1))), .own⟩, some ⟨.lst (natL line), k⟩, some ⟨.lst (natL st.2), .own⟩, some ⟨.int (here : Nat), .fz⟩, some ⟨.int (s : Nat), .fz⟩, some ⟨.int (((here + s) % h : Nat) : Int), .fz⟩] = some (.nx [some ⟨.int (h : Nat), .ro⟩, some ⟨sv, .ro⟩, some ⟨tV (st.1.set ((here + s) % h) (some (v + 1))), .own⟩, some ⟨.lst (natL line), k⟩, some ⟨.lst (natL (st.2 ++ [(here + s) % h])), .own⟩, some ⟨.int (here : Nat), .fz⟩, some ⟨.int (s : Nat), .fz⟩, some ⟨.int (((here + s) % h : Nat) : Int), .fz⟩]) := by
      simp only [ex_ex, ev_mm, evs, ev_var, consumes, consume, mutF, appendF, hz', if_true, PV.kn, List.getElem?_cons_zero, List.getElem?_cons_succ, List.set_cons_zero, List.set_cons_succ]
      simp only [natL, List.map_append, List.map_cons, List.map_nil]
    simp only [exs_cons, exs_nil, ex_ite, c1 _ e1, deref, oV, PV.isNon, s2, s3]
theorem stp_len (h here : Nat) (st : Tb × List Nat) (s : Nat) : (stp h here st s).1.length = st.1.length := by unfold stp; rw [stq_fst, put_len]
theorem stp_sum {h here : Nat} {st : Tb × List Nat} {s : Nat} (hh : 0 < h) (hl : st.1.length = h) : (stp h here st s).2.length + nn (stp h here st s).1 = st.2.length + nn st.1 := by
  unfold stp
  exact (stq_fold (ys := [(here + s) % h]) fun y hy => by rw [List.mem_singleton.mp hy, hl]; exact Nat.mod_lt _ hh).2.1
theorem stp_keep {h here : Nat} {st : Tb × List Nat} {s i v : Nat} (e : gt st.1 i = some v) : gt (stp h here st s).1 i = some v := by unfold stp; exact stq_keep e
def R1 (h : Nat) (sv : PV) (line : List Nat) (k : Kd) (here : Nat) (st : Tb × List Nat) (env : En) : Prop :=
  ∃ s6 s7 : Option Slot, env = [some ⟨.int (h : Nat), .ro⟩, some ⟨sv, .ro⟩, some ⟨tV st.1, .own⟩, some ⟨.lst (natL line), k⟩, some ⟨.lst (natL st.2), .own⟩, some ⟨.int (here : Nat), .fz⟩, s6, s7] ∧ NL s6 ∧ NL s7
def I1 (h : Nat) (L : List Nat) (u : Nat) (st : Tb × List Nat) : Prop := st.1.length = h ∧ (∀ i ∈ L, gt st.1 i = some u) ∧ st.2.length + nn st.1 ≤ h
theorem I1_stp {L : List Nat} {u here s : Nat} {st : Tb × List Nat} (hh : 0 < h) (i : I1 h L u st) : I1 h L u (stp h here st s) :=
  ⟨by rw [stp_len]; exact i.1, fun j hj => stp_keep (i.2.1 j hj), by rw [stp_sum hh i.1]; exact i.2.2⟩
theorem I1_row {L : List Nat} {u here : Nat} (hh : 0 < h) : ∀ {S : List Nat} {st : Tb × List Nat}, I1 h L u st → I1 h L u (row h S st here)
  | [], _, i => i
  | s :: S, st, i => by
    show I1 h L u (row h S (stp h here st s) here)
    exact I1_row hh (I1_stp hh i)
theorem for6 (hh : 0 < h) (hs : h < sizeLine) (hw : walkF sv = some (natL Ss)) {line L : List Nat} {k : Kd} {st : Tb × List Nat} {here u : Nat} {env : En} (hL : here ∈ L) (hi : I1 h L u st) (hr : R1 h sv line k here st env) :
    ∃ env', ex M0 (run lim dd d) lim [] (.for_ (.one 6) (.var 1) bIn) env = some (.nx env') ∧ R1 h sv line k here (row h Ss st here) env' ∧ I1 h L u (row h Ss st here) := by
  obtain ⟨env', h1, h2⟩ := forGo_rel (turn := forT M0 (run lim dd d) lim [] (.one 6) bIn) (l := natL Ss) (R := fun st env => R1 h sv line k here st env ∧ I1 h L u st) (step := fun st z => stp h here st (pnt z)) ⟨hr, hi⟩ (by
    intro z hz st env ⟨⟨s6, s7, he, n6, n7⟩, hi⟩
    obtain ⟨s, _, rfl⟩ := mem_natL hz
    have hz' : st.2.length < sizeLine := by have := hi.2.2; omega
    exact ⟨_, inner hh ⟨u, hi.2.1 here hL⟩ hi.1 hz' he n6 n7, ⟨_, _, rfl, nl_fz _, nl_fz _⟩, I1_stp hh hi⟩)
  rw [fold_nat (stp h here) Ss st] at h2
  have e1 : ∃ s6 s7 : Option Slot, env = [some ⟨.int (h : Nat), .ro⟩, some ⟨sv, .ro⟩, some ⟨tV st.1, .own⟩, some ⟨.lst (natL line), k⟩, some ⟨.lst (natL st.2), .own⟩, some ⟨.int (here : Nat), .fz⟩, s6, s7] := let ⟨s6, s7, e, _, _⟩ := hr; ⟨s6, s7, e⟩
  have e2 : ∃ s2 s3 s4 s5 s6 s7 : Option Slot, env' = [some ⟨.int (h : Nat), .ro⟩, some ⟨sv, .ro⟩, s2, s3, s4, s5, s6, s7] := let ⟨⟨s6, s7, e, _, _⟩, _⟩ := h2; ⟨_, _, _, _, s6, s7, e⟩
  refine ⟨env', ?_, h2.1, h2.2⟩
  obtain ⟨s6, s7, rfl⟩ := e1
  rw [ex_for_nx (x := .sl 1) (l := [1]) (xs := natL Ss) (by rw [ev_var]; rfl) (by unfold walkO deref; simp only [List.getElem?_cons_zero, List.getElem?_cons_succ, hw]; rfl) (h3 := by exact h1)]
  rfl
/-- over the line -/
def bMid : List S := [.for_ (.one 6) (.var 1) bIn]
def R2 (h : Nat) (sv : PV) (line : List Nat) (k : Kd) (st : Tb × List Nat) (env : En) : Prop :=
  ∃ s5 s6 s7 : Option Slot, env = [some ⟨.int (h : Nat), .ro⟩, some ⟨sv, .ro⟩, some ⟨tV st.1, .own⟩, some ⟨.lst (natL line), k⟩, some ⟨.lst (natL st.2), .own⟩, s5, s6, s7] ∧ NL s5 ∧ NL s6 ∧ NL s7
theorem for5 (hh : 0 < h) (hs : h < sizeLine) (hw : walkF sv = some (natL Ss)) {L : List Nat} {u : Nat} {t : Tb} {env : En} (hi : I1 h L u (t, [])) (hr : R2 h sv L .own (t, []) env) :
    ∃ env', ex M0 (run lim dd d) lim [] (.for_ (.one 5) (.var 3) bMid) env = some (.nx env') ∧ R2 h sv L .own (lvl h Ss L t) env' := by
  obtain ⟨s5, s6, s7, he, n5, n6, n7⟩ := hr
  obtain ⟨env', h1, h2⟩ := forGo_rel (turn := forT M0 (run lim dd d) lim [] (.one 5) bMid) (l := natL L) (R := fun st env => R2 h sv L .lk st env ∧ I1 h L u st) (step := fun st z => row h Ss st (pnt z)) (a := (t, [])) (env := lock env [3]) ⟨⟨s5, s6, s7, by rw [he]; rfl, n5, n6, n7⟩, hi⟩ (by
    intro z hz st env ⟨⟨s5, s6, s7, he, n5, n6, n7⟩, hi⟩
    obtain ⟨s, hs', rfl⟩ := mem_natL hz
    obtain ⟨env', h1, h2, h3⟩ := for6 (d := d) hh hs hw (line := L) (k := .lk) (u := u) (env := env.set 5 (some ⟨.int (s : Nat), .fz⟩)) hs' hi ⟨s6, s7, by rw [he]; rfl, n6, n7⟩
    refine ⟨env', ?_, ?_, h3⟩
    · unfold forT
      rw [show bindTg [] (.one 5) (.int (s : Nat)) env = some (env.set 5 (some ⟨.int (s : Nat), kd false⟩)) from st_nl (s := s5) (by rw [he]; rfl) n5 _ _]
      show exs M0 (run lim dd d) lim [] bMid (env.set 5 (some ⟨.int (s : Nat), .fz⟩)) = _
      rw [bMid, exs_nx h1, exs_nil]
    · obtain ⟨s6, s7, e, n6, n7⟩ := h2
      exact ⟨_, s6, s7, e, nl_fz _, n6, n7⟩)
  rw [fold_nat (row h Ss) L (t, [])] at h2
  obtain ⟨⟨s5', s6', s7', he', n5', n6', n7'⟩, _⟩ := h2
  refine ⟨env'.set 3 (some ⟨.lst (natL L), .own⟩), ?_, s5', s6', s7', by rw [he']; rfl, n5', n6', n7'⟩
  have h0 : ev M0 (run lim dd d) (.var 3) env = some (.sl 3, env) := by rw [ev_var, he]; rfl
  have hw0 : walkO env (.sl 3) = some (natL L, [3]) := by rw [he]; rfl
  rw [ex_for_nx (x := .sl 3) (l := [3]) (xs := natL L) h0 hw0 (h3 := h1)]
  rw [he, he']
  rfl
def R3 (h : Nat) (sv : PV) (Ss : List Nat) (a : Nat × List Nat) (env : En) : Prop :=
  (∃ s4 s5 s6 s7 : Option Slot, env = [some ⟨.int (h : Nat), .ro⟩, some ⟨sv, .ro⟩, some ⟨tV (TT h Ss a.1), .own⟩, some ⟨.lst (natL a.2), .own⟩, s4, s5, s6, s7] ∧ NL s4 ∧ NL s5 ∧ NL s6 ∧ NL s7) ∧ ∀ x, x ∈ a.2 ↔ x ∈ lay (TT h Ss a.1) a.1
theorem ev_nil {M : Nat → List Md} {C : Cl} (env : En) : ev M C (.lst []) env = some (.vl (.lst []) true, env) := by
  have z : ([] : List PV).length ≤ sizeLine := Nat.zero_le _
  rw [ev_lst]
  simp only [evs, consumes, z, if_true]
def cWh : E := .cmp .ne (.var 3) (.lst [])
def bWh : List S := [.set 4 (.lst []), .for_ (.one 5) (.var 3) bMid, .set 3 (.var 4)]
theorem c9_eq : c9 = ⟨[.ro, .ro], 8, [.par [2, 3] [(.bin .mul (.lst [(.con .non)]) (.var 0)), (.lst [(.con (.int 0))])], .sti 2 (.con (.int 0)) (.con (.int 0)), .whl cWh bWh, .ret (.var 2)]⟩ := rfl
theorem nn_le (t : Tb) : nn t ≤ t.length := List.countP_le_length
theorem whl9 (hh : 0 < h) (hs : h < sizeLine) (hw : walkF sv = some (natL Ss)) {env : En} (hr : R3 h sv Ss (0, [0]) env) :
    ∃ env', ex M0 (run lim dd d) lim [] (.whl cWh bWh) env = some (.nx env') ∧ ∃ s3 s4 s5 s6 s7 : Option Slot, env' = [some ⟨.int (h : Nat), .ro⟩, some ⟨sv, .ro⟩, some ⟨tV (TT h Ss h), .own⟩, s3, s4, s5, s6, s7] := by
  have turn : ∀ (a : Nat × List Nat) (env : En), R3 h sv Ss a env → if (!a.2.isEmpty) = true then ∃ env', whlT M0 (run lim dd d) lim [] cWh bWh env = some (.inl env') ∧ R3 h sv Ss (a.1 + 1, (lvl h Ss a.2 (TT h Ss a.1)).2) env' else ∃ env', whlT M0 (run lim dd d) lim [] cWh bWh env = some (.inr (.nx env')) ∧ R3 h sv Ss a env' := by
    intro a env ⟨⟨s4, s5, s6, s7, he, n4, n5, n6, n7⟩, hL⟩
    have hc : ev M0 (run lim dd d) cWh env = some (.vl (.bl (!(natL a.2).isEmpty)) false, env) := by
      rw [he]
      simp only [cWh, ev_cmp, ev_var, ev_nil, deref, cmpF, List.getElem?_cons_zero, List.getElem?_cons_succ, eqF_lnil (natL_leaf a.2), Bool.true_bne]
    have hE : (natL a.2).isEmpty = a.2.isEmpty := by cases a.2 <;> rfl
    cases q : a.2.isEmpty with
    | true =>
      rw [if_neg (by simp)]
      refine ⟨env, ?_, ⟨s4, s5, s6, s7, he, n4, n5, n6, n7⟩, hL⟩
      unfold whlT
      simp only [hc, hE, q, deref, Bool.not_true]
    | false =>
      rw [if_pos (by simp)]
      have s1 : ex M0 (run lim dd d) lim [] (.set 4 (.lst [])) env = some (.nx [some ⟨.int (h : Nat), .ro⟩, some ⟨sv, .ro⟩, some ⟨tV (TT h Ss a.1), .own⟩, some ⟨.lst (natL a.2), .own⟩, some ⟨.lst [], .own⟩, s5, s6, s7]) := by
        rw [he]
        simp only [ex_set, ev_nil, move, st_nl (show [some ⟨.int (h : Nat), .ro⟩, some ⟨sv, .ro⟩, some ⟨tV (TT h Ss a.1), .own⟩, some ⟨.lst (natL a.2), .own⟩, s4, s5, s6, s7][4]? = some s4 from rfl) n4]
        rfl
      obtain ⟨env', h1, s5', s6', s7', he', n5', n6', n7'⟩ := for5 (d := d) (Ss := Ss) hh hs hw (L := a.2) (u := a.1) (t := TT h Ss a.1) (env := [some ⟨.int (h : Nat), .ro⟩, some ⟨sv, .ro⟩, some ⟨tV (TT h Ss a.1), .own⟩, some ⟨.lst (natL a.2), .own⟩, some ⟨.lst [], .own⟩, s5, s6, s7])
        ⟨T_len hh _, fun i hi => mem_lay.mp ((hL i).mp hi), by have := nn_le (TT h Ss a.1); rw [T_len hh] at this; simpa using this⟩ ⟨s5, s6, s7, rfl, n5, n6, n7⟩
      obtain ⟨l1, l2⟩ := lvl_T hh hL
      refine ⟨[some ⟨.int (h : Nat), .ro⟩, some ⟨sv, .ro⟩, some ⟨tV (TT h Ss (a.1 + 1)), .own⟩, some ⟨.lst (natL (lvl h Ss a.2 (TT h Ss a.1)).2), .own⟩, none, s5', s6', s7'], ?_, ⟨none, s5', s6', s7', rfl, nl_none, n5', n6', n7'⟩, l2⟩
      have s3 : ex M0 (run lim dd d) lim [] (.set 3 (.var 4)) env' = some (.nx [some ⟨.int (h : Nat), .ro⟩, some ⟨sv, .ro⟩, some ⟨tV (TT h Ss (a.1 + 1)), .own⟩, some ⟨.lst (natL (lvl h Ss a.2 (TT h Ss a.1)).2), .own⟩, none, s5', s6', s7']) := by
        rw [he', ← l1, ex_set, ev_var]
        rfl
      unfold whlT
      simp only [hc, hE, q, deref, Bool.not_false, bWh, exs_nx s1, exs_nx h1, exs_nx s3, exs_nil]
  have stay : ∀ k, ∀ L, (∀ x, x ∈ L ↔ x ∈ lay (TT h Ss 0) 0) → (Nat.repeat (fun a : Nat × List Nat => (a.1 + 1, (lvl h Ss a.2 (TT h Ss a.1)).2)) k (0, L)).1 = k ∧ ∀ x, x ∈ (Nat.repeat (fun a : Nat × List Nat => (a.1 + 1, (lvl h Ss a.2 (TT h Ss a.1)).2)) k (0, L)).2 ↔ x ∈ lay (TT h Ss k) k := by
    intro k L hL
    induction k with
    | zero => exact ⟨rfl, hL⟩
    | succ k ih =>
      obtain ⟨i1, i2⟩ := ih
      unfold Nat.repeat
      refine ⟨by simp only [i1], ?_⟩
      simp only [i1]
      exact (lvl_T hh (by rw [← i1] at *; exact i2)).2
  obtain ⟨k, hk, hend⟩ := T_ends (S := Ss) hh
  have ends : ∀ k, ((!(Nat.repeat (fun a : Nat × List Nat => (a.1 + 1, (lvl h Ss a.2 (TT h Ss a.1)).2)) k (0, [0])).2.isEmpty) = false) ↔ lay (TT h Ss k) k = [] := fun k => by
    have := (stay k [0] hr.2).2
    rw [Bool.not_eq_false', List.isEmpty_iff]
    rw [List.eq_nil_iff_forall_not_mem, List.eq_nil_iff_forall_not_mem]
    simp only [this]
  obtain ⟨k', env', h1, h2, h3, h4⟩ := lim_rel turn h hr ⟨k, hk, (ends k).mpr hend⟩
  have hk' : k' ≤ h := by
    by_cases q : k' ≤ k
    · omega
    · have := h4 k (by omega)
      rw [(ends k).mpr hend] at this
      cases this
  refine ⟨env', by rw [ex_whl]; exact h1, ?_⟩
  obtain ⟨⟨s4, s5, s6, s7, he, n4, n5, n6, n7⟩, hL⟩ := h2
  obtain ⟨i1, i2⟩ := stay k' [0] hr.2
  rw [i1] at he
  rw [T_last hh ((ends k').mp h3) hk'] at he
  exact ⟨_, _, _, _, _, he⟩
theorem ev_one {M : Nat → List Md} {C : Cl} (p : PV) (env : En) : ev M C (.lst [(.con p)]) env = some (.vl (.lst [p]) true, env) := by
  have z : ([p] : List PV).length ≤ sizeLine := by show 1 ≤ 2 ^ 24; omega
  rw [ev_lst]
  simp only [evs, ev_con, consumes, consume, z, if_true]
theorem ev_bin_of {M : Nat → List Md} {C : Cl} {o : Bop} {a b : E} {env env1 env2 : En} {x y : Opd} {p q r : PV} {f : Bool} (h1 : ev M C a env = some (x, env1)) (h2 : ev M C b env1 = some (y, env2)) (h3 : deref env2 x = some p) (h4 : deref env2 y = some q) (h5 : binF o p q = some (r, f)) : ev M C (.bin o a b) env = some (.vl r f, env2) := by
  rw [ev_bin, h1]
  simp only [h2, h3, h4, h5]
theorem tab_s1 (hs : h < sizeLine) : ex M0 (run lim dd d) lim [] (.par [2, 3] [(.bin .mul (.lst [(.con .non)]) (.var 0)), (.lst [(.con (.int 0))])]) [some ⟨.int (h : Nat), .ro⟩, some ⟨sv, .ro⟩, none, none, none, none, none, none] = some (.nx [some ⟨.int (h : Nat), .ro⟩, some ⟨sv, .ro⟩, some ⟨.lst (List.replicate h PV.non), .own⟩, some ⟨.lst [.int 0], .own⟩, none, none, none, none]) := by
  rw [ex_par, evs_cons (ev_bin_of (ev_one _ _) (show ev M0 (run lim dd d) (.var 0) [some ⟨.int (h : Nat), .ro⟩, some ⟨sv, .ro⟩, none, none, none, none, none, none] = some (.sl 0, [some ⟨.int (h : Nat), .ro⟩, some ⟨sv, .ro⟩, none, none, none, none, none, none]) by rw [ev_var]; rfl) rfl rfl (mulF_none hs)) (evs_cons (ev_one _ _) evs_nil)]
  rfl
theorem tab_s2 (hh : 0 < h) : ex M0 (run lim dd d) lim [] (.sti 2 (.con (.int 0)) (.con (.int 0))) [some ⟨.int (h : Nat), .ro⟩, some ⟨sv, .ro⟩, some ⟨.lst (List.replicate h PV.non), .own⟩, some ⟨.lst [.int 0], .own⟩, none, none, none, none] = some (.nx [some ⟨.int (h : Nat), .ro⟩, some ⟨sv, .ro⟩, some ⟨tV (TT h Ss 0), .own⟩, some ⟨.lst [.int 0], .own⟩, none, none, none, none]) := by
  have hx : ixN (List.replicate h PV.non).length 0 = some 0 := ixN_nat (i := 0) (by rw [List.length_replicate]; exact hh)
  have ht : (List.replicate h PV.non).set 0 (.int 0) = (TT h Ss 0).map oV := by
    obtain ⟨n, rfl⟩ : ∃ n, h = n + 1 := ⟨h - 1, by omega⟩
    simp [TT, oV, List.replicate_succ]
  simp only [ex_sti, ev_con, consume, deref, setF, hx, ht, Option.map_some, List.getElem?_cons_zero, List.getElem?_cons_succ, List.set_cons_zero, List.set_cons_succ]
  rfl
theorem table_in (hh : 0 < h) (hs : h < sizeLine) (hw : walkF sv = some (natL Ss)) : run lim dd (d + 1) 9 [.int (h : Nat), sv] = some ((tV (TT h Ss h), true), []) := by
  obtain ⟨env', s3, s3', s4', s5', s6', s7', he⟩ := whl9 (d := d) hh hs hw (env := [some ⟨.int (h : Nat), .ro⟩, some ⟨sv, .ro⟩, some ⟨tV (TT h Ss 0), .own⟩, some ⟨.lst [.int 0], .own⟩, none, none, none, none]) ⟨⟨none, none, none, none, rfl, nl_none, nl_none, nl_none, nl_none⟩, fun x => by
    rw [mem_lay, gt_T0]
    simp⟩
  have s4 : ex M0 (run lim dd d) lim [] (.ret (.var 2)) env' = some (.rt (tV (TT h Ss h)) true [some ⟨.int (h : Nat), .ro⟩, some ⟨sv, .ro⟩, none, s3', s4', s5', s6', s7']) := by
    rw [he, ex_ret, ev_var]
    rfl
  exact run_rt (dd9.trans c9_eq) rfl (by
    show exs M0 (run lim dd d) lim [] _ [some ⟨.int (h : Nat), .ro⟩, some ⟨sv, .ro⟩, none, none, none, none, none, none] = _
    rw [exs_nx (tab_s1 hs), exs_nx (tab_s2 hh), exs_nx s3, exs_rt s4]) rfl
end
end Lw
set_option Elab.async false
set_option linter.all false
set_option maxRecDepth 100000
set_option maxHeartbeats 4000000
namespace Lw
set_option autoImplicit false
open PySem hiding run
open L2 L2.Pz
section
variable {d : Nat} {h : Nat} {Ss : List Nat} {sv : PV}
theorem modF {a b : Nat} (hb : 0 < b) : binF .mod (.int (a : Nat)) (.int (b : Nat)) = some (.int ((a % b : Nat) : Int), false) := by
  have hm : (0 : Int) < (b : Int) := by omega
  simp only [binF, intF, hm, decide_true, if_true, Int.natCast_emod]
theorem tV_at {t : Tb} {i : Nat} (hi : i < t.length) : idxF (tV t) (.int (i : Nat)) = some (oV (gt t i)) := oV_at (gt_some hi)
theorem tV_set {t : Tb} {i : Nat} (hi : i < t.length) (o : Option Nat) : setF (tV t) (.int (i : Nat)) (oV o) = some (tV (t.set i o)) := by
  have hx : ixN (t.map oV).length ((i : Nat) : Int) = some i := ixN_nat (by rw [List.length_map]; exact hi)
  simp only [setF, tV, hx, Option.map_some, List.map_set]
theorem put_set {t : Tb} {y w : Nat} (hy : y < t.length) : put w t y = t.set y (if (gt t y).isNone = true then some w else gt t y) := by
  unfold put
  split
  · rename_i v e
    refine tb_ext (by rw [List.length_set]) fun x _ => ?_
    rw [gt_set hy, e]
    split
    · rename_i q; subst q; rw [e]; rfl
    · rfl
  · rename_i e; rw [e]; rfl
def bDi : List S := [.set 7 (.bin .mod (.bi .int [(.bin .add (.var 4) (.var 5))]) (.var 0)), .sti 2 (.var 7) (.ite (.cmp .is_ (.idx (.var 2) (.var 7)) (.con .non)) (.var 3) (.idx (.var 2) (.var 7)))]
theorem oV_non (o : Option Nat) : cmpF .is_ (oV o) .non = some o.isNone := by cases o <;> rfl
theorem dIn (hh : 0 < h) {t : Tb} {u here s : Nat} {s5 s6 s7 : Option Slot} (hl : t.length = h) (n5 : NL s5) (n7 : NL s7) :
    forT M0 (run lim dd d) lim [] (.one 5) bDi (.int (s : Nat)) [some ⟨.int (h : Nat), .ro⟩, some ⟨sv, .ro⟩, some ⟨tV t, .own⟩, some ⟨.int (u : Nat), .fz⟩, some ⟨.int (here : Nat), .fz⟩, s5, s6, s7] =
      some (.nx [some ⟨.int (h : Nat), .ro⟩, some ⟨sv, .ro⟩, some ⟨tV (put u t ((here + s) % h)), .own⟩, some ⟨.int (u : Nat), .fz⟩, some ⟨.int (here : Nat), .fz⟩, some ⟨.int (s : Nat), .fz⟩, s6, some ⟨.int (((here + s) % h : Nat) : Int), .fz⟩]) := by
  have hy : (here + s) % h < t.length := by rw [hl]; exact Nat.mod_lt _ hh
  unfold forT
  rw [show bindTg [] (.one 5) (.int (s : Nat)) [some ⟨.int (h : Nat), .ro⟩, some ⟨sv, .ro⟩, some ⟨tV t, .own⟩, some ⟨.int (u : Nat), .fz⟩, some ⟨.int (here : Nat), .fz⟩, s5, s6, s7] = some [some ⟨.int (h : Nat), .ro⟩, some ⟨sv, .ro⟩, some ⟨tV t, .own⟩, some ⟨.int (u : Nat), .fz⟩, some ⟨.int (here : Nat), .fz⟩, some ⟨.int (s : Nat), .fz⟩, s6, s7] from st_nl rfl n5 _ _]
  have h1 : ev M0 (run lim dd d) (.bin .mod (.bi .int [(.bin .add (.var 4) (.var 5))]) (.var 0)) [some ⟨.int (h : Nat), .ro⟩, some ⟨sv, .ro⟩, some ⟨tV t, .own⟩, some ⟨.int (u : Nat), .fz⟩, some ⟨.int (here : Nat), .fz⟩, some ⟨.int (s : Nat), .fz⟩, s6, s7] = some (.vl (.int (((here + s) % h : Nat) : Int)) false, [some ⟨.int (h : Nat), .ro⟩, some ⟨sv, .ro⟩, some ⟨tV t, .own⟩, some ⟨.int (u : Nat), .fz⟩, some ⟨.int (here : Nat), .fz⟩, some ⟨.int (s : Nat), .fz⟩, s6, s7]) :=
    vl_bin (Pv.of (vl_bi1 (Pv.of (vl_bin (pv_at rfl) (pv_at rfl) rfl)) rfl)) (pv_at rfl) (modF hh)
  refine exs_fl (set_nl h1 (s := s7) rfl n7) ?_
  have h2 : ∀ E : En, E = [some ⟨.int (h : Nat), .ro⟩, some ⟨sv, .ro⟩, some ⟨tV t, .own⟩, some ⟨.int (u : Nat), .fz⟩, some ⟨.int (here : Nat), .fz⟩, some ⟨.int (s : Nat), .fz⟩, s6, some ⟨.int (((here + s) % h : Nat) : Int), .fz⟩] → Pc M0 (run lim dd d) (.ite (.cmp .is_ (.idx (.var 2) (.var 7)) (.con .non)) (.var 3) (.idx (.var 2) (.var 7))) E (oV (if (gt t ((here + s) % h)).isNone = true then some u else gt t ((here + s) % h))) := by
    rintro E rfl
    have hi := vl_idx (M := M0) (C := run lim dd d) (env := [some ⟨.int (h : Nat), .ro⟩, some ⟨sv, .ro⟩, some ⟨tV t, .own⟩, some ⟨.int (u : Nat), .fz⟩, some ⟨.int (here : Nat), .fz⟩, some ⟨.int (s : Nat), .fz⟩, s6, some ⟨.int (((here + s) % h : Nat) : Int), .fz⟩]) (a := .var 2) (i := .var 7) (pv_at rfl) (pv_at rfl) (tV_at hy)
    refine pc_ite (k := (gt t ((here + s) % h)).isNone) (Pv.of (vl_cmp (Pv.of hi) (pv_con _) (oV_non _))) (fun q => ?_) (fun q => ?_)
    · rw [if_pos q]; exact pc_fz rfl
    · rw [if_neg (by rw [q]; decide)]; exact Pc.of hi
  refine exs_fl (sti_pv (h2 _ rfl) (pv_at rfl) rfl (tV_set hy _)) ?_
  rw [exs_nil, put_set hy]
  rfl
def R5 (h : Nat) (sv : PV) (u here : Nat) (t : Tb) (env : En) : Prop :=
  (∃ s5 s6 s7 : Option Slot, env = [some ⟨.int (h : Nat), .ro⟩, some ⟨sv, .ro⟩, some ⟨tV t, .own⟩, some ⟨.int (u : Nat), .fz⟩, some ⟨.int (here : Nat), .fz⟩, s5, s6, s7] ∧ NL s5 ∧ NL s6 ∧ NL s7) ∧ t.length = h
def R6 (h : Nat) (sv : PV) (u : Nat) (t : Tb) (env : En) : Prop :=
  (∃ s4 s5 s6 s7 : Option Slot, env = [some ⟨.int (h : Nat), .ro⟩, some ⟨sv, .ro⟩, some ⟨tV t, .own⟩, some ⟨.int (u : Nat), .fz⟩, s4, s5, s6, s7] ∧ NL s4 ∧ NL s5 ∧ NL s6 ∧ NL s7) ∧ t.length = h
def R7 (h : Nat) (sv : PV) (t : Tb) (env : En) : Prop :=
  (∃ s3 s4 s5 s6 s7 : Option Slot, env = [some ⟨.int (h : Nat), .ro⟩, some ⟨sv, .ro⟩, some ⟨tV t, .own⟩, s3, s4, s5, s6, s7] ∧ NL s3 ∧ NL s4 ∧ NL s5 ∧ NL s6 ∧ NL s7) ∧ t.length = h
theorem dIn5 (hh : 0 < h) (hw : walkF sv = some (natL Ss)) {t : Tb} {u here : Nat} {env : En} (hr : R5 h sv u here t env) :
    ∃ env', ex M0 (run lim dd d) lim [] (.for_ (.one 5) (.var 1) bDi) env = some (.nx env') ∧ R5 h sv u here ((Ss.map fun s => (here + s) % h).foldl (put u) t) env' := by
  obtain ⟨env', h1, h2⟩ := forGo_rel (turn := forT M0 (run lim dd d) lim [] (.one 5) bDi) (l := natL Ss) (R := R5 h sv u here) (step := fun t z => put u t ((here + pnt z) % h)) hr (by
    rintro z hz t env ⟨⟨s5, s6, s7, rfl, n5, n6, n7⟩, hl⟩
    obtain ⟨s, _, rfl⟩ := mem_natL hz
    exact ⟨_, dIn hh hl n5 n7, ⟨_, _, _, rfl, nl_fz _, n6, nl_fz _⟩, by rw [put_len]; exact hl⟩)
  rw [fold_nat (fun t s => put u t ((here + s) % h)) Ss t] at h2
  rw [List.foldl_map]
  refine ⟨env', ?_, h2⟩
  obtain ⟨⟨s5, s6, s7, rfl, n5, n6, n7⟩, hl⟩ := hr
  rw [ex_for_pw (xs := natL Ss) (l := [1]) (pw_var rfl hw) h1]
  rfl
def bDj : List S := [.for_ (.one 5) (.var 1) bDi]
def eLay : E := .lc (.one 6) (.rngI [(.var 0)]) [(.cmp .eq (.idx (.var 2) (.var 6)) (.bin .sub (.var 3) (.con (.int 1))))] (.var 6)
theorem oV_eq (o : Option Nat) (u : Nat) : cmpF .eq (oV o) (.int (u : Nat)) = some (o == some u) := by
  cases o with
  | none => rfl
  | some v =>
    show eqF false (.int (v : Nat)) (.int (u : Nat)) = _
    rw [eqF_int]
    congr 1
    have : (((v : Nat) : Int) == ((u : Nat) : Int)) = (v == u) := by
      rw [Bool.eq_iff_iff]; simp; omega
    rw [this]
    cases q : v == u <;> simp_all
theorem natL_filter (k : Nat → Bool) (l : List Nat) : (natL l).filter (fun z => k (pnt z)) = natL (l.filter k) := by
  induction l with
  | nil => rfl
  | cons x l ih =>
    show ((.int (x : Nat) : PV) :: natL l).filter _ = _
    rw [List.filter_cons, List.filter_cons, ih]
    have : pnt (.int (x : Nat)) = x := rfl
    rw [this]
    split <;> rfl
theorem eLay_ev (hs : h < sizeLine) {t : Tb} {u : Nat} {env : En} (hr : R6 h sv (u + 1) t env) : ev M0 (run lim dd d) eLay env = some (.vl (.lst (natL (lay t u))) true, env) := by
  obtain ⟨⟨s4, s5, s6, s7, rfl, _⟩, hl⟩ := hr
  have hr0 := rngL_nat 0 h
  rw [Nat.sub_zero] at hr0
  have h1 := vl_lc1 (M := M0) (C := run lim dd d) (env := [some ⟨.int (h : Nat), .ro⟩, some ⟨sv, .ro⟩, some ⟨tV t, .own⟩, some ⟨.int ((u + 1 : Nat) : Int), .fz⟩, s4, s5, s6, s7]) (v := 6) (it := .rngI [(.var 0)]) (c := .cmp .eq (.idx (.var 2) (.var 6)) (.bin .sub (.var 3) (.con (.int 1)))) (elt := .var 6)
    (fun z => gt t (pnt z) == some u) (fun z => z) (pw_rng1 (pv_at rfl) (inB_nat hs)) (fun i hi => by cases hi) (show 6 < 8 by decide)
    (by rw [show ((0 : Int)) = ((0 : Nat) : Int) from rfl, hr0]; unfold natL; rw [List.length_map, List.length_range']; omega)
    (fun z hz => by
      rw [show ((0 : Int)) = ((0 : Nat) : Int) from rfl, hr0] at hz
      obtain ⟨x, hx, rfl⟩ := mem_natL hz
      have hx' : x < t.length := by rw [hl]; simpa using hx
      refine Pv.of (vl_cmp (Pv.of (vl_idx (pv_at rfl) (pv_at rfl) (tV_at hx'))) (Pv.of (vl_bin (pv_at rfl) (pv_con _) (r := .int (u : Nat)) (f := false) ?_)) (oV_eq _ _))
      show some (PV.int (((u + 1 : Nat) : Int) - 1), false) = _
      rw [show ((u + 1 : Nat) : Int) - 1 = (u : Nat) by omega])
    (fun z hz q => pc_fz rfl)
  unfold eLay
  rw [h1]
  rw [show ((0 : Int)) = ((0 : Nat) : Int) from rfl, hr0, List.map_id', natL_filter (fun x => gt t x == some u)]
  unfold lay
  rw [hl, List.range_eq_range']
theorem tgt_fold {u : Nat} : ∀ (L : List Nat) (t : Tb), L.foldl (fun t i => (Ss.map fun s => (i + s) % h).foldl (put u) t) t = fil u (tgt h Ss L) t
  | [], _ => rfl
  | i :: L, t => by
    unfold fil tgt
    rw [List.flatMap_cons, List.foldl_append, List.foldl_cons]
    exact tgt_fold L _
theorem dIn4 (hh : 0 < h) (hs : h < sizeLine) (hw : walkF sv = some (natL Ss)) {t : Tb} {u : Nat} {env : En} (hr : R6 h sv (u + 1) t env) :
    ∃ env', ex M0 (run lim dd d) lim [] (.for_ (.one 4) eLay bDj) env = some (.nx env') ∧ R6 h sv (u + 1) (fil (u + 1) (tgt h Ss (lay t u)) t) env' := by
  obtain ⟨env', h1, h2⟩ := forGo_rel (turn := forT M0 (run lim dd d) lim [] (.one 4) bDj) (l := natL (lay t u)) (R := R6 h sv (u + 1)) (step := fun t z => (Ss.map fun s => (pnt z + s) % h).foldl (put (u + 1)) t) hr (by
    rintro z hz t env ⟨⟨s4, s5, s6, s7, rfl, n4, n5, n6, n7⟩, hl⟩
    obtain ⟨i, _, rfl⟩ := mem_natL hz
    obtain ⟨env', h1, ⟨s5', s6', s7', he, n5', n6', n7'⟩, hl'⟩ := dIn5 (d := d) (u := u + 1) (here := i) (t := t) hh hw ⟨⟨s5, s6, s7, rfl, n5, n6, n7⟩, hl⟩
    refine ⟨env', ?_, ⟨_, s5', s6', s7', he, nl_fz _, n5', n6', n7'⟩, hl'⟩
    unfold forT
    rw [show bindTg [] (.one 4) (.int (i : Nat)) [some ⟨.int (h : Nat), .ro⟩, some ⟨sv, .ro⟩, some ⟨tV t, .own⟩, some ⟨.int ((u + 1 : Nat) : Int), .fz⟩, s4, s5, s6, s7] = some [some ⟨.int (h : Nat), .ro⟩, some ⟨sv, .ro⟩, some ⟨tV t, .own⟩, some ⟨.int ((u + 1 : Nat) : Int), .fz⟩, some ⟨.int (i : Nat), .fz⟩, s5, s6, s7] from st_nl rfl n4 _ _]
    exact exs_fl h1 (exs_nil _))
  rw [fold_nat (fun t i => (Ss.map fun s => (i + s) % h).foldl (put (u + 1)) t), tgt_fold] at h2
  exact ⟨env', ex_for_pw (pw_vl (eLay_ev hs hr) rfl) h1, h2⟩
def bDk : List S := [.for_ (.one 4) eLay bDj]
theorem c26_eq : c26 = ⟨[.ro, .ro], 8, [.set 2 (.bin .add (.lst [(.con (.int 0))]) (.bin .mul (.lst [(.con .non)]) (.bin .sub (.var 0) (.con (.int 1))))), .for_ (.one 3) (.rngI [(.con (.int 1)), (.bin .add (.var 0) (.con (.int 1)))]) bDk, .ret (.var 2)]⟩ := rfl
theorem dials (hh : 0 < h) (hs : h + 1 < sizeLine) (hw : walkF sv = some (natL Ss)) : run lim dd (d + 1) 26 [.int (h : Nat), sv] = some ((tV (TT h Ss h), true), []) := by
  have s1 : ex M0 (run lim dd d) lim [] (.set 2 (.bin .add (.lst [(.con (.int 0))]) (.bin .mul (.lst [(.con .non)]) (.bin .sub (.var 0) (.con (.int 1)))))) [some ⟨.int (h : Nat), .ro⟩, some ⟨sv, .ro⟩, none, none, none, none, none, none] = some (.nx [some ⟨.int (h : Nat), .ro⟩, some ⟨sv, .ro⟩, some ⟨tV (TT h Ss 0), .own⟩, none, none, none, none, none]) := by
    refine set_nl (vl_bin (Pv.of (ev_one _ _)) (Pv.of (vl_bin (Pv.of (ev_one _ _)) (Pv.of (vl_bin (pv_at rfl) (pv_con _) (r := .int ((h - 1 : Nat) : Int)) (f := false) ?_)) (mulF_none (by omega)))) (r := tV (TT h Ss 0)) (f := true) ?_) rfl nl_none
    · show some (PV.int (((h : Nat) : Int) - 1), false) = _
      rw [show ((h : Nat) : Int) - 1 = ((h - 1 : Nat) : Int) by omega]
    · have hz : [PV.int 0].length + (List.replicate (h - 1) PV.non).length ≤ sizeLine := by rw [List.length_replicate]; show 1 + _ ≤ _; omega
      show addF (.lst [.int 0]) (.lst (List.replicate (h - 1) PV.non)) = _
      simp only [addF, hz, if_true]
      have : (List.replicate (h - 1) (none : Option Nat)).map oV = List.replicate (h - 1) PV.non := by rw [List.map_replicate]; rfl
      show some (PV.lst (PV.int 0 :: List.replicate (h - 1) PV.non), true) = some (PV.lst (PV.int 0 :: (List.replicate (h - 1) (none : Option Nat)).map oV), true)
      rw [this]
  have hr1 := rngL_nat 1 (h + 1)
  rw [Nat.add_sub_cancel] at hr1
  obtain ⟨env', h1, h2⟩ := forGo_inv (turn := forT M0 (run lim dd d) lim [] (.one 3) bDk) (l := natL (List.range' 1 h)) (done := []) (R := fun done env => R7 h sv (TT h Ss done.length) env) (env := [some ⟨.int (h : Nat), .ro⟩, some ⟨sv, .ro⟩, some ⟨tV (TT h Ss 0), .own⟩, none, none, none, none, none]) ⟨⟨none, none, none, none, none, rfl, nl_none, nl_none, nl_none, nl_none, nl_none⟩, T_len hh _⟩ (by
    rintro z done r env e ⟨⟨s3, s4, s5, s6, s7, rfl, n3, n4, n5, n6, n7⟩, hl⟩
    have hz : z = .int ((done.length + 1 : Nat) : Int) := by
      have e2 : (natL (List.range' 1 h))[done.length]? = some z := by
        rw [List.nil_append] at e
        rw [e, List.getElem?_append_right (Nat.le_refl _), Nat.sub_self]; rfl
      unfold natL at e2
      rw [List.getElem?_map] at e2
      cases q : (List.range' 1 h)[done.length]? with
      | none => rw [q] at e2; cases e2
      | some v =>
        rw [q] at e2
        cases e2
        rw [List.getElem?_range'] at q
        · have hv : v = done.length + 1 := by have := Option.some.inj q; omega
          rw [hv]
        · have := lt_of_some q
          simpa using this
    subst hz
    obtain ⟨env', h1, ⟨s4', s5', s6', s7', he, n4', n5', n6', n7'⟩, hl'⟩ := dIn4 (d := d) (u := done.length) (t := TT h Ss done.length) hh (by omega) hw ⟨⟨s4, s5, s6, s7, rfl, n4, n5, n6, n7⟩, hl⟩
    refine ⟨env', ?_, ?_⟩
    · unfold forT
      rw [show bindTg [] (.one 3) (.int ((done.length + 1 : Nat) : Int)) [some ⟨.int (h : Nat), .ro⟩, some ⟨sv, .ro⟩, some ⟨tV (TT h Ss done.length), .own⟩, s3, s4, s5, s6, s7] = some [some ⟨.int (h : Nat), .ro⟩, some ⟨sv, .ro⟩, some ⟨tV (TT h Ss done.length), .own⟩, some ⟨.int ((done.length + 1 : Nat) : Int), .fz⟩, s4, s5, s6, s7] from st_nl rfl n3 _ _]
      exact exs_fl h1 (exs_nil _)
    · rw [List.length_append, List.length_singleton]
      exact ⟨⟨_, s4', s5', s6', s7', he, nl_fz _, n4', n5', n6', n7'⟩, hl'⟩)
  have s2 : ex M0 (run lim dd d) lim [] (.for_ (.one 3) (.rngI [(.con (.int 1)), (.bin .add (.var 0) (.con (.int 1)))]) bDk) [some ⟨.int (h : Nat), .ro⟩, some ⟨sv, .ro⟩, some ⟨tV (TT h Ss 0), .own⟩, none, none, none, none, none] = some (.nx env') := by
    refine ex_for_pw (xs := natL (List.range' 1 h)) (l := []) ?_ h1
    rw [← hr1]
    exact pw_rng2 (pv_con _) (Pv.of (vl_bin (pv_at rfl) (pv_con _) rfl)) rfl (inB_nat hs)
  rw [List.nil_append] at h2
  rw [show (natL (List.range' 1 h)).length = h by unfold natL; rw [List.length_map, List.length_range']] at h2
  obtain ⟨⟨s3, s4, s5, s6, s7, he, _⟩, _⟩ := h2
  have s3 : ex M0 (run lim dd d) lim [] (.ret (.var 2)) env' = some (.rt (tV (TT h Ss h)) true [some ⟨.int (h : Nat), .ro⟩, some ⟨sv, .ro⟩, none, s3, s4, s5, s6, s7]) := by
    rw [he, ex_ret, ev_var]
    rfl
  exact run_rt ((rfl : dd 26 = c26).trans c26_eq) rfl (by
    show exs M0 (run lim dd d) lim [] _ [some ⟨.int (h : Nat), .ro⟩, some ⟨sv, .ro⟩, none, none, none, none, none, none] = _
    exact exs_fl s1 (exs_fl s2 (exs_rt s3))) rfl
end
end Lw
set_option Elab.async false
set_option linter.all false
set_option maxRecDepth 100000
set_option maxHeartbeats 4000000
namespace Lw
set_option autoImplicit false
open PySem hiding run
open L2 L2.Pz
/-! depths -/
def vals : Tb → Option (List Nat)
  | [] => some []
  | none :: _ => none
  | some v :: t => (vals t).map (v :: ·)
def dpt (t : Tb) : Option Nat := match vals t with
  | some (n :: ns) => some (ns.foldl max n)
  | _ => none
theorem vals_ints : ∀ {t : Tb} {l : List Nat}, vals t = some l → asInts (t.map oV) = some (l.map fun (k : Nat) => (k : Int))
  | [], l, h => by cases h; rfl
  | none :: t, l, h => by cases h
  | some v :: t, l, h => by
    simp only [vals] at h
    cases q : vals t with
    | none => rw [q] at h; cases h
    | some l' =>
      rw [q] at h
      cases h
      show (asInts (t.map oV)).map (((v : Nat) : Int) :: ·) = _
      rw [vals_ints q]; rfl
theorem tV_leaf (t : Tb) : (t.map oV).all leafB = true := by
  induction t with
  | nil => rfl
  | cons x t ih => cases x <;> exact ih
theorem non_in (t : Tb) : inF .non (tV t) = some (vals t).isNone := by
  have h : ∀ t : Tb, (t.map oV).any (fun y => eqP y .non) = (vals t).isNone := fun t => by
    induction t with
    | nil => rfl
    | cons x t ih =>
      cases x with
      | none => rfl
      | some v =>
        show (false || (t.map oV).any (fun y => eqP y .non)) = ((vals t).map (v :: ·)).isNone
        rw [ih]
        cases vals t <;> rfl
  unfold tV
  show (if okP .non = true ∧ okP (.lst (t.map oV)) = true then some ((t.map oV).any fun y => eqP y .non) else none) = _
  rw [if_pos ⟨rfl, okP_lst (tV_leaf t)⟩, h]
theorem max_vals {t : Tb} {l : List Nat} (h : vals t = some l) (hne : t ≠ []) : biF .max [tV t] = some (oV (dpt t), false) := by
  show maxF [.lst (t.map oV)] = _
  unfold maxF
  simp only [vals_ints h]
  unfold dpt
  rw [h]
  cases l with
  | nil =>
    cases t with
    | nil => exact (hne rfl).elim
    | cons x t =>
      cases x with
      | none => cases h
      | some v =>
        simp only [vals] at h
        cases q : vals t with
        | none => rw [q] at h; cases h
        | some l => rw [q] at h; cases h
  | cons n ns => simp only [List.map_cons, oV, maxL_nat]
section
variable {d : Nat} {h : Nat} {Ss : List Nat} {sv : PV}
theorem depth_in {t : Tb} (hne : t ≠ []) : run lim dd (d + 1) 11 [tV t] = some ((oV (dpt t), false), []) := by
  refine run_e (rfl : dd 11 = ⟨[.ro], 1, [.ret (.ite (.cmp .nin (.con .non) (.var 0)) (.bi .max [(.var 0)]) (.con .non))]⟩) rfl ?_ rfl
  show ev M0 (run lim dd d) _ [some ⟨tV t, .ro⟩] = _
  refine vl_ite (k := !(vals t).isNone) (Pv.of (vl_cmp (pv_con _) (pv_at rfl) (by show (inF _ _).map _ = _; rw [non_in]; rfl))) (fun q => ?_) (fun q => ?_)
  · cases e : vals t with
    | none => rw [e] at q; cases q
    | some l => exact vl_bi1 (pv_at rfl) (max_vals e hne)
  · cases e : vals t with
    | none => unfold dpt; rw [e, ev_con]; rfl
    | some l => rw [e] at q; cases q
theorem law_depth (hh : 0 < h) (hs : h + 1 < sizeLine) (hw : walkF sv = some (natL Ss)) : run lim dd (d + 2) 27 [.int (h : Nat), sv] = some ((oV (dpt (TT h Ss h)), false), []) := by
  have hne : TT h Ss h ≠ [] := fun e => by have := T_len (S := Ss) hh h; rw [e] at this; simp at this; omega
  have s1 : ex M0 (run lim dd (d + 1)) lim [] (.set 2 (.call 26 [(.var 0), (.var 1)])) [some ⟨.int (h : Nat), .ro⟩, some ⟨sv, .ro⟩, none] = some (.nx [some ⟨.int (h : Nat), .ro⟩, some ⟨sv, .ro⟩, some ⟨tV (TT h Ss h), .own⟩]) :=
    set_nl (vl_call (ps := [.int (h : Nat), sv]) (pvs_cons (pv_at rfl) (pvs_cons (pv_at rfl) pvs_nil)) rfl (dials hh hs hw)) rfl nl_none
  refine run_rt (rfl : dd 27 = ⟨[.ro, .ro], 3, [.set 2 (.call 26 [(.var 0), (.var 1)]), .ret (.ite (.cmp .inn (.con .non) (.var 2)) (.con .non) (.bi .max [(.var 2)]))]⟩) rfl (exs_fl s1 (exs_rt (ret_vl (env1 := [some ⟨.int (h : Nat), .ro⟩, some ⟨sv, .ro⟩, some ⟨tV (TT h Ss h), .own⟩]) ?_))) rfl
  refine vl_ite (k := (vals (TT h Ss h)).isNone) (Pv.of (vl_cmp (pv_con _) (pv_at rfl) (non_in _))) (fun q => ?_) (fun q => ?_)
  · cases e : vals (TT h Ss h) with
    | none => unfold dpt; rw [e]; exact ev_con _ _
    | some l => rw [e] at q; cases q
  · cases e : vals (TT h Ss h) with
    | none => rw [e] at q; cases q
    | some l => exact vl_bi1 (pv_at rfl) (max_vals e hne)
/-! pairs -/
def okM (m : Nat) : Option Nat → Bool
  | some v => decide (v ≤ m)
  | none => false
def ok2 (h m a b : Nat) : Bool := okM m (dpt (TT h [a, b] h))
def pairV (a b : Nat) : PV := .tup [.int (a : Nat), .int (b : Nat)]
def inP (h m a : Nat) : Option (Nat × Nat) := (List.range' (a + 1) (h - (a + 1))).findSome? fun b => if ok2 h m a b = true then some (a, b) else none
def pairO (h m : Nat) : Option (Nat × Nat) := (List.range' 0 h).findSome? (inP h m)
def pV : Option (Nat × Nat) → PV
  | none => .non
  | some (a, b) => pairV a b
theorem le_ok (v : Option Nat) (m : Nat) (h : v.isNone = false) : cmpF .le (oV v) (.int (m : Nat)) = some (okM m v) := by
  cases v with
  | none => cases h
  | some v => show some (decide _) = some (decide _); congr 1; rw [decide_eq_decide]; omega
theorem oV_isn (o : Option Nat) : cmpF .isn (oV o) .non = some (!o.isNone) := by cases o <;> rfl
def bP : List S := [.set 4 (.call 11 [(.call 9 [(.var 0), (.tup [(.var 2), (.var 3)])])]), .ite (.and (.cmp .isn (.var 4) (.con .non)) (.cmp .le (.var 4) (.var 1))) [.ret (.tup [(.var 2), (.var 3)])] []]
def bQ : List S := [.for_ (.one 3) (.rngI [(.bin .add (.var 2) (.con (.int 1))), (.var 0)]) bP]
theorem c12_eq : c12 = ⟨[.ro, .ro], 5, [.for_ (.one 2) (.rngI [(.var 0)]) bQ, .ret (.con .non)]⟩ := rfl
def Rp (h m : Nat) (a : Option Nat) (env : En) : Prop := ∃ s2 s3 s4 : Option Slot, env = [some ⟨.int (h : Nat), .ro⟩, some ⟨.int (m : Nat), .ro⟩, s2, s3, s4] ∧ NL s2 ∧ NL s3 ∧ NL s4 ∧ ∀ x, a = some x → s2 = some ⟨.int (x : Nat), .fz⟩
def Qp (env : En) : Prop := ∃ s0 s1 s2 s3 s4 : Option Slot, env = [s0, s1, s2, s3, s4]
theorem pairT (hh : 0 < h) (hs : h + 1 < sizeLine) {m a b : Nat} {s3 s4 : Option Slot} (n3 : NL s3) (n4 : NL s4) :
    forT M0 (run lim dd (d + 1)) lim [] (.one 3) bP (.int (b : Nat)) [some ⟨.int (h : Nat), .ro⟩, some ⟨.int (m : Nat), .ro⟩, some ⟨.int (a : Nat), .fz⟩, s3, s4] =
      some (if ok2 h m a b = true then .rt (pairV a b) false [some ⟨.int (h : Nat), .ro⟩, some ⟨.int (m : Nat), .ro⟩, some ⟨.int (a : Nat), .fz⟩, some ⟨.int (b : Nat), .fz⟩, some ⟨oV (dpt (TT h [a, b] h)), .fz⟩] else .nx [some ⟨.int (h : Nat), .ro⟩, some ⟨.int (m : Nat), .ro⟩, some ⟨.int (a : Nat), .fz⟩, some ⟨.int (b : Nat), .fz⟩, some ⟨oV (dpt (TT h [a, b] h)), .fz⟩]) := by
  have hne : TT h [a, b] h ≠ [] := fun e => by have := T_len (S := [a, b]) hh h; rw [e] at this; simp at this; omega
  have z2 : ([.int (a : Nat), .int (b : Nat)] : List PV).length ≤ sizeLine := by show 2 ≤ sizeLine; omega
  unfold forT
  rw [show bindTg [] (.one 3) (.int (b : Nat)) [some ⟨.int (h : Nat), .ro⟩, some ⟨.int (m : Nat), .ro⟩, some ⟨.int (a : Nat), .fz⟩, s3, s4] = some [some ⟨.int (h : Nat), .ro⟩, some ⟨.int (m : Nat), .ro⟩, some ⟨.int (a : Nat), .fz⟩, some ⟨.int (b : Nat), .fz⟩, s4] from st_nl rfl n3 _ _]
  have s1 : ex M0 (run lim dd (d + 1)) lim [] (.set 4 (.call 11 [(.call 9 [(.var 0), (.tup [(.var 2), (.var 3)])])])) [some ⟨.int (h : Nat), .ro⟩, some ⟨.int (m : Nat), .ro⟩, some ⟨.int (a : Nat), .fz⟩, some ⟨.int (b : Nat), .fz⟩, s4] = some (.nx [some ⟨.int (h : Nat), .ro⟩, some ⟨.int (m : Nat), .ro⟩, some ⟨.int (a : Nat), .fz⟩, some ⟨.int (b : Nat), .fz⟩, some ⟨oV (dpt (TT h [a, b] h)), .fz⟩]) :=
    set_nl (vl_call (ps := [tV (TT h [a, b] h)]) (pvs_cons (Pv.of (vl_call (ps := [.int (h : Nat), .tup [.int (a : Nat), .int (b : Nat)]]) (pvs_cons (pv_at rfl) (pvs_cons (Pv.of (vl_tup (pcs_cons (pc_fz rfl) (pcs_cons (pc_fz rfl) pcs_nil)) z2)) pvs_nil)) rfl (table_in (Ss := [a, b]) hh (by omega) rfl))) pvs_nil) rfl (depth_in hne)) rfl n4
  refine exs_fl s1 ?_
  have hc : ev M0 (run lim dd (d + 1)) (.and (.cmp .isn (.var 4) (.con .non)) (.cmp .le (.var 4) (.var 1))) [some ⟨.int (h : Nat), .ro⟩, some ⟨.int (m : Nat), .ro⟩, some ⟨.int (a : Nat), .fz⟩, some ⟨.int (b : Nat), .fz⟩, some ⟨oV (dpt (TT h [a, b] h)), .fz⟩] = some (.vl (.bl (ok2 h m a b)) false, [some ⟨.int (h : Nat), .ro⟩, some ⟨.int (m : Nat), .ro⟩, some ⟨.int (a : Nat), .fz⟩, some ⟨.int (b : Nat), .fz⟩, some ⟨oV (dpt (TT h [a, b] h)), .fz⟩]) := by
    refine vl_and (k := !(dpt (TT h [a, b] h)).isNone) (Pv.of (vl_cmp (pv_at rfl) (pv_con _) (oV_isn _))) (fun q => ?_) (fun q => ?_)
    · exact vl_cmp (pv_at rfl) (pv_at rfl) (le_ok _ _ (by simpa using q))
    · unfold ok2
      cases e : dpt (TT h [a, b] h) with
      | none => exact ⟨rfl, rfl⟩
      | some v => rw [e] at q; cases q
  by_cases q : ok2 h m a b = true
  · rw [if_pos q]
    exact exs_rt (ite_pv (Pv.of hc) (fun _ => exs_rt (ret_vl (vl_tup (pcs_cons (pc_fz rfl) (pcs_cons (pc_fz rfl) pcs_nil)) z2))) (fun q' => (by rw [q'] at q; cases q)))
  · rw [if_neg q]
    exact exs_fl (ite_pv (Pv.of hc) (fun q' => (q q').elim) (fun _ => exs_nil _)) (exs_nil _)
theorem pair_in (hh : 0 < h) (hs : h + 1 < sizeLine) {m : Nat} : run lim dd (d + 2) 12 [.int (h : Nat), .int (m : Nat)] = some ((pV (pairO h m), false), []) := by
  have inn : ∀ a < h, ∀ env, Rp h m (some a) env → (inP h m a = none → ∃ env', exs M0 (run lim dd (d + 1)) lim [] bQ env = some (.nx env') ∧ Rp h m none env') ∧ (∀ p, inP h m a = some p → ∃ env', exs M0 (run lim dd (d + 1)) lim [] bQ env = some (.rt (pV (some p)) false env') ∧ Qp env') := by
    intro a ha env hr
    obtain ⟨i1, i2⟩ := forGo_find (turn := forT M0 (run lim dd (d + 1)) lim [] (.one 3) bP) (R := Rp h m (some a)) (Q := Qp) (k := false) (P := fun z => if ok2 h m a (pnt z) = true then some (pairV a (pnt z)) else none) (l := natL (List.range' (a + 1) (h - (a + 1)))) hr (by
      rintro z hz env ⟨s2, s3, s4, rfl, n2, n3, n4, h2⟩
      obtain ⟨b, _, rfl⟩ := mem_natL hz
      have := h2 a rfl
      subst this
      have := pairT (d := d) hh hs (m := m) (a := a) (b := b) n3 n4
      have pb : pnt (.int (b : Nat)) = b := rfl
      rw [pb]
      refine ⟨fun e => ?_, fun p e => ?_⟩
      · split at e
        · cases e
        · rename_i q
          rw [if_neg q] at this
          exact ⟨_, this, _, _, _, rfl, nl_fz _, nl_fz _, nl_fz _, fun x hx => by cases hx; rfl⟩
      · split at e
        · rename_i q
          cases e
          rw [if_pos q] at this
          exact ⟨_, this, _, _, _, _, _, rfl⟩
        · cases e)
    rw [find_natL] at i1 i2
    obtain ⟨s2, s3, s4, rfl, n2, n3, n4, h2⟩ := hr
    have := h2 a rfl
    subst this
    have hw : Pw M0 (run lim dd (d + 1)) (.rngI [(.bin .add (.var 2) (.con (.int 1))), (.var 0)]) [some ⟨.int (h : Nat), .ro⟩, some ⟨.int (m : Nat), .ro⟩, some ⟨.int (a : Nat), .fz⟩, s3, s4] (natL (List.range' (a + 1) (h - (a + 1)))) [] := by
      rw [← rngL_nat]
      exact pw_rng2 (Pv.of (vl_bin (pv_at rfl) (pv_con _) rfl)) (pv_at rfl) (inB_nat (n := a + 1) (by unfold sizeLine at hs; omega)) (inB_nat (by unfold sizeLine at hs; omega))
    have key : (List.range' (a + 1) (h - (a + 1))).findSome? (fun n => if ok2 h m a (pnt (.int (n : Nat))) = true then some (pairV a (pnt (.int (n : Nat)))) else none) = (inP h m a).map fun p => pairV p.1 p.2 := by
      unfold inP
      rw [List.map_findSome?]
      congr 1
      funext n
      show (if ok2 h m a n = true then some (pairV a n) else none) = Option.map _ (if ok2 h m a n = true then some (a, n) else none)
      split <;> rfl
    rw [key] at i1 i2
    refine ⟨fun e => ?_, fun p e => ?_⟩
    · rw [e] at i1
      obtain ⟨env', e1, s2', s3', s4', e2, m2, m3, m4, _⟩ := i1 rfl
      refine ⟨env', exs_fl (ex_for_pw hw e1) (exs_nil _), s2', s3', s4', e2, m2, m3, m4, fun x hx => by cases hx⟩
    · rw [e] at i2
      obtain ⟨env', e1, e2⟩ := i2 _ rfl
      exact ⟨env', exs_rt (ex_for_ret hw e1), e2⟩
  obtain ⟨o1, o2⟩ := forGo_find (turn := forT M0 (run lim dd (d + 1)) lim [] (.one 2) bQ) (R := Rp h m none) (Q := Qp) (k := false) (P := fun z => (inP h m (pnt z)).map fun p => pairV p.1 p.2) (l := natL (List.range' 0 h)) (env := [some ⟨.int (h : Nat), .ro⟩, some ⟨.int (m : Nat), .ro⟩, none, none, none]) ⟨none, none, none, rfl, nl_none, nl_none, nl_none, fun x hx => by cases hx⟩ (by
    rintro z hz env ⟨s2, s3, s4, rfl, n2, n3, n4, h2⟩
    obtain ⟨a, ha, rfl⟩ := mem_natL hz
    have ha' : a < h := by simpa using ha
    obtain ⟨i1, i2⟩ := inn a ha' [some ⟨.int (h : Nat), .ro⟩, some ⟨.int (m : Nat), .ro⟩, some ⟨.int (a : Nat), .fz⟩, s3, s4] ⟨_, s3, s4, rfl, nl_fz _, n3, n4, fun x hx => by cases hx; rfl⟩
    have hb : bindTg [] (.one 2) (.int (a : Nat)) [some ⟨.int (h : Nat), .ro⟩, some ⟨.int (m : Nat), .ro⟩, s2, s3, s4] = some [some ⟨.int (h : Nat), .ro⟩, some ⟨.int (m : Nat), .ro⟩, some ⟨.int (a : Nat), .fz⟩, s3, s4] := st_nl rfl n2 _ _
    have pb : pnt (.int (a : Nat)) = a := rfl
    rw [pb]
    unfold forT
    rw [hb]
    refine ⟨fun e => ?_, fun p e => ?_⟩
    · cases q : inP h m a with
      | none => exact i1 q
      | some p => rw [q] at e; cases e
    · cases q : inP h m a with
      | none => rw [q] at e; cases e
      | some p' => rw [q] at e; cases e; exact i2 _ q)
  rw [find_natL] at o1 o2
  have key : (List.range' 0 h).findSome? (fun n => (inP h m (pnt (.int (n : Nat)))).map fun p => pairV p.1 p.2) = (pairO h m).map fun p => pairV p.1 p.2 := by
    unfold pairO
    rw [List.map_findSome?]
    rfl
  rw [key] at o1 o2
  have hw : Pw M0 (run lim dd (d + 1)) (.rngI [(.var 0)]) [some ⟨.int (h : Nat), .ro⟩, some ⟨.int (m : Nat), .ro⟩, none, none, none] (natL (List.range' 0 h)) [] := by
    have hr0 := rngL_nat 0 h
    rw [Nat.sub_zero] at hr0
    rw [← hr0]
    exact pw_rng1 (pv_at rfl) (inB_nat (by unfold sizeLine at hs; omega))
  cases q : pairO h m with
  | none =>
    rw [q] at o1
    obtain ⟨env', e1, s2', s3', s4', e2, _⟩ := o1 rfl
    subst e2
    exact run_rt ((rfl : dd 12 = c12).trans c12_eq) rfl (exs_fl (ex_for_pw hw e1) (exs_rt (ret_vl (ev_con _ _)))) rfl
  | some p =>
    rw [q] at o2
    obtain ⟨env', e1, s0, s1, s2', s3', s4', e2⟩ := o2 _ rfl
    subst e2
    exact run_rt ((rfl : dd 12 = c12).trans c12_eq) rfl (exs_rt (ex_for_ret hw e1)) rfl
end
end Lw
set_option Elab.async false
set_option linter.all false
set_option maxRecDepth 100000
set_option maxHeartbeats 4000000
namespace Lw
set_option autoImplicit false
open PySem hiding run
open L2 L2.Pz
section
variable {d : Nat} {h : Nat}
theorem is_int (i : Int) : run lim dd (d + 1) 0 [.int i] = some ((.bl true, false), []) := rfl
theorem whole (v lo hi : Int) : run lim dd (d + 2) 1 [.int v, .int lo, .int hi] = some ((.bl (decide (lo ≤ v) && decide (v ≤ hi)), false), []) := by
  refine run_e (rfl : dd 1 = ⟨[.ro, .ro, .ro], 3, [.ret (.and (.call 0 [(.var 0)]) (.cmp2 .le .le (.var 1) (.var 0) (.var 2)))]⟩) rfl ?_ rfl
  refine vl_and (k := true) (Pv.of (vl_call (ps := [.int v]) (pvs_cons (pv_at rfl) pvs_nil) rfl (is_int v))) (fun _ => ?_) (fun q => by cases q)
  exact vl_cmp2 (pv_at rfl) (pv_at rfl) (pv_at rfl) ⟨_, _, rfl, rfl, rfl⟩
theorem rising2 (a b : Nat) : run lim dd (d + 1) 2 [pairV a b] = some ((.bl (decide (a < b)), false), []) := by
  refine run_e (rfl : dd 2 = ⟨[.ro], 3, [.ret (.bi .all [(.lc (.many [1, 2]) (.zip (.var 0) (.slc (.var 0) [(.con (.int 1))] [])) [] (.cmp .lt (.var 1) (.var 2)))])]⟩) rfl ?_ rfl
  show ev M0 (run lim dd d) _ [some ⟨pairV a b, .ro⟩, none, none] = some (_, [some ⟨pairV a b, .ro⟩, none, none])
  have hz : ev M0 (run lim dd d) (.zip (.var 0) (.slc (.var 0) [(.con (.int 1))] [])) [some ⟨pairV a b, .ro⟩, none, none] = some (.wk [.tup [.int (a : Nat), .int (b : Nat)]] [0], [some ⟨pairV a b, .ro⟩, none, none]) := by rfl
  have hl : ev M0 (run lim dd d) (.lc (.many [1, 2]) (.zip (.var 0) (.slc (.var 0) [(.con (.int 1))] [])) [] (.cmp .lt (.var 1) (.var 2))) [some ⟨pairV a b, .ro⟩, none, none] = some (.vl (.lst [.bl (decide ((a : Int) < (b : Int)))]) true, [some ⟨pairV a b, .ro⟩, none, none]) := by
    have := ev_lc_map (tg := .many [1, 2]) (elt := .cmp .lt (.var 1) (.var 2)) (ifs := []) (fun _ => some (.bl (decide ((a : Int) < (b : Int))))) hz rfl (fun z hz => by
      rw [List.mem_singleton.mp hz]
      rfl) (by show 1 ≤ 2 ^ 24; omega)
    exact this
  rw [show decide (a < b) = decide ((a : Int) < (b : Int)) by rw [decide_eq_decide]; omega]
  exact vl_bi1 (Pv.of hl) (by
    show some (PV.bl ([decide ((a : Int) < (b : Int))].all id), false) = _
    rw [List.all_cons, List.all_nil, Bool.and_true]; rfl)
theorem members2 (a b : Nat) (lo hi : Int) : run lim dd (d + 3) 3 [pairV a b, .int lo, .int hi] = some ((.bl ((decide (lo ≤ a) && decide ((a : Int) ≤ hi)) && (decide (lo ≤ b) && decide ((b : Int) ≤ hi)) && decide (a < b)), false), []) := by
  refine run_e (rfl : dd 3 = ⟨[.ro, .ro, .ro], 4, [.ret (.and (.isi .tuple (.var 0)) (.and (.bi .all [(.lc (.one 3) (.var 0) [] (.call 1 [(.var 3), (.var 1), (.var 2)]))]) (.call 2 [(.var 0)])))]⟩) rfl ?_ rfl
  show ev M0 (run lim dd (d + 2)) _ [some ⟨pairV a b, .ro⟩, some ⟨.int lo, .ro⟩, some ⟨.int hi, .ro⟩, none] = _
  refine vl_and (k := true) (Pv.of (vl_isi (pv_at rfl) rfl)) (fun _ => ?_) (fun q => by cases q)
  have hl := vl_lc0 (M := M0) (C := run lim dd (d + 2)) (env := [some ⟨pairV a b, .ro⟩, some ⟨.int lo, .ro⟩, some ⟨.int hi, .ro⟩, none]) (v := 3) (it := .var 0) (elt := .call 1 [(.var 3), (.var 1), (.var 2)]) (xs := [.int (a : Nat), .int (b : Nat)]) (l := [0])
    (fun z => match z with
      | .int z => .bl (decide (lo ≤ z) && decide (z ≤ hi))
      | _ => .non) (pw_var rfl rfl) (fun i hi => by rw [List.mem_singleton.mp hi]; rfl) (show 3 < 4 by decide) (by show 2 ≤ 2 ^ 24; omega) (fun z hz => by
      have hz : z = .int (a : Nat) ∨ z = .int (b : Nat) := by simpa using hz
      rcases hz with rfl | rfl
      · exact Pc.of (vl_call (ps := [.int (a : Nat), .int lo, .int hi]) (pvs_cons (pv_at rfl) (pvs_cons (pv_at rfl) (pvs_cons (pv_at rfl) pvs_nil))) rfl (whole _ _ _))
      · exact Pc.of (vl_call (ps := [.int (b : Nat), .int lo, .int hi]) (pvs_cons (pv_at rfl) (pvs_cons (pv_at rfl) (pvs_cons (pv_at rfl) pvs_nil))) rfl (whole _ _ _)))
  refine vl_andb (Pv.of (vl_bi1 (Pv.of hl) (r := .bl ((decide (lo ≤ a) && decide ((a : Int) ≤ hi)) && (decide (lo ≤ b) && decide ((b : Int) ≤ hi)))) (f := false) ?_)) (fun _ => vl_call (ps := [pairV a b]) (pvs_cons (pv_at rfl) pvs_nil) rfl (rising2 a b))
  show some (PV.bl ([decide (lo ≤ a) && decide ((a : Int) ≤ hi), decide (lo ≤ b) && decide ((b : Int) ≤ hi)].all id), false) = _
  rw [List.all_cons, List.all_cons, List.all_nil, Bool.and_true]; rfl
theorem fits_clock (v : Int) : run lim dd (d + 3) 4 [.int v] = some ((.bl (decide (1 ≤ v) && decide (v ≤ 400)), false), []) := by
  refine run_e (rfl : dd 4 = ⟨[.ro], 1, [.ret (.call 1 [(.var 0), (.con (.int 1)), (.glo (Str.ofString "MOST") (.int (400)))])]⟩) rfl ?_ rfl
  exact vl_call (ps := [.int v, .int 1, .int 400]) (pvs_cons (pv_at rfl) (pvs_cons (pv_con _) (pvs_cons (pv_glo _ _) pvs_nil))) rfl (whole _ _ _)
theorem need_clock {v : Int} (h1 : 1 ≤ v) (h2 : v ≤ 400) : run lim dd (d + 4) 5 [.int v] = some ((.non, false), []) := by
  have hf := fits_clock (d := d) v
  rw [decide_eq_true h1, decide_eq_true h2] at hf
  exact run_nx (env := [some ⟨.int v, .ro⟩]) (rfl : dd 5 = ⟨[.ro], 1, [.ite (.not (.call 4 [(.var 0)])) [.nev] []]⟩) rfl (exs_fl (ite_pv (k := false) (Pv.of (vl_not (k := true) (Pv.of (vl_call (ps := [.int v]) (pvs_cons (pv_at rfl) pvs_nil) rfl hf)))) (fun q => by cases q) (fun _ => exs_nil _)) (exs_nil _)) rfl
/-- a clock set with two members -/
def cl2 (h a b : Nat) : Bool := decide (b < h) && decide (a < b)
theorem fits2 (h a b : Nat) : run lim dd (d + 4) 6 [.int (h : Nat), pairV a b] = some ((.bl (cl2 h a b), false), []) := by
  have hm := members2 (d := d) a b 0 ((h : Int) - 1)
  rw [show ((decide ((0 : Int) ≤ a) && decide ((a : Int) ≤ (h : Int) - 1)) && (decide ((0 : Int) ≤ b) && decide ((b : Int) ≤ (h : Int) - 1)) && decide (a < b)) = cl2 h a b by
    unfold cl2
    rw [Bool.eq_iff_iff]
    simp only [Bool.and_eq_true, decide_eq_true_eq]
    omega] at hm
  refine run_e (rfl : dd 6 = ⟨[.ro, .ro], 2, [.ret (.call 3 [(.var 1), (.con (.int 0)), (.bin .sub (.var 0) (.con (.int 1)))])]⟩) rfl ?_ rfl
  exact vl_call (ps := [pairV a b, .int 0, .int ((h : Int) - 1)]) (pvs_cons (pv_at rfl) (pvs_cons (pv_con _) (pvs_cons (Pv.of (vl_bin (pv_at rfl) (pv_con _) rfl)) pvs_nil))) rfl hm
theorem need2 {a b : Nat} (hh : 0 < h) (h4 : h ≤ 400) (hc : cl2 h a b = true) : run lim dd (d + 5) 7 [.int (h : Nat), pairV a b] = some ((.non, false), []) := by
  have hf := fits2 (d := d) h a b
  rw [hc] at hf
  exact run_nx (env := [some ⟨.int (h : Nat), .ro⟩, some ⟨pairV a b, .ro⟩]) (rfl : dd 7 = ⟨[.ro, .ro], 2, [.ex (.call 5 [(.var 0)]), .ite (.not (.call 6 [(.var 0), (.var 1)])) [.nev] []]⟩) rfl
    (exs_fl (ex_vl (vl_call (ps := [.int (h : Nat)]) (pvs_cons (pv_at rfl) pvs_nil) rfl (need_clock (by omega) (by omega)))) (exs_fl (ite_pv (k := false) (Pv.of (vl_not (k := true) (Pv.of (vl_call (ps := [.int (h : Nat), pairV a b]) (pvs_cons (pv_at rfl) (pvs_cons (pv_at rfl) pvs_nil)) rfl hf)))) (fun q => by cases q) (fun _ => exs_nil _)) (exs_nil _))) rfl
theorem is_clock_set2 {a b : Nat} (hh : 0 < h) (h4 : h ≤ 400) : run lim dd (d + 5) 8 [.int (h : Nat), pairV a b] = some ((.bl (cl2 h a b), false), []) := by
  exact run_rt (env := [some ⟨.int (h : Nat), .ro⟩, some ⟨pairV a b, .ro⟩]) (rfl : dd 8 = ⟨[.ro, .ro], 2, [.ex (.call 5 [(.var 0)]), .ret (.call 6 [(.var 0), (.var 1)])]⟩) rfl
    (exs_fl (ex_vl (vl_call (ps := [.int (h : Nat)]) (pvs_cons (pv_at rfl) pvs_nil) rfl (need_clock (by omega) (by omega)))) (exs_rt (ret_vl (vl_call (ps := [.int (h : Nat), pairV a b]) (pvs_cons (pv_at rfl) (pvs_cons (pv_at rfl) pvs_nil)) rfl (fits2 h a b))))) rfl
theorem need_depth {v m : Nat} (h1 : 1 ≤ v) (h2 : v ≤ m) : run lim dd (d + 3) 14 [.int (v : Nat), .int (m : Nat)] = some ((.non, false), []) := by
  have hf := whole (d := d) (v : Nat) 1 (m : Nat)
  rw [decide_eq_true (by omega), decide_eq_true (by omega)] at hf
  exact run_nx (env := [some ⟨.int (v : Nat), .ro⟩, some ⟨.int (m : Nat), .ro⟩]) (rfl : dd 14 = ⟨[.ro, .ro], 2, [.ite (.not (.call 1 [(.var 0), (.con (.int 1)), (.var 1)])) [.nev] []]⟩) rfl (exs_fl (ite_pv (k := false) (Pv.of (vl_not (k := true) (Pv.of (vl_call (ps := [.int (v : Nat), .int 1, .int (m : Nat)]) (pvs_cons (pv_at rfl) (pvs_cons (pv_con _) (pvs_cons (pv_at rfl) pvs_nil))) rfl hf)))) (fun q => by cases q) (fun _ => exs_nil _)) (exs_nil _)) rfl
theorem ne_T (hh : 0 < h) {S : List Nat} : TT h S h ≠ [] := fun e => by have := T_len (S := S) hh h; rw [e] at this; simp at this; omega
theorem clock_depth2 {a b : Nat} (hh : 0 < h) (h4 : h ≤ 400) (hc : cl2 h a b = true) : run lim dd (d + 6) 16 [.int (h : Nat), pairV a b] = some ((oV (dpt (TT h [a, b] h)), false), []) := by
  have hs : h < sizeLine := by unfold sizeLine; omega
  exact run_rt (env := [some ⟨.int (h : Nat), .ro⟩, some ⟨pairV a b, .ro⟩]) (rfl : dd 16 = ⟨[.ro, .ro], 2, [.ex (.call 7 [(.var 0), (.var 1)]), .ret (.call 11 [(.call 9 [(.var 0), (.var 1)])])]⟩) rfl
    (exs_fl (ex_vl (vl_call (ps := [.int (h : Nat), pairV a b]) (pvs_cons (pv_at rfl) (pvs_cons (pv_at rfl) pvs_nil)) rfl (need2 hh h4 hc)))
      (exs_rt (ret_vl (vl_call (ps := [tV (TT h [a, b] h)]) (pvs_cons (Pv.of (vl_call (ps := [.int (h : Nat), pairV a b]) (pvs_cons (pv_at rfl) (pvs_cons (pv_at rfl) pvs_nil)) rfl (table_in (Ss := [a, b]) hh hs rfl))) pvs_nil) rfl (depth_in (ne_T hh)))))) rfl
theorem two_steps {m : Nat} (hh : 0 < h) (h4 : h ≤ 60) (hm : 1 ≤ m) (hm2 : m ≤ h) : run lim dd (d + 5) 18 [.int (h : Nat), .int (m : Nat)] = some ((pV (pairO h m), false), []) := by
  have hs : h + 1 < sizeLine := by unfold sizeLine; omega
  refine run_rt (env := [some ⟨.int (h : Nat), .ro⟩, some ⟨.int (m : Nat), .ro⟩]) (rfl : dd 18 = ⟨[.ro, .ro], 2, [.ex (.call 5 [(.var 0)]), .ite (.cmp .gt (.var 0) (.glo (Str.ofString "SEARCHED") (.int (60)))) [.nev] [], .ex (.call 14 [(.var 1), (.var 0)]), .ret (.call 12 [(.var 0), (.var 1)])]⟩) rfl
    (exs_fl (ex_vl (vl_call (ps := [.int (h : Nat)]) (pvs_cons (pv_at rfl) pvs_nil) rfl (need_clock (by omega) (by omega))))
      (exs_fl (ite_pv (k := false) (Pv.of (vl_cmp (pv_at rfl) (pv_glo _ _) ?_)) (fun q => by cases q) (fun _ => exs_nil _))
        (exs_fl (ex_vl (vl_call (ps := [.int (m : Nat), .int (h : Nat)]) (pvs_cons (pv_at rfl) (pvs_cons (pv_at rfl) pvs_nil)) rfl (need_depth hm hm2)))
          (exs_rt (ret_vl (vl_call (ps := [.int (h : Nat), .int (m : Nat)]) (pvs_cons (pv_at rfl) (pvs_cons (pv_at rfl) pvs_nil)) rfl (pair_in hh hs))))))) rfl
  show some (decide ((60 : Int) < (h : Nat))) = some false
  rw [decide_eq_false (by omega)]
end
end Lw
set_option Elab.async false
set_option linter.all false
set_option maxRecDepth 100000
set_option maxHeartbeats 4000000
namespace Lw
set_option autoImplicit false
/-! plain: depths by bits -/
theorem T_mono {h : Nat} (hh : 0 < h) {S : List Nat} {u x v : Nat} (e : gt (TT h S u) x = some v) : ∀ j, gt (TT h S (u + j)) x = some v
  | 0 => e
  | j + 1 => T_keep hh (T_mono hh e j)
theorem T_back {h : Nat} (hh : 0 < h) {S : List Nat} {u x v : Nat} (hv : v ≤ u) : ∀ {j : Nat}, gt (TT h S (u + j)) x = some v → gt (TT h S u) x = some v
  | 0, e => e
  | j + 1, e => by
    rw [show u + (j + 1) = (u + j) + 1 from rfl, gt_T hh] at e
    cases q : gt (TT h S (u + j)) x with
    | some w => rw [q] at e; exact T_back hh hv (j := j) (q.trans e)
    | none =>
      rw [q, Option.none_or] at e
      split at e
      · cases e; omega
      · cases e
theorem okM_all : ∀ (m : Nat) (t : Tb), (∃ l, vals t = some l ∧ ∀ v ∈ l, v ≤ m) ↔ t.all (okM m) = true
  | m, [] => ⟨fun _ => rfl, fun _ => ⟨[], rfl, fun v hv => by cases hv⟩⟩
  | m, none :: t => ⟨fun ⟨l, e, _⟩ => (by cases e), fun e => (by cases e)⟩
  | m, some v :: t => by
    have ih := okM_all m t
    rw [List.all_cons, Bool.and_eq_true, ← ih]
    show (∃ l, (vals t).map (v :: ·) = some l ∧ _) ↔ decide (v ≤ m) = true ∧ _
    rw [decide_eq_true_eq]
    constructor
    · rintro ⟨l, e, hl⟩
      cases q : vals t with
      | none => rw [q] at e; cases e
      | some l' =>
        rw [q] at e
        cases e
        exact ⟨hl v (List.mem_cons_self ..), l', rfl, fun w hw => hl w (List.mem_cons_of_mem _ hw)⟩
    · rintro ⟨hv, l', e, hl⟩
      refine ⟨v :: l', by rw [e]; rfl, fun w hw => ?_⟩
      rcases List.mem_cons.mp hw with rfl | hw
      · exact hv
      · exact hl w hw
theorem fold_max : ∀ (ns : List Nat) (n m : Nat), ns.foldl max n ≤ m ↔ n ≤ m ∧ ∀ v ∈ ns, v ≤ m
  | [], n, m => by simp
  | x :: ns, n, m => by
    rw [List.foldl_cons, fold_max ns]
    simp only [List.mem_cons, forall_eq_or_imp, Nat.max_le, and_assoc]
theorem okM_dpt {m : Nat} {t : Tb} (hne : t ≠ []) : okM m (dpt t) = t.all (okM m) := by
  rw [Bool.eq_iff_iff, ← okM_all]
  unfold dpt
  cases q : vals t with
  | none => simp [okM]
  | some l =>
    cases l with
    | nil =>
      cases t with
      | nil => exact (hne rfl).elim
      | cons x t =>
        cases x with
        | none => cases q
        | some v =>
          simp only [vals] at q
          cases q' : vals t with
          | none => rw [q'] at q; cases q
          | some l => rw [q'] at q; cases q
    | cons n ns =>
      show decide (ns.foldl max n ≤ m) = true ↔ _
      rw [decide_eq_true_eq, fold_max]
      constructor
      · intro ⟨h1, h2⟩
        exact ⟨_, rfl, fun v hv => by
          rcases List.mem_cons.mp hv with rfl | hv
          · exact h1
          · exact h2 v hv⟩
      · rintro ⟨l, e, hl⟩
        cases e
        exact ⟨hl n (List.mem_cons_self ..), fun v hv => hl v (List.mem_cons_of_mem _ hv)⟩
theorem all_gt {p : Option Nat → Bool} {t : Tb} : t.all p = true ↔ ∀ x < t.length, p (gt t x) = true := by
  rw [List.all_eq_true]
  constructor
  · intro h x hx
    refine h _ ?_
    have := gt_some hx
    exact List.mem_of_getElem? this
  · intro h o ho
    obtain ⟨x, hx, rfl⟩ := List.getElem_of_mem ho
    have := h x hx
    have e := gt_some hx
    rw [List.getElem?_eq_getElem hx] at e
    rw [Option.some.inj e]
    exact this
/-- all hours within m steps -/
theorem dpt_ok {h : Nat} (hh : 0 < h) {S : List Nat} {m : Nat} (hm : m ≤ h) : okM m (dpt (TT h S h)) = true ↔ ∀ x < h, gt (TT h S m) x ≠ none := by
  rw [okM_dpt (ne_T hh), all_gt, T_len hh]
  obtain ⟨j, rfl⟩ : ∃ j, h = m + j := ⟨h - m, by omega⟩
  constructor
  · intro H x hx e
    have := H x hx
    cases q : gt (TT (m + j) S (m + j)) x with
    | none => rw [q] at this; cases this
    | some v =>
      rw [q] at this
      have hv : v ≤ m := of_decide_eq_true this
      rw [T_back hh hv q] at e
      cases e
  · intro H x hx
    cases q : gt (TT (m + j) S m) x with
    | none => exact (H x hx q).elim
    | some v => rw [T_mono hh q j]; exact decide_eq_true (T_le hh q)
theorem rch_step {h : Nat} (hh : 0 < h) {S : List Nat} {k x : Nat} : gt (TT h S (k + 1)) x ≠ none ↔ gt (TT h S k) x ≠ none ∨ ∃ i, gt (TT h S k) i ≠ none ∧ ∃ s ∈ S, (i + s) % h = x := by
  constructor
  · intro e
    by_cases q : gt (TT h S k) x = none
    · right
      rw [gt_T hh, q, Option.none_or] at e
      by_cases q' : x ∈ tgt h S (lay (TT h S k) k)
      · obtain ⟨i, hi, s, hs, e2⟩ := mem_tgt.mp q'
        exact ⟨i, by rw [mem_lay.mp hi]; simp, s, hs, e2⟩
      · rw [if_neg q'] at e; exact (e rfl).elim
    · exact Or.inl q
  · rintro (q | ⟨i, hi, s, hs, rfl⟩)
    · cases e : gt (TT h S k) x with
      | none => exact (q e).elim
      | some v => rw [T_keep hh e]; simp
    · cases e : gt (TT h S k) i with
      | none => exact (hi e).elim
      | some j =>
        obtain ⟨v, _, e2⟩ := T_closed hh (T_keep hh e) (by have := T_le hh e; omega) hs
        rw [e2]; simp
/-! bits -/
def rotM (h s M : Nat) : Nat := Nat.mod (Nat.lor (Nat.shiftLeft M s) (Nat.shiftRight M (Nat.sub h s))) (Nat.pow 2 h)
def ballM (h a b : Nat) : Nat → Nat
  | 0 => 1
  | k + 1 => Nat.lor (ballM h a b k) (Nat.lor (rotM h a (ballM h a b k)) (rotM h b (ballM h a b k)))
theorem rotM_bit {h s M x : Nat} (hs : s < h) (hM : ∀ y, h ≤ y → M.testBit y = false) : (rotM h s M).testBit x = true ↔ ∃ i, M.testBit i = true ∧ (i + s) % h = x := by
  have e : (rotM h s M).testBit x = (decide (x < h) && ((decide (x ≥ s) && M.testBit (x - s)) || M.testBit (h - s + x))) := by
    show ((M <<< s ||| M >>> (h - s)) % 2 ^ h).testBit x = _
    rw [Nat.testBit_mod_two_pow, Nat.testBit_or, Nat.testBit_shiftLeft, Nat.testBit_shiftRight]
  rw [e]
  simp only [Bool.and_eq_true, Bool.or_eq_true, decide_eq_true_eq]
  have lt : ∀ i, M.testBit i = true → i < h := fun i hi => by
    apply Classical.byContradiction
    intro q
    rw [hM i (by omega)] at hi
    cases hi
  constructor
  · rintro ⟨hx, ⟨h1, h2⟩ | h2⟩
    · refine ⟨x - s, h2, ?_⟩
      rw [Nat.sub_add_cancel h1, Nat.mod_eq_of_lt hx]
    · have := lt _ h2
      refine ⟨h - s + x, h2, ?_⟩
      rw [show h - s + x + s = x + h by omega, Nat.add_mod_right, Nat.mod_eq_of_lt hx]
  · rintro ⟨i, hi, rfl⟩
    have := lt i hi
    refine ⟨Nat.mod_lt _ (by omega), ?_⟩
    by_cases q : i + s < h
    · left
      rw [Nat.mod_eq_of_lt q]
      exact ⟨by omega, by rw [Nat.add_sub_cancel]; exact hi⟩
    · right
      have : (i + s) % h = i + s - h := by rw [Nat.mod_eq_sub_mod (by omega), Nat.mod_eq_of_lt (by omega)]
      rw [this, show h - s + (i + s - h) = i by omega]
      exact hi
theorem ballM_bit {h a b : Nat} (ha : a < h) (hb : b < h) : ∀ {k x : Nat}, (ballM h a b k).testBit x = true ↔ gt (TT h [a, b] k) x ≠ none
  | 0, x => by
    rw [gt_T0]
    show (1 : Nat).testBit x = true ↔ _
    rw [Nat.testBit_one_eq_true_iff_self_eq_zero]
    split <;> simp_all
  | k + 1, x => by
    have hh : 0 < h := by omega
    have ih : ∀ x, _ := fun x => ballM_bit ha hb (k := k) (x := x)
    have hM : ∀ y, h ≤ y → (ballM h a b k).testBit y = false := fun y hy => by
      cases q : (ballM h a b k).testBit y with
      | false => rfl
      | true =>
        cases e : gt (TT h [a, b] k) y with
        | none => exact ((ih y).mp q e).elim
        | some v => have := gt_lt e; rw [T_len hh] at this; omega
    rw [rch_step hh]
    show (ballM h a b k ||| (rotM h a (ballM h a b k) ||| rotM h b (ballM h a b k))).testBit x = true ↔ _
    rw [Nat.testBit_or, Nat.testBit_or, Bool.or_eq_true, Bool.or_eq_true, rotM_bit ha hM, rotM_bit hb hM, ih]
    simp only [ih]
    constructor
    · rintro (h1 | ⟨i, h1, h2⟩ | ⟨i, h1, h2⟩)
      · exact Or.inl h1
      · exact Or.inr ⟨i, h1, a, by simp, h2⟩
      · exact Or.inr ⟨i, h1, b, by simp, h2⟩
    · rintro (h1 | ⟨i, h1, s, hs, h2⟩)
      · exact Or.inl h1
      · have hs : s = a ∨ s = b := by simpa using hs
        rcases hs with rfl | rfl
        · exact Or.inr (Or.inl ⟨i, h1, h2⟩)
        · exact Or.inr (Or.inr ⟨i, h1, h2⟩)
def ok2B (h m a b : Nat) : Bool := Nat.beq (ballM h a b m) (Nat.sub (Nat.pow 2 h) 1)
theorem ok2_B {h m a b : Nat} (hm : m ≤ h) (ha : a < h) (hb : b < h) : ok2 h m a b = ok2B h m a b := by
  have hh : 0 < h := by omega
  rw [Bool.eq_iff_iff]
  unfold ok2 ok2B
  rw [dpt_ok hh hm, Nat.beq_eq]
  show _ ↔ ballM h a b m = 2 ^ h - 1
  constructor
  · intro H
    apply Nat.eq_of_testBit_eq
    intro x
    rw [Nat.testBit_two_pow_sub_one, Bool.eq_iff_iff, decide_eq_true_eq, ballM_bit ha hb]
    constructor
    · intro q
      cases e : gt (TT h [a, b] m) x with
      | none => exact (q e).elim
      | some v => have := gt_lt e; rw [T_len hh] at this; exact this
    · exact H x
  · intro e x hx
    rw [← ballM_bit ha hb, e, Nat.testBit_two_pow_sub_one, decide_eq_true hx]
def inB2 (h m a : Nat) : Option (Nat × Nat) := (List.range' (a + 1) (h - (a + 1))).findSome? fun b => if ok2B h m a b = true then some (a, b) else none
def pairB (h m : Nat) : Option (Nat × Nat) := (List.range' 0 h).findSome? (inB2 h m)
theorem find_congr {α β : Type} {f g : α → Option β} : ∀ {l : List α}, (∀ x ∈ l, f x = g x) → l.findSome? f = l.findSome? g
  | [], _ => rfl
  | x :: l, h => by
    rw [List.findSome?_cons, List.findSome?_cons, h x (List.mem_cons_self ..), find_congr fun y hy => h y (List.mem_cons_of_mem _ hy)]
theorem pair_B {h m : Nat} (hm : m ≤ h) : pairO h m = pairB h m := by
  unfold pairO pairB
  refine find_congr fun a ha => ?_
  unfold inP inB2
  have ha' : a < h := by simpa using ha
  refine find_congr fun b hb => ?_
  rw [ok2_B hm ha' (by have := List.mem_range'_1.mp hb; omega)]
/-! the greatest clocks -/
def gr (m : Nat) : Nat := if m = 1 then 3 else m * (m + 4) / 3 + 1
def tri (m : Nat) : Nat := (m + 1) * (m + 2) / 2
def noneB (m : Nat) : Nat → Nat → Bool
  | _, 0 => true
  | h, n + 1 => (pairB h m).isNone && noneB m (h + 1) n
def grB (m : Nat) : Bool := (pairB (gr m) m).isSome && noneB m (gr m + 1) (tri m - gr m)
theorem noneB_at {m : Nat} : ∀ {n h : Nat}, noneB m h n = true → ∀ k, h ≤ k → k < h + n → pairB k m = none
  | 0, h, _, k, h1, h2 => by omega
  | n + 1, h, e, k, h1, h2 => by
    unfold noneB at e
    rw [Bool.and_eq_true] at e
    by_cases q : k = h
    · subst q; exact Option.isNone_iff_eq_none.mp e.1
    · exact noneB_at e.2 k (by omega) (by omega)
theorem grB_all : ((List.range' 1 8).all grB) = true := by decide +kernel
end Lw
set_option Elab.async false
set_option linter.all false
set_option maxRecDepth 100000
set_option maxHeartbeats 4000000
namespace Lw
set_option autoImplicit false
open PySem hiding run
open L2 L2.Pz
section
variable {d : Nat} {h : Nat}
theorem rep_sub : ∀ (k a : Nat), Nat.repeat (fun a : Nat => a - 1) k a = a - k
  | 0, a => rfl
  | k + 1, a => by
    show Nat.repeat (fun a : Nat => a - 1) k a - 1 = _
    rw [rep_sub k a]; omega
theorem fdivF {a b : Nat} (hb : 0 < b) (hl : b < 2 ^ 64) : binF .fdiv (.int (a : Nat)) (.int (b : Nat)) = some (.int ((a / b : Nat) : Int), false) := by
  have h1 : decide ((0 : Int) < (b : Nat)) = true := decide_eq_true (by omega)
  have h2 : decide (((b : Nat) : Int).natAbs.log2 < 9000) = true := by
    refine decide_eq_true ?_
    rw [Int.natAbs_natCast]
    have : b.log2 < 64 := (Nat.log2_lt (by omega)).mpr hl
    omega
  show (if (decide ((0 : Int) < (b : Nat)) && decide (((b : Nat) : Int).natAbs.log2 < 9000)) = true then some (PV.int (((a : Nat) : Int) / ((b : Nat) : Int)), false) else none) = _
  simp only [h1, h2, Bool.and_self, if_true, Int.natCast_ediv]
theorem mulF_nat {a b : Nat} (hb : b < 2 ^ 64) : binF .mul (.int (a : Nat)) (.int (b : Nat)) = some (.int ((a * b : Nat) : Int), false) := by
  have h1 : mulOk (a : Nat) (b : Nat) = true := by
    have e1 : decide (-(2 ^ 64) < ((b : Nat) : Int)) = true := decide_eq_true (by omega)
    have e2 : decide (((b : Nat) : Int) < 2 ^ 64) = true := decide_eq_true (by omega)
    unfold mulOk
    rw [e1, e2, Bool.and_self, Bool.or_true]
  show (if mulOk (a : Nat) (b : Nat) = true then some (PV.int (((a : Nat) : Int) * ((b : Nat) : Int)), false) else none) = _
  rw [if_pos h1, Int.natCast_mul]
def cG : E := .cmp .is_ (.call 12 [(.var 1), (.var 0)]) (.con .non)
def bG : List S := [.set 1 (.bin .sub (.var 1) (.con (.int 1)))]
theorem c13_eq : c13 = ⟨[.ro], 2, [.set 1 (.bin .fdiv (.bin .mul (.bin .add (.var 0) (.con (.int 1))) (.bin .add (.var 0) (.con (.int 2)))) (.con (.int 2))), .whl cG bG, .ret (.var 1)]⟩ := rfl
theorem pV_is (o : Option (Nat × Nat)) : cmpF .is_ (pV o) .non = some o.isNone := by
  cases o with
  | none => rfl
  | some p => rfl
theorem subF1 {a : Nat} (ha : 0 < a) : binF .sub (.int (a : Nat)) (.int 1) = some (.int ((a - 1 : Nat) : Int), false) := by
  show some (PV.int (((a : Nat) : Int) - 1), false) = _
  rw [show ((a : Nat) : Int) - 1 = ((a - 1 : Nat) : Int) by omega]
theorem g_s2 {m a : Nat} (ha : 0 < a) : exs M0 (run lim dd (d + 2)) lim [] bG [some ⟨.int (m : Nat), .ro⟩, some ⟨.int (a : Nat), .fz⟩] = some (.nx [some ⟨.int (m : Nat), .ro⟩, some ⟨.int ((a - 1 : Nat) : Int), .fz⟩]) :=
  exs_fl (set_nl (vl_bin (pv_at rfl) (pv_con _) (subF1 ha)) rfl (nl_fz _)) (exs_nil _)
theorem g_c {m a : Nat} (ha : 0 < a) (hs : a + 1 < sizeLine) : ev M0 (run lim dd (d + 2)) cG [some ⟨.int (m : Nat), .ro⟩, some ⟨.int (a : Nat), .fz⟩] = some (.vl (.bl (pairO a m).isNone) false, [some ⟨.int (m : Nat), .ro⟩, some ⟨.int (a : Nat), .fz⟩]) :=
  vl_cmp (Pv.of (vl_call (ps := [.int (a : Nat), .int (m : Nat)]) (pvs_cons (pv_at rfl) (pvs_cons (pv_at rfl) pvs_nil)) rfl (pair_in ha hs))) (pv_con _) (pV_is _)
def Rg (m g a : Nat) (env : En) : Prop := env = [some ⟨.int (m : Nat), .ro⟩, some ⟨.int (a : Nat), .fz⟩] ∧ g ≤ a ∧ a ≤ tri m
theorem g_turn {m g : Nat} (hg : 0 < g) (ht : tri m < 400) (h1 : pairO g m ≠ none) (a : Nat) (env : En) (hr : Rg m g a env) : if (pairO a m).isNone = true then ∃ env', whlT M0 (run lim dd (d + 2)) lim [] cG bG env = some (.inl env') ∧ Rg m g (a - 1) env' else ∃ env', whlT M0 (run lim dd (d + 2)) lim [] cG bG env = some (.inr (.nx env')) ∧ Rg m g a env' := by
  obtain ⟨he, ga, at'⟩ := hr
  have ha : 0 < a := Nat.lt_of_lt_of_le hg ga
  have hs : a + 1 < sizeLine := Nat.lt_of_le_of_lt (Nat.succ_le_succ at') (Nat.lt_of_lt_of_le (Nat.succ_lt_succ ht) (by unfold sizeLine; omega))
  have hc := g_c (d := d) (m := m) ha hs
  by_cases q : (pairO a m).isNone = true
  · rw [if_pos q]
    rw [q] at hc
    have ne : a ≠ g := fun e => h1 (by rw [← e]; exact Option.isNone_iff_eq_none.mp q)
    exact ⟨_, by rw [he]; exact wht_go (Pv.of hc) (g_s2 ha), rfl, by clear hs hc ht; omega, by clear hs hc ht; omega⟩
  · rw [if_neg q]
    rw [show (pairO a m).isNone = false from Bool.not_eq_true _ ▸ q] at hc
    exact ⟨env, by rw [he]; exact wht_stop (Pv.of hc), he, ga, at'⟩
theorem greatest_in {m g : Nat} (hg : 0 < g) (hgt : g ≤ tri m) (ht : tri m < 400) (h1 : pairO g m ≠ none) (h2 : ∀ k, g < k → k ≤ tri m → pairO k m = none) : run lim dd (d + 3) 13 [.int (m : Nat)] = some ((.int (g : Nat), false), []) := by
  have hm : m + 2 < 2 ^ 64 := by
    apply Classical.byContradiction
    intro q
    have : 1000 * 2 ≤ (m + 1) * (m + 2) := Nat.mul_le_mul (by omega) (by omega)
    unfold tri at ht
    omega
  have s1 : ex M0 (run lim dd (d + 2)) lim [] (.set 1 (.bin .fdiv (.bin .mul (.bin .add (.var 0) (.con (.int 1))) (.bin .add (.var 0) (.con (.int 2)))) (.con (.int 2)))) [some ⟨.int (m : Nat), .ro⟩, none] = some (.nx [some ⟨.int (m : Nat), .ro⟩, some ⟨.int (tri m : Nat), .fz⟩]) :=
    set_nl (vl_bin (Pv.of (vl_bin (Pv.of (vl_bin (pv_at rfl) (pv_con _) rfl)) (Pv.of (vl_bin (pv_at rfl) (pv_con _) rfl)) (mulF_nat (a := m + 1) (b := m + 2) hm))) (pv_con _) (fdivF (b := 2) (by omega) (by omega))) rfl nl_none
  obtain ⟨k, env', e1, ⟨e2, e3, e4⟩, e5, _⟩ := lim_rel (c := fun a => (pairO a m).isNone) (g := fun a => a - 1) (g_turn (d := d) hg ht h1) (tri m - g) (a := tri m) ⟨rfl, hgt, Nat.le_refl _⟩ ⟨tri m - g, Nat.le_refl _, by
    rw [rep_sub, show tri m - (tri m - g) = g by omega]
    cases q : pairO g m with
    | none => exact (h1 q).elim
    | some p => rfl⟩
  rw [rep_sub] at e2 e3 e4 e5
  have eg : tri m - k = g := by
    apply Classical.byContradiction
    intro ne
    rw [h2 _ (by omega) e4] at e5
    cases e5
  rw [eg] at e2
  subst e2
  refine run_rt ((rfl : dd 13 = c13).trans c13_eq) rfl (exs_fl s1 (exs_fl (by rw [ex_whl]; exact e1) (exs_rt (env1 := [some ⟨.int (m : Nat), .ro⟩, some ⟨.int (g : Nat), .fz⟩]) (p := .int (g : Nat)) (k := false) ?_))) rfl
  rw [ex_ret, ev_var]
  rfl
theorem gr_at {m : Nat} (h1 : 1 ≤ m) (h8 : m ≤ 8) : pairO (gr m) m ≠ none ∧ (∀ k, gr m < k → k ≤ tri m → pairO k m = none) ∧ 0 < gr m ∧ gr m ≤ tri m ∧ tri m < 400 ∧ m ≤ gr m ∧ gr m ≤ 33 := by
  have hm : m = 1 ∨ m = 2 ∨ m = 3 ∨ m = 4 ∨ m = 5 ∨ m = 6 ∨ m = 7 ∨ m = 8 := by omega
  have sm : 0 < gr m ∧ gr m ≤ tri m ∧ tri m < 400 ∧ m ≤ gr m ∧ gr m ≤ 33 := by
    rcases hm with rfl | rfl | rfl | rfl | rfl | rfl | rfl | rfl <;> decide
  have hb : grB m = true := by
    have := List.all_eq_true.mp grB_all m (by rw [List.mem_range'_1]; omega)
    exact this
  unfold grB at hb
  rw [Bool.and_eq_true] at hb
  refine ⟨fun e => ?_, fun k hk hk2 => ?_, sm⟩
  · rw [pair_B sm.2.2.2.1] at e
    rw [e] at hb
    cases hb.1
  · rw [pair_B (by omega)]
    exact noneB_at hb.2 k (by omega) (by omega)
theorem greatest {m : Nat} (h1 : 1 ≤ m) (h8 : m ≤ 8) : run lim dd (d + 4) 19 [.int (m : Nat)] = some ((.int (gr m : Nat), false), []) := by
  obtain ⟨g1, g2, g3, g4, g5, _⟩ := gr_at h1 h8
  exact run_rt (env := [some ⟨.int (m : Nat), .ro⟩]) (rfl : dd 19 = ⟨[.ro], 1, [.ex (.call 14 [(.var 0), (.glo (Str.ofString "MOST_DEPTH") (.int (8)))]), .ret (.call 13 [(.var 0)])]⟩) rfl
    (exs_fl (ex_vl (vl_call (ps := [.int (m : Nat), .int ((8 : Nat) : Int)]) (pvs_cons (pv_at rfl) (pvs_cons (pv_glo _ _) pvs_nil)) rfl (need_depth h1 h8)))
      (exs_rt (ret_vl (vl_call (ps := [.int (m : Nat)]) (pvs_cons (pv_at rfl) pvs_nil) rfl (greatest_in g3 g4 g5 g1 g2))))) rfl
def pcV (m : Nat) : PV := .tup [.int ((2 * m * m + 2 * m + 1 : Nat) : Int), pairV m (m + 1)]
theorem perfect {m : Nat} (h1 : 1 ≤ m) (h13 : m ≤ 13) : run lim dd (d + 4) 20 [.int (m : Nat)] = some ((pcV m, false), []) := by
  have z2 : ∀ x y : PV, ([x, y] : List PV).length ≤ sizeLine := fun x y => by show 2 ≤ 2 ^ 24; omega
  exact run_rt (env := [some ⟨.int (m : Nat), .fz⟩]) (rfl : dd 20 = ⟨[.val], 1, [.ex (.call 14 [(.var 0), (.glo (Str.ofString "MOST_BOTH") (.int (13)))]), .ret (.tup [(.bin .add (.bin .add (.bin .mul (.bin .mul (.con (.int 2)) (.var 0)) (.var 0)) (.bin .mul (.con (.int 2)) (.var 0))) (.con (.int 1))), (.tup [(.var 0), (.bin .add (.var 0) (.con (.int 1)))])])]⟩) rfl
    (exs_fl (ex_vl (vl_call (ps := [.int (m : Nat), .int ((13 : Nat) : Int)]) (pvs_cons (pv_at rfl) (pvs_cons (pv_glo _ _) pvs_nil)) rfl (need_depth h1 h13)))
      (exs_rt (ret_vl (vl_tup (pcs_cons (Pc.of (vl_bin (Pv.of (vl_bin (Pv.of (vl_bin (Pv.of (vl_bin (pv_con _) (pv_at rfl) (mulF_nat (a := 2) (b := m) (by omega)))) (pv_at rfl) (mulF_nat (a := 2 * m) (b := m) (by omega)))) (Pv.of (vl_bin (pv_con _) (pv_at rfl) (mulF_nat (a := 2) (b := m) (by omega)))) rfl)) (pv_con _) rfl)) (pcs_cons (Pc.of (vl_tup (pcs_cons (pc_fz rfl) (pcs_cons (Pc.of (vl_bin (pv_at rfl) (pv_con _) rfl)) pcs_nil)) (z2 _ _))) pcs_nil)) (z2 _ _))))) rfl
end
end Lw
set_option Elab.async false
set_option linter.all false
set_option maxRecDepth 100000
set_option maxHeartbeats 4000000
namespace Lw
set_option autoImplicit false
open PySem hiding run
open L2 L2.Pz
/-! all pairs' depths -/
def rowD (h a : Nat) : List (Option Nat) := (List.range' (a + 1) (h - (a + 1))).map fun b => dpt (TT h [a, b] h)
def allD (h : Nat) : List (Option Nat) := (List.range' 0 h).flatMap (rowD h)
theorem pairO_some {h m a b : Nat} (e : pairO h m = some (a, b)) : cl2 h a b = true ∧ ok2 h m a b = true := by
  unfold pairO at e
  obtain ⟨x, hx, e⟩ := List.exists_of_findSome?_eq_some e
  unfold inP at e
  obtain ⟨y, hy, e⟩ := List.exists_of_findSome?_eq_some e
  split at e
  · rename_i q
    cases e
    have h1 := List.mem_range'_1.mp hy
    refine ⟨?_, q⟩
    unfold cl2
    rw [decide_eq_true (by omega), decide_eq_true (by omega)]; rfl
  · cases e
theorem pairO_none {h m : Nat} : (pairO h m).isNone = ((allD h).filter (okM m)).isEmpty := by
  rw [Bool.eq_iff_iff, Option.isNone_iff_eq_none, List.isEmpty_iff, List.filter_eq_nil_iff]
  unfold pairO allD
  rw [List.findSome?_eq_none_iff]
  constructor
  · intro H o ho
    obtain ⟨a, ha, ho⟩ := List.mem_flatMap.mp ho
    obtain ⟨b, hb, rfl⟩ := List.mem_map.mp ho
    have := H a ha
    unfold inP at this
    rw [List.findSome?_eq_none_iff] at this
    have := this b hb
    split at this
    · cases this
    · rename_i q; exact q
  · intro H a ha
    unfold inP
    rw [List.findSome?_eq_none_iff]
    intro b hb
    rw [if_neg]
    exact H _ (List.mem_flatMap.mpr ⟨a, ha, List.mem_map.mpr ⟨b, hb, rfl⟩⟩)
def unO : PV → Option Nat
  | .int i => some i.toNat
  | _ => none
theorem un_oV (o : Option Nat) : unO (oV o) = o := by cases o <;> rfl
theorem filt_oV (k : Option Nat → Bool) (L : List (Option Nat)) : (L.map oV).filter (fun z => k (unO z)) = (L.filter k).map oV := by
  induction L with
  | nil => rfl
  | cons x L ih =>
    rw [List.map_cons, List.filter_cons, List.filter_cons, ih, un_oV]
    split <;> rfl
section
variable {d : Nat} {h : Nat}
def eRow : E := .lc (.one 7) (.rngI [(.bin .add (.var 3) (.con (.int 1))), (.var 0)]) [] (.call 27 [(.var 0), (.tup [(.var 3), (.var 7)])])
def bD : List S := [.set 2 (.bin .add (.var 2) eRow)]
def sz2 (x y : PV) : ([x, y] : List PV).length ≤ sizeLine := by show 2 ≤ 2 ^ 24; omega
theorem lt_sz {n : Nat} (h : n ≤ 10000) : n < sizeLine := by unfold sizeLine; omega
theorem inB_s {n : Nat} (h : n ≤ 10000) : inB (n : Int) = true := inB_nat (by omega)
theorem rowD_len (a : Nat) : (rowD h a).length ≤ h := by unfold rowD; rw [List.length_map, List.length_range']; omega
theorem row_ev (hh : 0 < h) (h4 : h ≤ 60) {m a : Nat} (ha : a < h) {s2 s4 s5 s6 s7 : Option Slot} : ev M0 (run lim dd (d + 2)) eRow [some ⟨.int (h : Nat), .ro⟩, some ⟨.int (m : Nat), .ro⟩, s2, some ⟨.int (a : Nat), .fz⟩, s4, s5, s6, s7] = some (.vl (.lst ((rowD h a).map oV)) true, [some ⟨.int (h : Nat), .ro⟩, some ⟨.int (m : Nat), .ro⟩, s2, some ⟨.int (a : Nat), .fz⟩, s4, s5, s6, s7]) := by
  have hw : Pw M0 (run lim dd (d + 2)) (.rngI [(.bin .add (.var 3) (.con (.int 1))), (.var 0)]) [some ⟨.int (h : Nat), .ro⟩, some ⟨.int (m : Nat), .ro⟩, s2, some ⟨.int (a : Nat), .fz⟩, s4, s5, s6, s7] (natL (List.range' (a + 1) (h - (a + 1)))) [] := by
    rw [← rngL_nat]
    exact pw_rng2 (Pv.of (vl_bin (pv_at rfl) (pv_con _) rfl)) (pv_at rfl) (inB_s (n := a + 1) (by omega)) (inB_s (by omega))
  have := vl_lc0 (fun z => oV (dpt (TT h [a, pnt z] h))) hw (fun i hi => by cases hi) (v := 7) (elt := .call 27 [(.var 0), (.tup [(.var 3), (.var 7)])]) (show 7 < 8 by decide) (by
      unfold natL
      rw [List.length_map, List.length_range']
      exact Nat.le_of_lt (lt_sz (by omega))) (fun z hz => by
      obtain ⟨b, _, rfl⟩ := mem_natL hz
      exact Pc.of (vl_call (ps := [.int (h : Nat), .tup [.int (a : Nat), .int (b : Nat)]]) (pvs_cons (pv_at rfl) (pvs_cons (Pv.of (vl_tup (pcs_cons (pc_fz rfl) (pcs_cons (pc_fz rfl) pcs_nil)) (sz2 _ _))) pvs_nil)) rfl (law_depth (Ss := [a, b]) hh (lt_sz (by omega)) rfl)))
  unfold eRow
  rw [this]
  have e : (natL (List.range' (a + 1) (h - (a + 1)))).map (fun z => oV (dpt (TT h [a, pnt z] h))) = (rowD h a).map oV := by
    unfold natL rowD
    rw [List.map_map, List.map_map]
    rfl
  rw [e]
def Rd (h m : Nat) (done : List PV) (env : En) : Prop := ∃ s3 : Option Slot, env = [some ⟨.int (h : Nat), .ro⟩, some ⟨.int (m : Nat), .ro⟩, some ⟨.lst (((List.range' 0 done.length).flatMap (rowD h)).map oV), .own⟩, s3, none, none, none, none] ∧ NL s3
theorem flat_len (h : Nat) : ∀ n, ((List.range' 0 n).flatMap (rowD h)).length ≤ n * h
  | 0 => by simp
  | n + 1 => by
    rw [List.range'_concat, List.flatMap_append, List.length_append]
    have := flat_len h n
    have h2 : (([0 + 1 * n] : List Nat).flatMap (rowD h)).length ≤ h := by
      rw [List.flatMap_cons, List.flatMap_nil, List.append_nil]
      exact rowD_len _
    rw [Nat.add_mul]
    omega
theorem d_turn (hh : 0 < h) (h4 : h ≤ 60) {m : Nat} (done : List PV) (env : En) (hn : done.length < h) (hr : Rd h m done env) : ∃ env', forT M0 (run lim dd (d + 2)) lim [] (.one 3) bD (.int (done.length : Nat)) env = some (.nx env') ∧ Rd h m (done ++ [.int (done.length : Nat)]) env' := by
  obtain ⟨s3, rfl, n3⟩ := hr
  refine ⟨_, ?_, some ⟨.int (done.length : Nat), .fz⟩, rfl, nl_fz _⟩
  unfold forT
  rw [show bindTg [] (.one 3) (.int (done.length : Nat)) [some ⟨.int (h : Nat), .ro⟩, some ⟨.int (m : Nat), .ro⟩, some ⟨.lst (((List.range' 0 done.length).flatMap (rowD h)).map oV), .own⟩, s3, none, none, none, none] = some [some ⟨.int (h : Nat), .ro⟩, some ⟨.int (m : Nat), .ro⟩, some ⟨.lst (((List.range' 0 done.length).flatMap (rowD h)).map oV), .own⟩, some ⟨.int (done.length : Nat), .fz⟩, none, none, none, none] from st_nl rfl n3 _ _]
  have hz : (((List.range' 0 done.length).flatMap (rowD h)).map oV).length + ((rowD h done.length).map oV).length ≤ sizeLine := by
    rw [List.length_map, List.length_map]
    have h1 := flat_len h done.length
    have h2 := rowD_len (h := h) done.length
    have h3 : done.length * h ≤ 60 * 60 := Nat.mul_le_mul (by omega) h4
    exact Nat.le_of_lt (lt_sz (by omega))
  have e : ((List.range' 0 (done ++ [PV.int (done.length : Nat)]).length).flatMap (rowD h)).map oV = ((List.range' 0 done.length).flatMap (rowD h)).map oV ++ (rowD h done.length).map oV := by
    rw [List.length_append, List.length_singleton, List.range'_concat, List.flatMap_append, List.map_append, List.flatMap_cons, List.flatMap_nil, List.append_nil, Nat.one_mul, Nat.zero_add]
  have ha : binF .add (.lst (((List.range' 0 done.length).flatMap (rowD h)).map oV)) (.lst ((rowD h done.length).map oV)) = some (.lst (((List.range' 0 (done ++ [PV.int (done.length : Nat)]).length).flatMap (rowD h)).map oV), true) := by
    rw [e]
    show (if _ ≤ sizeLine then _ else none) = _
    rw [if_pos hz]
  exact exs_fl (set_nl (vl_bin (pv_at rfl) (Pv.of (row_ev (d := d) hh h4 hn)) ha) rfl (nl_own _)) (exs_nil _)
end
end Lw
set_option Elab.async false
set_option linter.all false
set_option maxRecDepth 100000
set_option maxHeartbeats 4000000
namespace Lw
set_option autoImplicit false
open PySem hiding run
open L2 L2.Pz
section
variable {d : Nat} {h : Nat}
theorem for_allD (hh : 0 < h) (h4 : h ≤ 60) {m : Nat} : ∃ s3 : Option Slot, NL s3 ∧ ex M0 (run lim dd (d + 2)) lim [] (.for_ (.one 3) (.rngI [(.var 0)]) bD) [some ⟨.int (h : Nat), .ro⟩, some ⟨.int (m : Nat), .ro⟩, some ⟨.lst [], .own⟩, none, none, none, none, none] = some (.nx [some ⟨.int (h : Nat), .ro⟩, some ⟨.int (m : Nat), .ro⟩, some ⟨.lst ((allD h).map oV), .own⟩, s3, none, none, none, none]) := by
  have hr0 := rngL_nat 0 h
  rw [Nat.sub_zero] at hr0
  obtain ⟨env', h1, h2⟩ := forGo_inv (turn := forT M0 (run lim dd (d + 2)) lim [] (.one 3) bD) (l := natL (List.range' 0 h)) (done := []) (R := Rd h m) (env := [some ⟨.int (h : Nat), .ro⟩, some ⟨.int (m : Nat), .ro⟩, some ⟨.lst [], .own⟩, none, none, none, none, none]) ⟨none, rfl, nl_none⟩ (by
    intro z done r env e hr
    rw [List.nil_append] at e
    have e2 : (natL (List.range' 0 h))[done.length]? = some z := by
      rw [e, List.getElem?_append_right (Nat.le_refl _), Nat.sub_self]; rfl
    have hl : done.length < h := by
      have := lt_of_some e2
      unfold natL at this
      rwa [List.length_map, List.length_range'] at this
    have hz : z = .int (done.length : Nat) := by
      unfold natL at e2
      rw [List.getElem?_map, List.getElem?_range' hl, Nat.zero_add, Nat.one_mul] at e2
      exact (Option.some.inj e2).symm
    subst hz
    exact d_turn hh h4 done env hl hr)
  rw [List.nil_append] at h2
  obtain ⟨s3, he, n3⟩ := h2
  rw [show (natL (List.range' 0 h)).length = h by unfold natL; rw [List.length_map, List.length_range']] at he
  refine ⟨s3, n3, ?_⟩
  rw [ex_for_pw (xs := natL (List.range' 0 h)) (l := []) (by rw [← hr0]; exact pw_rng1 (pv_at rfl) (inB_s (by omega))) h1, he]
  rfl
theorem bl_ne (x y : Bool) (e : x = y) : cmpF .ne (.bl x) (.bl y) = some false := by subst e; cases x <;> rfl
def eAble : E := .lc (.one 6) (.var 2) [(.and (.cmp .isn (.var 6) (.con .non)) (.cmp .le (.var 6) (.var 1)))] (.var 6)
theorem able_ev {m : Nat} {L : List (Option Nat)} (hL : L.length ≤ 10000) {s3 s4 s5 s6 s7 : Option Slot} : ev M0 (run lim dd (d + 2)) eAble [some ⟨.int (h : Nat), .ro⟩, some ⟨.int (m : Nat), .ro⟩, some ⟨.lst (L.map oV), .own⟩, s3, s4, s5, s6, s7] = some (.vl (.lst ((L.filter (okM m)).map oV)) true, [some ⟨.int (h : Nat), .ro⟩, some ⟨.int (m : Nat), .ro⟩, some ⟨.lst (L.map oV), .own⟩, s3, s4, s5, s6, s7]) := by
  have := vl_lc1o (M := M0) (C := run lim dd (d + 2)) (env := [some ⟨.int (h : Nat), .ro⟩, some ⟨.int (m : Nat), .ro⟩, some ⟨.lst (L.map oV), .own⟩, s3, s4, s5, s6, s7]) (v := 6) (i := 2) (c := .and (.cmp .isn (.var 6) (.con .non)) (.cmp .le (.var 6) (.var 1))) (elt := .var 6) (fun z => okM m (unO z)) (fun z => z) rfl rfl (by decide) (show 6 < 8 by decide) (by rw [List.length_map]; exact Nat.le_of_lt (lt_sz hL)) (fun z hz => by
    obtain ⟨o, _, rfl⟩ := List.mem_map.mp hz
    rw [un_oV]
    refine Pv.of (vl_and (k := !o.isNone) (f := false) (Pv.of (vl_cmp (pv_at rfl) (pv_con _) (oV_isn o))) (fun q => ?_) (fun q => ?_))
    · exact vl_cmp (pv_at rfl) (pv_at rfl) (le_ok _ _ (by simpa using q))
    · cases o with
      | none => exact ⟨rfl, rfl⟩
      | some v => cases q) (fun z hz q => pc_fz rfl)
  rw [List.map_id', filt_oV] at this
  exact this
end
end Lw
set_option Elab.async false
set_option linter.all false
set_option maxRecDepth 100000
set_option maxHeartbeats 4000000
namespace Lw
set_option autoImplicit false
open PySem hiding run
open L2 L2.Pz
section
variable {d : Nat} {h : Nat}
theorem c28_eq : c28 = ⟨[.ro, .ro], 8, [.set 2 (.lst []), .for_ (.one 3) (.rngI [(.var 0)]) bD, .set 4 eAble, .set 5 (.call 18 [(.var 0), (.var 1)]), .ite (.cmp .ne (.cmp .is_ (.var 5) (.con .non)) (.cmp .eq (.var 4) (.lst []))) [.ret (.con (.bl false))] [], .ret (.or (.cmp .is_ (.var 5) (.con .non)) (.and (.cmp .is_ (.call 8 [(.var 0), (.var 5)]) (.con (.bl true))) (.and (.cmp .eq (.bi .len [(.var 5)]) (.con (.int 2))) (.and (.cmp .le (.call 27 [(.var 0), (.var 5)]) (.var 1)) (.cmp .le (.call 16 [(.var 0), (.var 5)]) (.var 1))))))]⟩ := rfl
theorem allD_len (h4 : h ≤ 60) : (allD h).length ≤ 10000 := by
  have h1 := flat_len h h
  have h3 : h * h ≤ 60 * 60 := Nat.mul_le_mul h4 h4
  exact Nat.le_trans h1 (Nat.le_trans h3 (by decide))
theorem eq_nil (L : List (Option Nat)) : cmpF .eq (.lst (L.map oV)) (.lst []) = some L.isEmpty := by
  show eqF false _ _ = _
  rw [eqF_lnil (tV_leaf L)]
  cases L <;> rfl
theorem two_right {m : Nat} (hh : 0 < h) (h4 : h ≤ 60) (hm : 1 ≤ m) (hm2 : m ≤ h) : run lim dd (d + 7) 28 [.int (h : Nat), .int (m : Nat)] = some ((.bl true, false), []) := by
  obtain ⟨s3, n3, hf⟩ := for_allD (d := d + 4) hh h4 (m := m)
  have s1 : ex M0 (run lim dd (d + 6)) lim [] (.set 2 (.lst [])) [some ⟨.int (h : Nat), .ro⟩, some ⟨.int (m : Nat), .ro⟩, none, none, none, none, none, none] = some (.nx [some ⟨.int (h : Nat), .ro⟩, some ⟨.int (m : Nat), .ro⟩, some ⟨.lst [], .own⟩, none, none, none, none, none]) := set_nl (ev_nil _) rfl nl_none
  have s3' : ex M0 (run lim dd (d + 6)) lim [] (.set 4 eAble) [some ⟨.int (h : Nat), .ro⟩, some ⟨.int (m : Nat), .ro⟩, some ⟨.lst ((allD h).map oV), .own⟩, s3, none, none, none, none] = some (.nx [some ⟨.int (h : Nat), .ro⟩, some ⟨.int (m : Nat), .ro⟩, some ⟨.lst ((allD h).map oV), .own⟩, s3, some ⟨.lst (((allD h).filter (okM m)).map oV), .own⟩, none, none, none]) :=
    set_nl (able_ev (d := d + 4) (allD_len h4)) rfl nl_none
  have s4 : ex M0 (run lim dd (d + 6)) lim [] (.set 5 (.call 18 [(.var 0), (.var 1)])) [some ⟨.int (h : Nat), .ro⟩, some ⟨.int (m : Nat), .ro⟩, some ⟨.lst ((allD h).map oV), .own⟩, s3, some ⟨.lst (((allD h).filter (okM m)).map oV), .own⟩, none, none, none] = some (.nx [some ⟨.int (h : Nat), .ro⟩, some ⟨.int (m : Nat), .ro⟩, some ⟨.lst ((allD h).map oV), .own⟩, s3, some ⟨.lst (((allD h).filter (okM m)).map oV), .own⟩, some ⟨pV (pairO h m), .fz⟩, none, none]) :=
    set_nl (vl_call (ps := [.int (h : Nat), .int (m : Nat)]) (pvs_cons (pv_at rfl) (pvs_cons (pv_at rfl) pvs_nil)) rfl (two_steps (d := d + 1) hh h4 hm hm2)) rfl nl_none
  refine run_rt (env := [some ⟨.int (h : Nat), .ro⟩, some ⟨.int (m : Nat), .ro⟩, some ⟨.lst ((allD h).map oV), .own⟩, s3, some ⟨.lst (((allD h).filter (okM m)).map oV), .own⟩, some ⟨pV (pairO h m), .fz⟩, none, none]) ((rfl : dd 28 = c28).trans c28_eq) rfl
    (exs_fl s1 (exs_fl hf (exs_fl s3' (exs_fl s4 (exs_fl (ite_pv (k := false) (Pv.of (vl_cmp (Pv.of (vl_cmp (pv_at rfl) (pv_con _) (pV_is _))) (Pv.of (vl_cmp (pv_at rfl) (Pv.of (ev_nil _)) (eq_nil _))) (bl_ne _ _ (pairO_none (h := h) (m := m))))) (fun q => by cases q) (fun _ => exs_nil _)) (exs_rt (ret_vl ?_))))))) rfl
  have hor := vl_orb (M := M0) (C := run lim dd (d + 6)) (env := [some ⟨.int (h : Nat), .ro⟩, some ⟨.int (m : Nat), .ro⟩, some ⟨.lst ((allD h).map oV), .own⟩, s3, some ⟨.lst (((allD h).filter (okM m)).map oV), .own⟩, some ⟨pV (pairO h m), .fz⟩, none, none])
    (a := .cmp .is_ (.var 5) (.con .non)) (b := .and (.cmp .is_ (.call 8 [(.var 0), (.var 5)]) (.con (.bl true))) (.and (.cmp .eq (.bi .len [(.var 5)]) (.con (.int 2))) (.and (.cmp .le (.call 27 [(.var 0), (.var 5)]) (.var 1)) (.cmp .le (.call 16 [(.var 0), (.var 5)]) (.var 1))))) (k := (pairO h m).isNone) (k' := true) (Pv.of (vl_cmp (pv_at rfl) (pv_con _) (pV_is _))) (fun q => by
    cases e : pairO h m with
    | none => rw [e] at q; cases q
    | some p =>
      obtain ⟨a, b⟩ := p
      obtain ⟨hc, ho⟩ := pairO_some e
      have hv : ∃ v, dpt (TT h [a, b] h) = some v ∧ v ≤ m := by
        unfold ok2 at ho
        cases q : dpt (TT h [a, b] h) with
        | none => rw [q] at ho; cases ho
        | some v => rw [q] at ho; exact ⟨v, rfl, of_decide_eq_true ho⟩
      obtain ⟨v, hv1, hv2⟩ := hv
      have hle : cmpF .le (oV (some v)) (.int (m : Nat)) = some true := by
        rw [le_ok _ _ rfl]
        show some (decide (v ≤ m)) = _
        rw [decide_eq_true hv2]
      have c8 := is_clock_set2 (d := d + 1) (a := a) (b := b) hh (by omega)
      rw [hc] at c8
      have c27 := law_depth (d := d + 4) (Ss := [a, b]) (sv := pairV a b) hh (lt_sz (n := h + 1) (by omega)) rfl
      have c16 := clock_depth2 (d := d) hh (by omega) hc
      rw [hv1] at c27 c16
      refine vl_and (k := true) (Pv.of (vl_cmp (Pv.of (vl_call (ps := [.int (h : Nat), pairV a b]) (pvs_cons (pv_at rfl) (pvs_cons (pv_at rfl) pvs_nil)) rfl c8)) (pv_con _) rfl)) (fun _ => ?_) (fun q => by cases q)
      refine vl_and (k := true) (Pv.of (vl_cmp (Pv.of (vl_bi1 (pv_at rfl) (show biF .len [pairV a b] = some (.int 2, false) from rfl))) (pv_con _) rfl)) (fun _ => ?_) (fun q => by cases q)
      refine vl_and (k := true) (Pv.of (vl_cmp (Pv.of (vl_call (ps := [.int (h : Nat), pairV a b]) (pvs_cons (pv_at rfl) (pvs_cons (pv_at rfl) pvs_nil)) rfl c27)) (pv_at rfl) hle)) (fun _ => ?_) (fun q => by cases q)
      exact vl_cmp (Pv.of (vl_call (ps := [.int (h : Nat), pairV a b]) (pvs_cons (pv_at rfl) (pvs_cons (pv_at rfl) pvs_nil)) rfl c16)) (pv_at rfl) hle)
  rw [Bool.or_true] at hor
  exact hor
end
end Lw
set_option Elab.async false
set_option linter.all false
set_option maxRecDepth 100000
set_option maxHeartbeats 4000000
namespace Lw
set_option autoImplicit false
open PySem hiding run
open L2 L2.Pz
section
variable {d : Nat} {h : Nat}
theorem modFi {x : Int} {h : Nat} (hh : 0 < h) : binF .mod (.int x) (.int (h : Nat)) = some (.int (x % (h : Nat)), false) := by
  have hm : (0 : Int) < (h : Int) := by omega
  simp only [binF, intF, hm, decide_true, if_true]
def pin : PV → Int
  | .int i => i
  | _ => 0
theorem both_of (hh : 0 < h) (a b : Nat) : run lim dd (d + 1) 10 [.int (h : Nat), pairV a b] = some ((.lst ((isort (dedup [(a : Int) % (h : Nat), (b : Int) % (h : Nat), ((h : Nat) - (a : Int)) % (h : Nat), ((h : Nat) - (b : Int)) % (h : Nat)])).map PV.int), true), []) := by
  refine run_e (rfl : dd 10 = ⟨[.ro, .ro], 3, [.ret (.bi .sorted [(.bi .set [(.bin .add (.lc (.one 2) (.var 1) [] (.bin .mod (.var 2) (.var 0))) (.lc (.one 2) (.var 1) [] (.bin .mod (.bin .sub (.var 0) (.var 2)) (.var 0))))])])]⟩) rfl ?_ rfl
  have h1 := vl_lc0 (M := M0) (C := run lim dd d) (env := [some ⟨.int (h : Nat), .ro⟩, some ⟨pairV a b, .ro⟩, none]) (v := 2) (it := .var 1) (elt := .bin .mod (.var 2) (.var 0)) (xs := [.int (a : Nat), .int (b : Nat)]) (l := [1])
    (fun z => .int (pin z % (h : Nat))) (pw_var rfl rfl) (fun i hi => by rw [List.mem_singleton.mp hi]; rfl) (show 2 < 3 by decide) (sz2 _ _) (fun z hz => by
      have hz : z = .int (a : Nat) ∨ z = .int (b : Nat) := by simpa using hz
      rcases hz with rfl | rfl <;> exact Pc.of (vl_bin (pv_at rfl) (pv_at rfl) (modFi hh)))
  have h2 := vl_lc0 (M := M0) (C := run lim dd d) (env := [some ⟨.int (h : Nat), .ro⟩, some ⟨pairV a b, .ro⟩, none]) (v := 2) (it := .var 1) (elt := .bin .mod (.bin .sub (.var 0) (.var 2)) (.var 0)) (xs := [.int (a : Nat), .int (b : Nat)]) (l := [1])
    (fun z => .int (((h : Nat) - pin z) % (h : Nat))) (pw_var rfl rfl) (fun i hi => by rw [List.mem_singleton.mp hi]; rfl) (show 2 < 3 by decide) (sz2 _ _) (fun z hz => by
      have hz : z = .int (a : Nat) ∨ z = .int (b : Nat) := by simpa using hz
      rcases hz with rfl | rfl <;> exact Pc.of (vl_bin (Pv.of (vl_bin (pv_at rfl) (pv_at rfl) rfl)) (pv_at rfl) (modFi hh)))
  have z4 : ∀ x y z w : PV, [x, y].length + [z, w].length ≤ sizeLine := fun x y z w => Nat.le_of_lt (lt_sz (n := 4) (by omega))
  have ha : binF .add (.lst [.int ((a : Int) % (h : Nat)), .int ((b : Int) % (h : Nat))]) (.lst [.int (((h : Nat) - (a : Int)) % (h : Nat)), .int (((h : Nat) - (b : Int)) % (h : Nat))]) = some (.lst [.int ((a : Int) % (h : Nat)), .int ((b : Int) % (h : Nat)), .int (((h : Nat) - (a : Int)) % (h : Nat)), .int (((h : Nat) - (b : Int)) % (h : Nat))], true) := by
    show addF (.lst [_, _]) (.lst [_, _]) = _
    simp only [addF, z4, if_true]; rfl
  refine vl_bi1 (Pv.of (vl_bi1 (Pv.of (vl_bin (Pv.of h1) (Pv.of h2) ha)) (r := .set (dedup [(a : Int) % (h : Nat), (b : Int) % (h : Nat), ((h : Nat) - (a : Int)) % (h : Nat), ((h : Nat) - (b : Int)) % (h : Nat)])) (f := true) ?_)) rfl
  show (if 4 + 1 < scanBound then some (PV.set (dedup [(a : Int) % (h : Nat), (b : Int) % (h : Nat), ((h : Nat) - (a : Int)) % (h : Nat), ((h : Nat) - (b : Int)) % (h : Nat)]), true) else none) = _
  rw [if_pos (by unfold scanBound; omega)]
end
/-- what the perfect clock's table shows -/
def cnt (t : Tb) (f : Nat) : Nat := (t.filter fun o => o == some f).length
def ballS (h : Nat) (S : List Nat) : Nat → Nat
  | 0 => 1
  | k + 1 => S.foldl (fun acc s => Nat.lor acc (rotM h s (ballS h S k))) (ballS h S k)
def onlyB (h : Nat) (S : List Nat) : Nat → Nat
  | 0 => 1
  | k + 1 => Nat.xor (ballS h S (k + 1)) (ballS h S k)
def popB (M : Nat) : Nat → Nat
  | 0 => 0
  | n + 1 => Nat.add (popB M n) (Nat.land (Nat.shiftRight M n) 1)
theorem foldl_bit {x : Nat} (g : Nat → Nat) : ∀ (S : List Nat) (a : Nat), (S.foldl (fun acc s => Nat.lor acc (g s)) a).testBit x = true ↔ a.testBit x = true ∨ ∃ s ∈ S, (g s).testBit x = true
  | [], a => by simp
  | s :: S, a => by
    rw [List.foldl_cons, foldl_bit g S]
    show (a ||| g s).testBit x = true ∨ _ ↔ _
    rw [Nat.testBit_or, Bool.or_eq_true]
    simp only [List.mem_cons, exists_eq_or_imp, or_assoc]
theorem ballS_bit {h : Nat} {S : List Nat} (hh : 0 < h) (hS : ∀ s ∈ S, s < h) : ∀ {k x : Nat}, (ballS h S k).testBit x = true ↔ gt (TT h S k) x ≠ none
  | 0, x => by
    rw [gt_T0]
    show (1 : Nat).testBit x = true ↔ _
    rw [Nat.testBit_one_eq_true_iff_self_eq_zero]
    split <;> simp_all
  | k + 1, x => by
    have ih : ∀ x, _ := fun x => ballS_bit hh hS (k := k) (x := x)
    have hM : ∀ y, h ≤ y → (ballS h S k).testBit y = false := fun y hy => by
      cases q : (ballS h S k).testBit y with
      | false => rfl
      | true =>
        cases e : gt (TT h S k) y with
        | none => exact ((ih y).mp q e).elim
        | some v => have := gt_lt e; rw [T_len hh] at this; omega
    rw [rch_step hh]
    show (S.foldl (fun acc s => Nat.lor acc (rotM h s (ballS h S k))) (ballS h S k)).testBit x = true ↔ _
    rw [foldl_bit, ih]
    constructor
    · rintro (h1 | ⟨s, hs, h1⟩)
      · exact Or.inl h1
      · obtain ⟨i, h1, h2⟩ := (rotM_bit (hS s hs) hM).mp h1
        exact Or.inr ⟨i, (ih i).mp h1, s, hs, h2⟩
    · rintro (h1 | ⟨i, h1, s, hs, h2⟩)
      · exact Or.inl h1
      · exact Or.inr ⟨s, hs, (rotM_bit (hS s hs) hM).mpr ⟨i, (ih i).mpr h1, h2⟩⟩
def fullB (h : Nat) (S : List Nat) (k : Nat) : Bool := Nat.beq (ballS h S k) (Nat.sub (Nat.pow 2 h) 1)
theorem full_B {h : Nat} {S : List Nat} (hh : 0 < h) (hS : ∀ s ∈ S, s < h) {k : Nat} : fullB h S k = true ↔ ∀ x < h, gt (TT h S k) x ≠ none := by
  unfold fullB
  rw [Nat.beq_eq]
  show ballS h S k = 2 ^ h - 1 ↔ _
  constructor
  · intro e x hx
    rw [← ballS_bit hh hS, e, Nat.testBit_two_pow_sub_one, decide_eq_true hx]
  · intro H
    apply Nat.eq_of_testBit_eq
    intro x
    rw [Nat.testBit_two_pow_sub_one, Bool.eq_iff_iff, decide_eq_true_eq, ballS_bit hh hS]
    constructor
    · intro q
      cases e : gt (TT h S k) x with
      | none => exact (q e).elim
      | some v => have := gt_lt e; rw [T_len hh] at this; exact this
    · exact H x
theorem popB_eq (M : Nat) : ∀ n, popB M n = ((List.range' 0 n).filter fun x => M.testBit x).length
  | 0 => rfl
  | n + 1 => by
    show popB M n + (M >>> n &&& 1) = _
    rw [popB_eq M n, List.range'_concat, List.filter_append, List.length_append, Nat.zero_add, Nat.one_mul]
    congr 1
    rw [Nat.and_one_is_mod, Nat.shiftRight_eq_div_pow, List.filter_cons, Nat.testBit_eq_decide_div_mod_eq]
    have : M / 2 ^ n % 2 = 0 ∨ M / 2 ^ n % 2 = 1 := by omega
    rcases this with q | q <;> simp [q]
theorem at_level {h : Nat} {S : List Nat} (hh : 0 < h) {f j x : Nat} : gt (TT h S (f + 1 + j)) x = some (f + 1) ↔ gt (TT h S (f + 1)) x ≠ none ∧ gt (TT h S f) x = none := by
  constructor
  · intro e
    have e1 := T_back hh (Nat.le_refl _) e
    refine ⟨by rw [e1]; simp, ?_⟩
    cases q : gt (TT h S f) x with
    | none => rfl
    | some v =>
      have := T_keep hh q
      rw [e1] at this
      have := T_le hh q
      cases this
      · simp_all
      · simp_all; omega
  · rintro ⟨h1, h2⟩
    refine T_mono hh ?_ j
    rw [gt_T hh, h2, Option.none_or] at h1 ⊢
    split at h1
    · rename_i q; rw [if_pos q]
    · exact (h1 rfl).elim
theorem tb_map (t : Tb) : t = (List.range' 0 t.length).map (gt t) := by
  apply List.ext_getElem?
  intro x
  by_cases hx : x < t.length
  · rw [gt_some hx, List.getElem?_map, List.getElem?_range' hx]
    simp
  · rw [List.getElem?_eq_none (by omega), List.getElem?_eq_none (by rw [List.length_map, List.length_range']; omega)]
theorem cnt_B {h : Nat} {S : List Nat} (hh : 0 < h) (hS : ∀ s ∈ S, s < h) {f : Nat} (hf : f ≤ h) : cnt (TT h S h) f = popB (onlyB h S f) h := by
  rw [popB_eq]
  unfold cnt
  have e := tb_map (TT h S h)
  rw [T_len hh] at e
  have : (TT h S h).filter (fun o => o == some f) = ((List.range' 0 h).map (gt (TT h S h))).filter (fun o => o == some f) := by rw [← e]
  rw [this, List.filter_map, List.length_map]
  congr 1
  apply List.filter_congr
  intro x hx
  have hx : x < h := by simpa using hx
  rw [Bool.eq_iff_iff]
  show (gt (TT h S h) x == some f) = true ↔ _
  rw [beq_iff_eq]
  cases f with
  | zero =>
    show _ ↔ (1 : Nat).testBit x = true
    rw [Nat.testBit_one_eq_true_iff_self_eq_zero]
    constructor
    · intro q
      have : gt (TT h S (0 + h)) x = some 0 := by rw [Nat.zero_add]; exact q
      have := T_back hh (Nat.le_refl _) this
      rw [gt_T0] at this
      split at this
      · assumption
      · cases this
    · rintro rfl
      have := T_mono hh (S := S) (u := 0) (x := 0) (v := 0) (by rw [gt_T0]; rfl) h
      rwa [Nat.zero_add] at this
  | succ f =>
    obtain ⟨j, rfl⟩ : ∃ j, h = f + 1 + j := ⟨h - (f + 1), by omega⟩
    rw [at_level hh]
    show _ ↔ (ballS (f + 1 + j) S (f + 1) ^^^ ballS (f + 1 + j) S f).testBit x = true
    have k1 := ballS_bit hh hS (k := f + 1) (x := x)
    have k2 := ballS_bit hh hS (k := f) (x := x)
    have k3 : gt (TT (f + 1 + j) S f) x ≠ none → gt (TT (f + 1 + j) S (f + 1)) x ≠ none := fun q => by
      cases e : gt (TT (f + 1 + j) S f) x with
      | none => exact (q e).elim
      | some v => rw [T_keep hh e]; simp
    rw [Nat.testBit_xor]
    have lem : ∀ (A B : Option Nat) (b1 b2 : Bool), (b1 = true ↔ A ≠ none) → (b2 = true ↔ B ≠ none) → (B ≠ none → A ≠ none) → ((A ≠ none ∧ B = none) ↔ (b1 ^^ b2) = true) := by
      intro A B b1 b2
      cases A <;> cases B <;> cases b1 <;> cases b2 <;> simp
    exact lem _ _ _ _ k1 k2 k3
def pfC (h : Nat) (S : List Nat) (m : Nat) : Bool := S.all (fun s => Nat.ble (Nat.succ s) h) && fullB h S m && !fullB h S (m - 1) && (List.range' 0 (m + 1)).map (fun f => popB (onlyB h S f) h) == 1 :: (List.range' 1 m).map (fun f => 4 * f)
theorem pf1 : pfC 5 [1, 2, 3, 4] 1 = true := by decide +kernel
theorem so1 : isort (dedup [(1 : Int) % 5, 2 % 5, (5 - 1) % 5, (5 - 2) % 5]) = [1, 2, 3, 4] := by decide +kernel
theorem pf2 : pfC 13 [2, 3, 10, 11] 2 = true := by decide +kernel
theorem so2 : isort (dedup [(2 : Int) % 13, 3 % 13, (13 - 2) % 13, (13 - 3) % 13]) = [2, 3, 10, 11] := by decide +kernel
theorem pf3 : pfC 25 [3, 4, 21, 22] 3 = true := by decide +kernel
theorem so3 : isort (dedup [(3 : Int) % 25, 4 % 25, (25 - 3) % 25, (25 - 4) % 25]) = [3, 4, 21, 22] := by decide +kernel
theorem pf4 : pfC 41 [4, 5, 36, 37] 4 = true := by decide +kernel
theorem so4 : isort (dedup [(4 : Int) % 41, 5 % 41, (41 - 4) % 41, (41 - 5) % 41]) = [4, 5, 36, 37] := by decide +kernel
theorem pf5 : pfC 61 [5, 6, 55, 56] 5 = true := by decide +kernel
theorem so5 : isort (dedup [(5 : Int) % 61, 6 % 61, (61 - 5) % 61, (61 - 6) % 61]) = [5, 6, 55, 56] := by decide +kernel
theorem pf6 : pfC 85 [6, 7, 78, 79] 6 = true := by decide +kernel
theorem so6 : isort (dedup [(6 : Int) % 85, 7 % 85, (85 - 6) % 85, (85 - 7) % 85]) = [6, 7, 78, 79] := by decide +kernel
theorem pf7 : pfC 113 [7, 8, 105, 106] 7 = true := by decide +kernel
theorem so7 : isort (dedup [(7 : Int) % 113, 8 % 113, (113 - 7) % 113, (113 - 8) % 113]) = [7, 8, 105, 106] := by decide +kernel
theorem pf8 : pfC 145 [8, 9, 136, 137] 8 = true := by decide +kernel
theorem so8 : isort (dedup [(8 : Int) % 145, 9 % 145, (145 - 8) % 145, (145 - 9) % 145]) = [8, 9, 136, 137] := by decide +kernel
theorem pf9 : pfC 181 [9, 10, 171, 172] 9 = true := by decide +kernel
theorem so9 : isort (dedup [(9 : Int) % 181, 10 % 181, (181 - 9) % 181, (181 - 10) % 181]) = [9, 10, 171, 172] := by decide +kernel
theorem pf10 : pfC 221 [10, 11, 210, 211] 10 = true := by decide +kernel
theorem so10 : isort (dedup [(10 : Int) % 221, 11 % 221, (221 - 10) % 221, (221 - 11) % 221]) = [10, 11, 210, 211] := by decide +kernel
theorem pf11 : pfC 265 [11, 12, 253, 254] 11 = true := by decide +kernel
theorem so11 : isort (dedup [(11 : Int) % 265, 12 % 265, (265 - 11) % 265, (265 - 12) % 265]) = [11, 12, 253, 254] := by decide +kernel
theorem pf12 : pfC 313 [12, 13, 300, 301] 12 = true := by decide +kernel
theorem so12 : isort (dedup [(12 : Int) % 313, 13 % 313, (313 - 12) % 313, (313 - 13) % 313]) = [12, 13, 300, 301] := by decide +kernel
theorem pf13 : pfC 365 [13, 14, 351, 352] 13 = true := by decide +kernel
theorem so13 : isort (dedup [(13 : Int) % 365, 14 % 365, (365 - 13) % 365, (365 - 14) % 365]) = [13, 14, 351, 352] := by decide +kernel
theorem T_full {h : Nat} (hh : 0 < h) {S : List Nat} {m : Nat} (e : ∀ x < h, gt (TT h S m) x ≠ none) (j : Nat) : TT h S (m + j) = TT h S m := by
  refine tb_ext (by rw [T_len hh, T_len hh]) fun x hx => ?_
  rw [T_len hh] at hx
  cases q : gt (TT h S m) x with
  | none => exact (e x hx q).elim
  | some v => exact T_mono hh q j
theorem T_perm {h : Nat} (hh : 0 < h) {S S' : List Nat} (e : ∀ x, x ∈ S ↔ x ∈ S') : ∀ u, TT h S u = TT h S' u
  | 0 => rfl
  | u + 1 => by
    show fil (u + 1) (tgt h S (lay (TT h S u) u)) (TT h S u) = fil (u + 1) (tgt h S' (lay (TT h S' u) u)) (TT h S' u)
    rw [T_perm hh e u]
    refine fil_congr (fun y hy => by rw [T_len hh]; exact tgt_lt hh hy) (fun y hy => by rw [T_len hh]; exact tgt_lt hh hy) fun x => ?_
    rw [mem_tgt, mem_tgt]
    simp only [e]
theorem pfC_at {h m : Nat} {S : List Nat} (h1 : 1 ≤ m) (hm : m ≤ h) (e : pfC h S m = true) : (List.range' 0 (m + 1)).map (cnt (TT h S h)) = 1 :: (List.range' 1 m).map (fun f => 4 * f) ∧ dpt (TT h S h) = some m := by
  have hh : 0 < h := by omega
  unfold pfC at e
  rw [Bool.and_eq_true, Bool.and_eq_true, Bool.and_eq_true, List.all_eq_true] at e
  obtain ⟨⟨⟨e0, e1⟩, e2⟩, e3⟩ := e
  have hS : ∀ s ∈ S, s < h := fun s hs => Nat.le_of_ble_eq_true (e0 s hs)
  refine ⟨?_, ?_⟩
  · rw [← eq_of_beq e3]
    apply List.map_congr_left
    intro f hf
    have := List.mem_range'_1.mp hf
    exact cnt_B hh hS (by omega)
  · have a1 := (dpt_ok hh hm).mpr ((full_B hh hS).mp e1)
    have a2 : okM (m - 1) (dpt (TT h S h)) ≠ true := fun q => by
      have := (full_B hh hS).mpr ((dpt_ok hh (by omega)).mp q)
      rw [this] at e2
      cases e2
    cases q : dpt (TT h S h) with
    | none => rw [q] at a1; cases a1
    | some v =>
      rw [q] at a1 a2
      have b1 : v ≤ m := of_decide_eq_true a1
      have b2 : ¬ v ≤ m - 1 := fun z => a2 (decide_eq_true z)
      congr 1; omega
end Lw
set_option Elab.async false
set_option linter.all false
set_option maxRecDepth 100000
set_option maxHeartbeats 4000000
namespace Lw
set_option autoImplicit false
open PySem hiding run
open L2 L2.Pz
section
variable {d : Nat} {h m : Nat} {S : List Nat}
structure PF (h m : Nat) (S : List Nat) : Prop where
  hh : 0 < h
  h4 : h ≤ 365
  mh : m + 1 < h
  m1 : 1 ≤ m
  m13 : m ≤ 13
  eh : h = 2 * m * m + 2 * m + 1
  so : isort (dedup [((m : Nat) : Int) % (h : Nat), ((m + 1 : Nat) : Int) % (h : Nat), ((h : Nat) - ((m : Nat) : Int)) % (h : Nat), ((h : Nat) - ((m + 1 : Nat) : Int)) % (h : Nat)]) = S.map fun (k : Nat) => (k : Int)
  me : ∀ x, x ∈ S ↔ x ∈ [m, m + 1, h - m, h - m - 1]
  pf : pfC h S m = true
theorem PF_at (h1 : 1 ≤ m) (h13 : m ≤ 13) : ∃ S, PF (2 * m * m + 2 * m + 1) m S := by
  have hm : m = 1 ∨ m = 2 ∨ m = 3 ∨ m = 4 ∨ m = 5 ∨ m = 6 ∨ m = 7 ∨ m = 8 ∨ m = 9 ∨ m = 10 ∨ m = 11 ∨ m = 12 ∨ m = 13 := by omega
  rcases hm with rfl | rfl | rfl | rfl | rfl | rfl | rfl | rfl | rfl | rfl | rfl | rfl | rfl
  · exact ⟨[1, 2, 3, 4], by decide, by decide, by decide, by decide, by decide, rfl, so1, by intro x; simp only [List.mem_cons, List.not_mem_nil, or_false]; omega, pf1⟩
  · exact ⟨[2, 3, 10, 11], by decide, by decide, by decide, by decide, by decide, rfl, so2, by intro x; simp only [List.mem_cons, List.not_mem_nil, or_false]; omega, pf2⟩
  · exact ⟨[3, 4, 21, 22], by decide, by decide, by decide, by decide, by decide, rfl, so3, by intro x; simp only [List.mem_cons, List.not_mem_nil, or_false]; omega, pf3⟩
  · exact ⟨[4, 5, 36, 37], by decide, by decide, by decide, by decide, by decide, rfl, so4, by intro x; simp only [List.mem_cons, List.not_mem_nil, or_false]; omega, pf4⟩
  · exact ⟨[5, 6, 55, 56], by decide, by decide, by decide, by decide, by decide, rfl, so5, by intro x; simp only [List.mem_cons, List.not_mem_nil, or_false]; omega, pf5⟩
  · exact ⟨[6, 7, 78, 79], by decide, by decide, by decide, by decide, by decide, rfl, so6, by intro x; simp only [List.mem_cons, List.not_mem_nil, or_false]; omega, pf6⟩
  · exact ⟨[7, 8, 105, 106], by decide, by decide, by decide, by decide, by decide, rfl, so7, by intro x; simp only [List.mem_cons, List.not_mem_nil, or_false]; omega, pf7⟩
  · exact ⟨[8, 9, 136, 137], by decide, by decide, by decide, by decide, by decide, rfl, so8, by intro x; simp only [List.mem_cons, List.not_mem_nil, or_false]; omega, pf8⟩
  · exact ⟨[9, 10, 171, 172], by decide, by decide, by decide, by decide, by decide, rfl, so9, by intro x; simp only [List.mem_cons, List.not_mem_nil, or_false]; omega, pf9⟩
  · exact ⟨[10, 11, 210, 211], by decide, by decide, by decide, by decide, by decide, rfl, so10, by intro x; simp only [List.mem_cons, List.not_mem_nil, or_false]; omega, pf10⟩
  · exact ⟨[11, 12, 253, 254], by decide, by decide, by decide, by decide, by decide, rfl, so11, by intro x; simp only [List.mem_cons, List.not_mem_nil, or_false]; omega, pf11⟩
  · exact ⟨[12, 13, 300, 301], by decide, by decide, by decide, by decide, by decide, rfl, so12, by intro x; simp only [List.mem_cons, List.not_mem_nil, or_false]; omega, pf12⟩
  · exact ⟨[13, 14, 351, 352], by decide, by decide, by decide, by decide, by decide, rfl, so13, by intro x; simp only [List.mem_cons, List.not_mem_nil, or_false]; omega, pf13⟩
theorem natL_cast (S : List Nat) : (S.map fun (k : Nat) => (k : Int)).map PV.int = natL S := by
  unfold natL
  rw [List.map_map]; rfl
theorem both10 (P : PF h m S) : run lim dd (d + 1) 10 [.int (h : Nat), pairV m (m + 1)] = some ((.lst (natL S), true), []) := by
  rw [both_of P.hh, P.so, natL_cast]
theorem cl2_pf (P : PF h m S) : cl2 h m (m + 1) = true := by
  unfold cl2
  rw [decide_eq_true P.mh, decide_eq_true (by omega)]; rfl
theorem tab9 (P : PF h m S) : Pv M0 (run lim dd (d + 5)) (.call 9 [(.var 0), (.call 10 [(.var 0), (.var 1)])]) [some ⟨.int (h : Nat), .ro⟩, some ⟨pairV m (m + 1), .ro⟩] (tV (TT h S h)) :=
  Pv.of (vl_call (ps := [.int (h : Nat), .lst (natL S)]) (pvs_cons (pv_at rfl) (pvs_cons (Pv.of (vl_call (ps := [.int (h : Nat), pairV m (m + 1)]) (pvs_cons (pv_at rfl) (pvs_cons (pv_at rfl) pvs_nil)) rfl (both10 (d := d + 4) P))) pvs_nil)) rfl (table_in (d := d + 4) (Ss := S) P.hh (lt_sz (by have := P.h4; omega)) rfl))
theorem both_tab (P : PF h m S) : run lim dd (d + 6) 15 [.int (h : Nat), pairV m (m + 1)] = some ((.tup ((TT h S h).map oV), false), []) :=
  run_rt (env := [some ⟨.int (h : Nat), .ro⟩, some ⟨pairV m (m + 1), .ro⟩]) (rfl : dd 15 = ⟨[.ro, .ro], 2, [.ex (.call 7 [(.var 0), (.var 1)]), .ret (.bi .tuple [(.call 9 [(.var 0), (.call 10 [(.var 0), (.var 1)])])])]⟩) rfl
    (exs_fl (ex_vl (vl_call (ps := [.int (h : Nat), pairV m (m + 1)]) (pvs_cons (pv_at rfl) (pvs_cons (pv_at rfl) pvs_nil)) rfl (need2 P.hh (by have := P.h4; omega) (cl2_pf P))))
      (exs_rt (ret_vl (vl_bi1 (tab9 P) rfl)))) rfl
theorem both_dep (P : PF h m S) : run lim dd (d + 6) 17 [.int (h : Nat), pairV m (m + 1)] = some ((.int (m : Nat), false), []) := by
  have e := depth_in (d := d + 4) (ne_T P.hh (S := S))
  rw [(pfC_at P.m1 (by have := P.mh; omega) P.pf).2] at e
  exact run_rt (env := [some ⟨.int (h : Nat), .ro⟩, some ⟨pairV m (m + 1), .ro⟩]) (rfl : dd 17 = ⟨[.ro, .ro], 2, [.ex (.call 7 [(.var 0), (.var 1)]), .ret (.call 11 [(.call 9 [(.var 0), (.call 10 [(.var 0), (.var 1)])])])]⟩) rfl
    (exs_fl (ex_vl (vl_call (ps := [.int (h : Nat), pairV m (m + 1)]) (pvs_cons (pv_at rfl) (pvs_cons (pv_at rfl) pvs_nil)) rfl (need2 P.hh (by have := P.h4; omega) (cl2_pf P))))
      (exs_rt (ret_vl (vl_call (ps := [tV (TT h S h)]) (pvs_cons (tab9 P) pvs_nil) rfl e)))) rfl
/-! equal to itself -/
theorem eqP_self {p : PV} (h : okP p = true) : eqP p p = true := by
  unfold okP SeqAt.shaped at h
  rw [Bool.and_eq_true] at h
  exact SeqAt.eqv_refl _ h.1
theorem ne_self {p : PV} (h : okP p = true) : cmpF .ne p p = some false := by
  show eqF true p p = _
  unfold eqF
  rw [if_pos ⟨h, h⟩, eqP_self h]; rfl
theorem eq_self {p : PV} (h : okP p = true) : cmpF .eq p p = some true := by
  show eqF false p p = _
  unfold eqF
  rw [if_pos ⟨h, h⟩, eqP_self h]; rfl
theorem ne_of {p q : PV} (e : p = q) (h : okP p = true) : cmpF .ne p q = some false := by subst e; exact ne_self h
theorem unp2 {M : Nat → List Md} {C : Cl} {W : Lp} {env : En} {i j : Nat} {e : E} {p q : PV} {f : Bool} {env1 env2 : En} (h : ev M C e env = some (.vl (.tup [p, q]) f, env)) (h1 : store [] i p false env = some env1) (h2 : store [] j q false env1 = some env2) : ex M C W [] (.unp [i, j] e) env = some (.nx env2) := by
  rw [ex_unp, h]
  simp only [deref, stores, h1, h2]
end
end Lw
set_option Elab.async false
set_option linter.all false
set_option maxRecDepth 100000
set_option maxHeartbeats 4000000
namespace Lw
set_option autoImplicit false
open PySem hiding run
open L2 L2.Pz
section
variable {d : Nat} {h m : Nat} {S : List Nat}
theorem natL_ok (l : List Nat) : okP (.lst (natL l)) = true := okP_lst (natL_leaf l)
theorem pair_ok (a b : Nat) : okP (pairV a b) = true := okP_tup rfl
theorem seven (hm : m ≤ 13) {s1 s2 s5 s6 s3 s4 : Option Slot} {C : Cl} : Pv M0 C (.bin .add (.bin .add (.bin .mul (.bin .mul (.con (.int 2)) (.var 0)) (.var 0)) (.bin .mul (.con (.int 2)) (.var 0))) (.con (.int 1))) [some ⟨.int (m : Nat), .fz⟩, s1, s2, s3, s4, s5, s6] (.int ((2 * m * m + 2 * m + 1 : Nat) : Int)) :=
  Pv.of (vl_bin (Pv.of (vl_bin (Pv.of (vl_bin (Pv.of (vl_bin (pv_con _) (pv_at rfl) (mulF_nat (a := 2) (b := m) (by omega)))) (pv_at rfl) (mulF_nat (a := 2 * m) (b := m) (by omega)))) (Pv.of (vl_bin (pv_con _) (pv_at rfl) (mulF_nat (a := 2) (b := m) (by omega)))) rfl)) (pv_con _) rfl)
def E29 (m h : Nat) (s1 s2 : Option Slot) : En := [some ⟨.int (m : Nat), .fz⟩, s1, s2, some ⟨.int (h : Nat), .fz⟩, some ⟨pairV m (m + 1), .fz⟩, none, none]
def tabV (h : Nat) (S : List Nat) : PV := .tup ((TT h S h).map oV)
def eCount : E := .lc (.one 5) (.rngI [(.bin .add (.var 0) (.con (.int 1)))]) [] (.bi .len [(.lc (.one 6) (.var 1) [(.cmp .eq (.var 6) (.var 5))] (.con (.int 1)))])
theorem ones_len (L : List PV) (k : PV → Bool) : ((L.filter k).map fun _ => PV.int 1).length = (L.filter k).length := List.length_map ..
theorem cnt_oV (t : Tb) (f : Nat) : ((t.map oV).filter fun z => unO z == some f).length = cnt t f := by
  unfold cnt
  have := filt_oV (fun o => o == some f) t
  rw [this, List.length_map]
theorem T_lenle (P : PF h m S) : ((TT h S h).map oV).length ≤ sizeLine := by
  rw [List.length_map, T_len P.hh]
  exact Nat.le_of_lt (lt_sz (by have := P.h4; omega))
theorem rng_succ (m : Nat) : (rngL 0 ((m : Int) + 1)).map PV.int = natL (List.range' 0 (m + 1)) := by
  have := rngL_nat 0 (m + 1)
  rw [Nat.sub_zero] at this
  exact this
theorem count_ev (P : PF h m S) : ev M0 (run lim dd (d + 6)) eCount (E29 m h (some ⟨tabV h S, .fz⟩) none) = some (.vl (.lst (natL (1 :: (List.range' 1 m).map fun f => 4 * f))) true, E29 m h (some ⟨tabV h S, .fz⟩) none) := by
  have h13 := P.m13
  have h4 := P.h4
  have mh := P.mh
  have hw : Pw M0 (run lim dd (d + 6)) (.rngI [(.bin .add (.var 0) (.con (.int 1)))]) (E29 m h (some ⟨tabV h S, .fz⟩) none) (natL (List.range' 0 (m + 1))) [] := by
    rw [← rng_succ]
    exact pw_rng1 (Pv.of (vl_bin (pv_at rfl) (pv_con _) rfl)) (inB_s (n := m + 1) (by omega))
  have := vl_lc0 (v := 5) (elt := .bi .len [(.lc (.one 6) (.var 1) [(.cmp .eq (.var 6) (.var 5))] (.con (.int 1)))]) (fun z => .int (cnt (TT h S h) (pnt z) : Nat)) hw (fun i hi => by cases hi) (show 5 < 7 by decide) (by
      unfold natL
      rw [List.length_map, List.length_range']
      exact Nat.le_of_lt (lt_sz (by omega))) (fun z hz => by
      obtain ⟨f, _, rfl⟩ := mem_natL hz
      have hl := vl_lc1 (M := M0) (C := run lim dd (d + 6)) (env := [some ⟨.int (m : Nat), .fz⟩, some ⟨tabV h S, .fz⟩, none, some ⟨.int (h : Nat), .fz⟩, some ⟨pairV m (m + 1), .fz⟩, some ⟨.int (f : Nat), .fz⟩, none]) (v := 6) (it := .var 1) (c := .cmp .eq (.var 6) (.var 5)) (elt := .con (.int 1)) (xs := (TT h S h).map oV) (l := [1]) (fun z => unO z == some f) (fun _ => .int 1) (pw_var rfl rfl) (fun i hi => by rw [List.mem_singleton.mp hi]; rfl) (show 6 < 7 by decide) (T_lenle P)
        (fun z hz => by
          obtain ⟨o, _, rfl⟩ := List.mem_map.mp hz
          rw [un_oV]
          exact Pv.of (vl_cmp (pv_at rfl) (pv_at rfl) (oV_eq o f))) (fun z hz q => pc_con _)
      refine Pc.of (vl_bi1 (Pv.of hl) (r := .int (cnt (TT h S h) (pnt (.int (f : Nat))) : Nat)) (f := false) ?_)
      show some (PV.int (((((TT h S h).map oV).filter fun z => unO z == some f).map fun _ => PV.int 1).length : Nat), false) = some (PV.int ((cnt (TT h S h) f : Nat) : Int), false)
      rw [ones_len, cnt_oV])
  unfold eCount
  rw [this]
  have e : (natL (List.range' 0 (m + 1))).map (fun z => PV.int (cnt (TT h S h) (pnt z) : Nat)) = natL ((List.range' 0 (m + 1)).map (cnt (TT h S h))) := by
    unfold natL
    rw [List.map_map, List.map_map]
    rfl
  rw [e, (pfC_at P.m1 (by omega) P.pf).1]
def eDue : E := .bin .add (.lst [(.con (.int 1))]) (.lc (.one 5) (.rngI [(.con (.int 1)), (.bin .add (.var 0) (.con (.int 1)))]) [] (.bin .mul (.con (.int 4)) (.var 5)))
theorem due_ev (P : PF h m S) {s2 : Option Slot} : ev M0 (run lim dd (d + 6)) eDue (E29 m h (some ⟨tabV h S, .fz⟩) s2) = some (.vl (.lst (natL (1 :: (List.range' 1 m).map fun f => 4 * f))) true, E29 m h (some ⟨tabV h S, .fz⟩) s2) := by
  have h13 := P.m13
  have hw : Pw M0 (run lim dd (d + 6)) (.rngI [(.con (.int 1)), (.bin .add (.var 0) (.con (.int 1)))]) (E29 m h (some ⟨tabV h S, .fz⟩) s2) (natL (List.range' 1 m)) [] := by
    have hr := rngL_nat 1 (m + 1)
    rw [Nat.add_sub_cancel] at hr
    rw [← hr]
    exact pw_rng2 (pv_con _) (Pv.of (vl_bin (pv_at rfl) (pv_con _) rfl)) rfl (inB_s (n := m + 1) (by omega))
  have := vl_lc0 (v := 5) (elt := .bin .mul (.con (.int 4)) (.var 5)) (fun z => .int (4 * pnt z : Nat)) hw (fun i hi => by cases hi) (show 5 < 7 by decide) (by
      unfold natL
      rw [List.length_map, List.length_range']
      exact Nat.le_of_lt (lt_sz (by omega))) (fun z hz => by
      obtain ⟨f, hf, rfl⟩ := mem_natL hz
      exact Pc.of (vl_bin (pv_con _) (pv_at rfl) (mulF_nat (a := 4) (b := f) (by have := List.mem_range'_1.mp hf; omega))))
  have e : (natL (List.range' 1 m)).map (fun z => PV.int (4 * pnt z : Nat)) = natL ((List.range' 1 m).map fun f => 4 * f) := by
    unfold natL
    rw [List.map_map, List.map_map]
    rfl
  rw [e] at this
  refine vl_bin (Pv.of (ev_one _ _)) (Pv.of this) ?_
  have hz : [PV.int 1].length + (natL ((List.range' 1 m).map fun f => 4 * f)).length ≤ sizeLine := by
    unfold natL
    rw [List.length_map, List.length_map, List.length_range']
    exact Nat.le_of_lt (lt_sz (n := 1 + m) (by omega))
  show addF (.lst [.int 1]) (.lst _) = _
  simp only [addF, hz, if_true]
  rfl
def eFour : E := .lst [(.var 0), (.bin .add (.var 0) (.con (.int 1))), (.bin .sub (.var 3) (.var 0)), (.bin .sub (.bin .sub (.var 3) (.var 0)) (.con (.int 1)))]
theorem four_ev (P : PF h m S) {s1 s2 : Option Slot} : ev M0 (run lim dd (d + 6)) eFour (E29 m h s1 s2) = some (.vl (.lst (natL [m, m + 1, h - m, h - m - 1])) true, E29 m h s1 s2) := by
  have mh := P.mh
  have e1 : binF .sub (.int (h : Nat)) (.int (m : Nat)) = some (.int ((h - m : Nat) : Int), false) := by
    show some (PV.int ((h : Int) - (m : Int)), false) = _
    rw [show (h : Int) - (m : Int) = ((h - m : Nat) : Int) by omega]
  exact vl_lst (pcs_cons (pc_fz rfl) (pcs_cons (Pc.of (vl_bin (pv_at rfl) (pv_con _) rfl)) (pcs_cons (Pc.of (vl_bin (pv_at rfl) (pv_at rfl) e1)) (pcs_cons (Pc.of (vl_bin (Pv.of (vl_bin (pv_at rfl) (pv_at rfl) e1)) (pv_con _) (subF1 (by omega)))) pcs_nil)))) (Nat.le_of_lt (lt_sz (n := 4) (by omega)))
theorem oV_plain (t : Tb) {n : Nat} : Plain (n + 1) (.tup (t.map oV)) := .tup fun x hx => by
  obtain ⟨o, _, rfl⟩ := List.mem_map.mp hx
  cases o with
  | none => exact .non
  | some v => exact .int _
theorem like25 {p : PV} {n : Nat} (hp : Plain n p) (d : Nat) : run lim dd (d + n + 2) 25 [p, p] = some ((.bl true, false), []) := like_run (D := dd) (li := 25) (ls := 24) rfl rfl n hp d
theorem like_ev (P : PF h m S) {s2 : Option Slot} : ev M0 (run lim dd (d + 6)) (.call 25 [(.var 1), (.bi .tuple [(.call 26 [(.var 3), eFour])])]) (E29 m h (some ⟨tabV h S, .fz⟩) s2) = some (.vl (.bl true) false, E29 m h (some ⟨tabV h S, .fz⟩) s2) := by
  have h4 := P.h4
  have hd := dials (d := d + 5) (h := h) (Ss := [m, m + 1, h - m, h - m - 1]) (sv := .lst (natL [m, m + 1, h - m, h - m - 1])) P.hh (lt_sz (n := h + 1) (by omega)) rfl
  rw [← T_perm P.hh P.me] at hd
  exact vl_call (ps := [tabV h S, tabV h S]) (pvs_cons (pv_at rfl) (pvs_cons (Pv.of (vl_bi1 (Pv.of (vl_call (ps := [.int (h : Nat), .lst (natL [m, m + 1, h - m, h - m - 1])]) (pvs_cons (pv_at rfl) (pvs_cons (Pv.of (four_ev P)) pvs_nil)) rfl hd)) rfl)) pvs_nil)) rfl (like25 (n := 1) (oV_plain _) (d + 3))
theorem c29_eq : c29 = ⟨[.val], 7, [.unp [3, 4] (.call 20 [(.var 0)]), .ite (.or (.cmp .ne (.var 3) (.bin .add (.bin .add (.bin .mul (.bin .mul (.con (.int 2)) (.var 0)) (.var 0)) (.bin .mul (.con (.int 2)) (.var 0))) (.con (.int 1)))) (.cmp .ne (.var 4) (.tup [(.var 0), (.bin .add (.var 0) (.con (.int 1)))]))) [.ret (.con (.bl false))] [], .set 1 (.call 15 [(.var 3), (.var 4)]), .set 2 eCount, .ite (.or (.cmp .ne (.var 2) eDue) (.not (.call 25 [(.var 1), (.bi .tuple [(.call 26 [(.var 3), eFour])])]))) [.ret (.con (.bl false))] [], .ret (.cmp .eq (.call 17 [(.var 3), (.var 4)]) (.var 0))]⟩ := rfl
theorem perfect_right (h1 : 1 ≤ m) (h13 : m ≤ 13) : run lim dd (d + 7) 29 [.int (m : Nat)] = some ((.bl true, false), []) := by
  obtain ⟨S, P⟩ := PF_at h1 h13
  refine run_rt (env := E29 m (2 * m * m + 2 * m + 1) (some ⟨tabV (2 * m * m + 2 * m + 1) S, .fz⟩) (some ⟨.lst (natL (1 :: (List.range' 1 m).map fun f => 4 * f)), .own⟩)) ((rfl : dd 29 = c29).trans c29_eq) rfl
    (exs_fl (env1 := E29 m (2 * m * m + 2 * m + 1) none none) (unp2 (vl_callv (p := .int (m : Nat)) (pc_fz rfl) rfl (perfect (d := d + 2) h1 h13)) rfl rfl)
    (exs_fl (env1 := E29 m (2 * m * m + 2 * m + 1) none none) (ite_pv (k := false) (Pv.of (vl_orb (k := false) (k' := false) (Pv.of (vl_cmp (pv_at rfl) (seven h13) (ne_self (okP_int _)))) (fun _ => vl_cmp (pv_at rfl) (Pv.of (vl_tup (pcs_cons (pc_fz rfl) (pcs_cons (Pc.of (vl_bin (pv_at rfl) (pv_con _) rfl)) pcs_nil)) (sz2 _ _))) (ne_self (pair_ok m (m + 1)))))) (fun q => by cases q) (fun _ => exs_nil _))
    (exs_fl (set_nl (vl_call (ps := [.int ((2 * m * m + 2 * m + 1 : Nat) : Int), pairV m (m + 1)]) (pvs_cons (pv_at rfl) (pvs_cons (pv_at rfl) pvs_nil)) rfl (both_tab (d := d) P)) rfl nl_none)
    (exs_fl (set_nl (count_ev (d := d) P) rfl nl_none)
    (exs_fl (env1 := E29 m (2 * m * m + 2 * m + 1) (some ⟨tabV (2 * m * m + 2 * m + 1) S, .fz⟩) (some ⟨.lst (natL (1 :: (List.range' 1 m).map fun f => 4 * f)), .own⟩)) (ite_pv (k := false) (Pv.of (vl_orb (k := false) (k' := false) (Pv.of (vl_cmp (pv_at rfl) (Pv.of (due_ev (d := d) P)) (ne_self (natL_ok _)))) (fun _ => vl_not (k := true) (Pv.of (like_ev (d := d) P))))) (fun q => by cases q) (fun _ => exs_nil _))
    (exs_rt (ret_vl (vl_cmp (Pv.of (vl_call (ps := [.int ((2 * m * m + 2 * m + 1 : Nat) : Int), pairV m (m + 1)]) (pvs_cons (pv_at rfl) (pvs_cons (pv_at rfl) pvs_nil)) rfl (both_dep (d := d) P))) (pv_at rfl) (eq_self (okP_int _)))))))))) rfl
end
end Lw
set_option Elab.async false
set_option linter.all false
set_option maxRecDepth 100000
set_option maxHeartbeats 4000000
namespace Lw
set_option autoImplicit false
open PySem hiding run
open L2 L2.Pz
section
variable {d : Nat} {h m : Nat}
theorem pB83 : pairB 8 3 ≠ none := by decide +kernel
theorem pB93 : pairB 9 3 = none := by decide +kernel
theorem pB11 : pairB 1 1 = none := by decide +kernel
def dB (m a b : Nat) : Bool := fullB (gr m) [a, b] m && !fullB (gr m) [a, b] (m - 1)
def dB8 : Bool := match pairB 8 3 with
  | some (a, b) => fullB 8 [a, b] 3 && !fullB 8 [a, b] 2
  | none => false
theorem dB8_ok : dB8 = true := by decide +kernel
def gB (m : Nat) : Bool := Nat.beq (gr m) (m * (m + 4) / 3 + 1) && (match pairB (gr m) m with
  | some (a, b) => dB m a b
  | none => false) && (pairB (gr m + 1) m).isNone
theorem gB_all : ((List.range' 2 7).all gB) = true := by decide +kernel
theorem dpt_B {h m a b : Nat} (hm : 1 ≤ m) (hmh : m ≤ h) (ha : a < h) (hb : b < h) (e : (fullB h [a, b] m && !fullB h [a, b] (m - 1)) = true) : dpt (TT h [a, b] h) = some m := by
  have hh : 0 < h := by omega
  have hS : ∀ s ∈ [a, b], s < h := fun s hs => by
    have hs : s = a ∨ s = b := by simpa using hs
    rcases hs with rfl | rfl <;> assumption
  rw [Bool.and_eq_true] at e
  have a1 := (dpt_ok hh hmh).mpr ((full_B hh hS).mp e.1)
  have a2 : okM (m - 1) (dpt (TT h [a, b] h)) ≠ true := fun q => by
    have := (full_B hh hS).mpr ((dpt_ok hh (by omega)).mp q)
    have e2 := e.2
    rw [this] at e2
    cases e2
  cases q : dpt (TT h [a, b] h) with
  | none => rw [q] at a1; cases a1
  | some v =>
    rw [q] at a1 a2
    have b1 : v ≤ m := of_decide_eq_true a1
    have b2 : ¬ v ≤ m - 1 := fun z => a2 (decide_eq_true z)
    congr 1; omega
theorem cl2_lt {h a b : Nat} (e : cl2 h a b = true) : a < h ∧ b < h := by
  unfold cl2 at e
  rw [Bool.and_eq_true, decide_eq_true_eq, decide_eq_true_eq] at e
  omega
/-- two_steps 8 3 -/
theorem p83 : ∃ a b, pairO 8 3 = some (a, b) ∧ cl2 8 a b = true ∧ dpt (TT 8 [a, b] 8) = some 3 := by
  have e := pair_B (h := 8) (m := 3) (by omega)
  have k := dB8_ok
  unfold dB8 at k
  rw [← e] at k
  cases q : pairO 8 3 with
  | none => rw [q] at k; cases k
  | some p =>
    obtain ⟨a, b⟩ := p
    rw [q] at k
    obtain ⟨hc, _⟩ := pairO_some q
    obtain ⟨ha, hb⟩ := cl2_lt hc
    exact ⟨a, b, rfl, hc, dpt_B (by omega) (by omega) ha hb k⟩
/-- the greatest clock's pair -/
theorem pG (h2 : 2 ≤ m) (h8 : m ≤ 8) : gr m = m * (m + 4) / 3 + 1 ∧ (∃ a b, pairO (gr m) m = some (a, b) ∧ cl2 (gr m) a b = true ∧ dpt (TT (gr m) [a, b] (gr m)) = some m) ∧ pairO (gr m + 1) m = none := by
  have k := List.all_eq_true.mp gB_all m (by rw [List.mem_range'_1]; omega)
  obtain ⟨_, _, _, _, _, g6, _⟩ := gr_at (m := m) (by omega) h8
  unfold gB at k
  rw [Bool.and_eq_true, Bool.and_eq_true, ← pair_B g6, ← pair_B (by omega)] at k
  obtain ⟨⟨k1, k2⟩, k3⟩ := k
  refine ⟨Nat.eq_of_beq_eq_true k1, ?_, Option.isNone_iff_eq_none.mp k3⟩
  cases q : pairO (gr m) m with
  | none => rw [q] at k2; cases k2
  | some p =>
    obtain ⟨a, b⟩ := p
    rw [q] at k2
    obtain ⟨hc, _⟩ := pairO_some q
    obtain ⟨ha, hb⟩ := cl2_lt hc
    exact ⟨a, b, rfl, hc, dpt_B (by omega) g6 ha hb k2⟩
/-! the law -/
def E30 (ns : List Int) (s1 s2 s3 s4 s5 s6 : Option Slot) : En := [some ⟨.scr ns, .ro⟩, s1, s2, s3, s4, s5, s6]
def dueV : PV := .lst [.int 3, .int 5, .int 8, .int 11, .tup [.int 13, .tup [.int 2, .int 3]]]
def eDue1 : E := .lst [(.con (.int 3)), (.con (.int 5)), (.con (.int 8)), (.con (.int 11)), (.tup [(.con (.int 13)), (.tup [(.con (.int 2)), (.con (.int 3))])])]
def eTold1 : E := .bin .add (.lc (.one 4) (.tup [(.con (.int 1)), (.con (.int 2)), (.con (.int 3)), (.con (.int 4))]) [] (.call 19 [(.var 4)])) (.lst [(.call 20 [(.con (.int 2))])])
theorem sz (n : Nat) (h : n ≤ 10000) : n ≤ sizeLine := Nat.le_of_lt (lt_sz h)
variable {ns : List Int} {s1 s2 s3 s4 s5 s6 : Option Slot}
theorem due1_ev : ev M0 (run lim dd (d + 8)) eDue1 (E30 ns s1 s2 s3 s4 s5 s6) = some (.vl dueV true, E30 ns s1 s2 s3 s4 s5 s6) :=
  vl_lst (pcs_cons (pc_con _) (pcs_cons (pc_con _) (pcs_cons (pc_con _) (pcs_cons (pc_con _) (pcs_cons (Pc.of (vl_tup (pcs_cons (pc_con _) (pcs_cons (Pc.of (vl_tup (pcs_cons (pc_con _) (pcs_cons (pc_con _) pcs_nil)) (sz 2 (by omega)))) pcs_nil)) (sz 2 (by omega)))) pcs_nil))))) (sz 5 (by omega))
theorem told1_ev : ev M0 (run lim dd (d + 8)) eTold1 (E30 ns s1 s2 s3 s4 s5 s6) = some (.vl dueV true, E30 ns s1 s2 s3 s4 s5 s6) := by
  have h1 := vl_lc0 (M := M0) (C := run lim dd (d + 8)) (env := E30 ns s1 s2 s3 s4 s5 s6) (v := 4) (it := .tup [(.con (.int 1)), (.con (.int 2)), (.con (.int 3)), (.con (.int 4))]) (elt := .call 19 [(.var 4)]) (fun z => .int (gr (pnt z) : Nat)) (pw_vl (vl_tup (ps := natL [1, 2, 3, 4]) (pcs_cons (pc_con _) (pcs_cons (pc_con _) (pcs_cons (pc_con _) (pcs_cons (pc_con _) pcs_nil)))) (sz 4 (by omega))) rfl) (fun i hi => by cases hi) (show 4 < 7 by decide) (sz 4 (by omega)) (fun z hz => by
    obtain ⟨f, hf, rfl⟩ := mem_natL hz
    have hf : f = 1 ∨ f = 2 ∨ f = 3 ∨ f = 4 := by simpa using hf
    exact Pc.of (vl_call (ps := [.int (f : Nat)]) (pvs_cons (pv_at rfl) pvs_nil) rfl (greatest (d := d + 4) (m := f) (by omega) (by omega))))
  have h2 : ev M0 (run lim dd (d + 8)) (.lst [(.call 20 [(.con (.int 2))])]) (E30 ns s1 s2 s3 s4 s5 s6) = some (.vl (.lst [pcV 2]) true, E30 ns s1 s2 s3 s4 s5 s6) :=
    vl_lst (pcs_cons (Pc.of (vl_callv (p := .int ((2 : Nat) : Int)) (pc_con _) rfl (perfect (d := d + 4) (m := 2) (by omega) (by omega)))) pcs_nil) (sz 1 (by omega))
  refine vl_bin (Pv.of h1) (Pv.of h2) ?_
  have hz : ((natL [1, 2, 3, 4]).map fun z => PV.int (gr (pnt z) : Nat)).length + [pcV 2].length ≤ sizeLine := sz 5 (by omega)
  show addF (.lst ((natL [1, 2, 3, 4]).map fun z => PV.int (gr (pnt z) : Nat))) (.lst [pcV 2]) = _
  simp only [addF, hz, if_true]
  rfl
theorem dueV_plain : Plain 3 dueV := .lst fun x hx => by
  have hx : x = .int 3 ∨ x = .int 5 ∨ x = .int 8 ∨ x = .int 11 ∨ x = .tup [.int 13, .tup [.int 2, .int 3]] := by simpa using hx
  rcases hx with rfl | rfl | rfl | rfl | rfl
  · exact .int _
  · exact .int _
  · exact .int _
  · exact .int _
  · refine .tup fun x hx => ?_
    have hx : x = .int 13 ∨ x = .tup [.int 2, .int 3] := by simpa using hx
    rcases hx with rfl | rfl
    · exact .int _
    · refine .tup fun x hx => ?_
      have hx : x = .int 2 ∨ x = .int 3 := by simpa using hx
      rcases hx with rfl | rfl <;> exact .int _
def cond1 : E := .or (.not (.call 25 [eTold1, eDue1])) (.cmp .is_ (.call 18 [(.con (.int 8)), (.con (.int 3))]) (.con .non))
theorem two83 : ∃ a b, cl2 8 a b = true ∧ dpt (TT 8 [a, b] 8) = some 3 ∧ ∀ d, run lim dd (d + 5) 18 [.int ((8 : Nat) : Int), .int ((3 : Nat) : Int)] = some ((pairV a b, false), []) := by
  obtain ⟨a, b, e1, e2, e3⟩ := p83
  refine ⟨a, b, e2, e3, fun d => ?_⟩
  rw [two_steps (by omega) (by omega) (by omega) (by omega), e1]; rfl
theorem cond1_ev : ev M0 (run lim dd (d + 8)) cond1 (E30 ns s1 s2 s3 s4 s5 s6) = some (.vl (.bl false) false, E30 ns s1 s2 s3 s4 s5 s6) := by
  obtain ⟨a, b, _, _, e⟩ := two83
  exact vl_orb (k := false) (k' := false) (Pv.of (vl_not (k := true) (Pv.of (vl_call (ps := [dueV, dueV]) (pvs_cons (Pv.of told1_ev) (pvs_cons (Pv.of due1_ev) pvs_nil)) rfl (like25 dueV_plain (d + 3))))))
    (fun _ => vl_cmp (Pv.of (vl_call (ps := [.int ((8 : Nat) : Int), .int ((3 : Nat) : Int)]) (pvs_cons (pv_con _) (pvs_cons (pv_con _) pvs_nil)) rfl (e (d + 3)))) (pv_con _) rfl)
def eTold2 : E := .lst [(.call 18 [(.con (.int 9)), (.con (.int 3))]), (.call 16 [(.con (.int 8)), (.call 18 [(.con (.int 8)), (.con (.int 3))])]), (.call 19 [(.con (.int 1))]), (.call 19 [(.con (.int 2))]), (.call 19 [(.con (.int 3))]), (.call 19 [(.con (.int 4))]), (.call 20 [(.con (.int 2))]), (.call 18 [(.con (.int 1)), (.con (.int 1))])]
def dueV2 : PV := .lst [.non, .int 3, .int 3, .int 5, .int 8, .int 11, .tup [.int 13, .tup [.int 2, .int 3]], .non]
theorem two_none {h m : Nat} (hh : 0 < h) (h4 : h ≤ 60) (hm : 1 ≤ m) (hm2 : m ≤ h) (e : pairB h m = none) (d : Nat) : run lim dd (d + 5) 18 [.int (h : Nat), .int (m : Nat)] = some ((.non, false), []) := by
  rw [two_steps hh h4 hm hm2, pair_B hm2, e]; rfl
theorem gcall (m : Nat) (h1 : 1 ≤ m) (h8 : m ≤ 8) : Pc M0 (run lim dd (d + 8)) (.call 19 [(.con (.int (m : Nat)))]) (E30 ns s1 s2 s3 s4 s5 s6) (.int (gr m : Nat)) :=
  Pc.of (vl_call (ps := [.int (m : Nat)]) (pvs_cons (pv_con _) pvs_nil) rfl (greatest (d := d + 4) h1 h8))
theorem told2_ev : ev M0 (run lim dd (d + 8)) eTold2 (E30 ns s1 s2 s3 s4 s5 s6) = some (.vl dueV2 true, E30 ns s1 s2 s3 s4 s5 s6) := by
  obtain ⟨a, b, hc, hd, e⟩ := two83
  have c16 := clock_depth2 (d := d + 2) (h := 8) (by omega) (by omega) hc
  rw [hd] at c16
  exact vl_lst
    (pcs_cons (Pc.of (vl_call (ps := [.int ((9 : Nat) : Int), .int ((3 : Nat) : Int)]) (pvs_cons (pv_con _) (pvs_cons (pv_con _) pvs_nil)) rfl (two_none (by omega) (by omega) (by omega) (by omega) pB93 (d + 3))))
    (pcs_cons (Pc.of (vl_call (ps := [.int ((8 : Nat) : Int), pairV a b]) (pvs_cons (pv_con _) (pvs_cons (Pv.of (vl_call (ps := [.int ((8 : Nat) : Int), .int ((3 : Nat) : Int)]) (pvs_cons (pv_con _) (pvs_cons (pv_con _) pvs_nil)) rfl (e (d + 3)))) pvs_nil)) rfl c16))
    (pcs_cons (gcall 1 (by omega) (by omega)) (pcs_cons (gcall 2 (by omega) (by omega)) (pcs_cons (gcall 3 (by omega) (by omega)) (pcs_cons (gcall 4 (by omega) (by omega))
    (pcs_cons (Pc.of (vl_callv (p := .int ((2 : Nat) : Int)) (pc_con _) rfl (perfect (d := d + 4) (m := 2) (by omega) (by omega))))
    (pcs_cons (Pc.of (vl_call (ps := [.int ((1 : Nat) : Int), .int ((1 : Nat) : Int)]) (pvs_cons (pv_con _) (pvs_cons (pv_con _) pvs_nil)) rfl (two_none (by omega) (by omega) (by omega) (by omega) pB11 (d + 3))))
    pcs_nil)))))))) (sz 8 (by omega))
end
end Lw
set_option Elab.async false
set_option linter.all false
set_option maxRecDepth 100000
set_option maxHeartbeats 4000000
namespace Lw
set_option autoImplicit false
open PySem hiding run
open L2 L2.Pz
/-! threaded slots -/
section
variable {M : Nat → List Md} {C : Cl} {W : Lp} {pm : List Nat} {env env1 env2 : En}
theorem cmp_th {o : Cop} {a b : E} {x y : Opd} {p q : PV} {r : Bool} (h1 : ev M C a env = some (x, env1)) (h2 : ev M C b env1 = some (y, env2)) (h3 : deref env2 x = some p) (h4 : deref env2 y = some q) (h5 : cmpF o p q = some r) : ev M C (.cmp o a b) env = some (.vl (.bl r) false, env2) := by
  rw [ev_cmp, h1]
  simp only [h2, h3, h4, h5]
theorem not_th {a : E} {k f : Bool} (h1 : ev M C a env = some (.vl (.bl k) f, env1)) : ev M C (.not a) env = some (.vl (.bl (!k)) false, env1) := by
  rw [ev_not, h1]; rfl
theorem call_th {f : Nat} {es : List E} {os : List Opd} {ps : List PV} {r : PV} {k : Bool} (h1 : evs M C es env = some (os, env1)) (h2 : derefs env1 os = some ps) (hm : M f = List.replicate ps.length Md.ro) (hc : C f ps = some ((r, k), [])) : ev M C (.call f es) env = some (.vl r k, env1) := by
  rw [ev_call, h1]
  simp only [pass_ro h2 hm, hc, back]
theorem callv_th {f : Nat} {e : E} {p r : PV} {g k : Bool} (h1 : ev M C e env = some (.vl p g, env1)) (hm : M f = [.val]) (hc : C f [p] = some ((r, k), [])) : ev M C (.call f [e]) env = some (.vl r k, env1) := by
  rw [ev_call, evs_cons h1 evs_nil]
  simp only [hm, pass, consume, hc, back]
theorem ite_no {c : E} {a : List S} {f : Bool} (h1 : ev M C c env = some (.vl (.bl false) f, env1)) : ex M C W pm (.ite c a []) env = some (.nx env1) := by
  rw [ex_ite, h1]
  exact exs_nil _
theorem or_ff {a b : E} {f g : Bool} (h1 : ev M C a env = some (.vl (.bl false) f, env1)) (h2 : ev M C b env1 = some (.vl (.bl false) g, env2)) : ev M C (.or a b) env = some (.vl (.bl false) g, env2) := by
  rw [ev_or, h1]
  exact h2
theorem and_f {a b : E} {f : Bool} (h1 : ev M C a env = some (.vl (.bl false) f, env1)) : ev M C (.and a b) env = some (.vl (.bl false) false, env1) := by
  rw [ev_and, h1]; rfl
theorem and_t {a b : E} {f : Bool} {r : Option (Opd × En)} (h1 : ev M C a env = some (.vl (.bl true) f, env1)) (h2 : ev M C b env1 = r) : ev M C (.and a b) env = r := by
  rw [ev_and, h1]; exact h2
theorem ite_t {c a b : E} {f : Bool} {r : Option (Opd × En)} (h1 : ev M C c env = some (.vl (.bl true) f, env1)) (h2 : ev M C a env1 = r) : ev M C (.ite c a b) env = r := by
  rw [ev_ite, h1]; exact h2
theorem ite_f {c a b : E} {f : Bool} {r : Option (Opd × En)} (h1 : ev M C c env = some (.vl (.bl false) f, env1)) (h2 : ev M C b env1 = r) : ev M C (.ite c a b) env = r := by
  rw [ev_ite, h1]; exact h2
end
section
variable {d : Nat} {ns : List Int} {s1 s2 s3 s4 s5 s6 : Option Slot} {c : PV}
theorem roll_ev {e : E} {x : Opd} {m : Int} (hc : Cup c) (he : ev M0 (run lim dd (d + 8)) e (E30 ns s1 (some ⟨c, .own⟩) s3 s4 s5 s6) = some (x, E30 ns s1 (some ⟨c, .own⟩) s3 s4 s5 s6)) (hx : deref (E30 ns s1 (some ⟨c, .own⟩) s3 s4 s5 s6) x = some (.int m)) (hn : Opd.is 2 x = false) (hm : 0 < m) (hl : m < 2 ^ 200) :
    ∃ (v : Nat) (c' : PV), (v : Int) < m ∧ Cup c' ∧ ev M0 (run lim dd (d + 8)) (.call 22 [(.var 2), e]) (E30 ns s1 (some ⟨c, .own⟩) s3 s4 s5 s6) = some (.vl (.int (v : Nat)) false, E30 ns s1 (some ⟨c', .own⟩) s3 s4 s5 s6) := by
  obtain ⟨v, c', h0, h1, h2, hr⟩ := roll (W := lim) (D := dd) (i := 22) rfl (d + 7) hc hm hl
  obtain ⟨n, rfl⟩ : ∃ n : Nat, v = (n : Int) := ⟨v.toNat, by omega⟩
  refine ⟨n, c', h1, h2, ?_⟩
  have hp : pass (M0 22) [.sl 2, x] (E30 ns s1 (some ⟨c, .own⟩) s3 s4 s5 s6) = some ([c, .int m], [2], E30 ns s1 (some ⟨c, .own⟩) s3 s4 s5 s6) := by
    show pass [.mu, .ro] [.sl 2, x] _ = _
    have h2 : (E30 ns s1 (some ⟨c, .own⟩) s3 s4 s5 s6)[2]? = some (some ⟨c, .own⟩) := rfl
    simp only [pass, h2, hx, hn, List.any_cons, List.any_nil, Bool.or_false, if_false, Bool.false_eq_true]
  rw [ev_call, evs_cons (ev_var_of rfl) (evs_cons he evs_nil)]
  simp only [hp, hr]
  rfl
theorem rollc (hc : Cup c) (m : Int) (hm : 0 < m) (hl : m < 2 ^ 200) :
    ∃ (v : Nat) (c' : PV), (v : Int) < m ∧ Cup c' ∧ ev M0 (run lim dd (d + 8)) (.call 22 [(.var 2), (.con (.int m))]) (E30 ns s1 (some ⟨c, .own⟩) s3 s4 s5 s6) = some (.vl (.int (v : Nat)) false, E30 ns s1 (some ⟨c', .own⟩) s3 s4 s5 s6) :=
  roll_ev hc (ev_con _ _) rfl rfl hm hl
theorem addc {k : Nat} {v : Nat} {e : E} {env env1 : En} (h : ev M0 (run lim dd (d + 8)) e env = some (.vl (.int (v : Nat)) false, env1)) : ev M0 (run lim dd (d + 8)) (.bin .add (.con (.int (k : Nat))) e) env = some (.vl (.int ((k + v : Nat) : Int)) false, env1) :=
  ev_bin_of (ev_con _ _) h rfl rfl rfl
/-- a turn of the law's loop -/
def bL : List S := [.set 6 (.bin .add (.con (.int 1)) (.call 22 [(.var 2), (.var 3)])), .ite (.not (.call 28 [(.var 6), (.bin .add (.con (.int 1)) (.call 22 [(.var 2), (.bi .min [(.var 6), (.con (.int 8))])]))])) [.ret (.con (.bl false))] []]
theorem turn30 {m : Nat} (h1 : 1 ≤ m) (h22 : m ≤ 22) (hc : Cup c) (n6 : NL s6) : ∃ c' s6', Cup c' ∧ NL s6' ∧ exs M0 (run lim dd (d + 8)) lim [] bL (E30 ns s1 (some ⟨c, .own⟩) (some ⟨.int (m : Nat), .fz⟩) s4 s5 s6) = some (.nx (E30 ns s1 (some ⟨c', .own⟩) (some ⟨.int (m : Nat), .fz⟩) s4 s5 s6')) := by
  obtain ⟨v, c1, hv, hc1, e1⟩ := roll_ev (d := d) (ns := ns) (s1 := s1) (s3 := some ⟨.int (m : Nat), .fz⟩) (s4 := s4) (s5 := s5) (s6 := s6) (e := .var 3) (x := .sl 3) (m := (m : Nat)) hc (ev_var_of rfl) rfl rfl (by omega) (by omega)
  have a1 := addc (k := 1) e1
  have hh : 1 + v ≤ 22 := by omega
  obtain ⟨w, c2, hw, hc2, e2⟩ := roll_ev (d := d) (ns := ns) (s1 := s1) (s3 := some ⟨.int (m : Nat), .fz⟩) (s4 := s4) (s5 := s5) (s6 := some ⟨.int ((1 + v : Nat) : Int), .fz⟩) (e := .bi .min [(.var 6), (.con (.int 8))]) (x := .vl (.int (if (8 : Int) < ((1 + v : Nat) : Int) then 8 else ((1 + v : Nat) : Int))) false) (m := if (8 : Int) < ((1 + v : Nat) : Int) then 8 else ((1 + v : Nat) : Int)) hc1
    (vl_bi (ps := [.int ((1 + v : Nat) : Int), .int 8]) (pvs_cons (pv_at rfl) (pvs_cons (pv_con _) pvs_nil)) rfl) rfl rfl (by split <;> omega) (by split <;> omega)
  have hw2 : 1 + w ≤ 1 + v := by split at hw <;> omega
  have a2 := addc (k := 1) e2
  refine ⟨c2, some ⟨.int ((1 + v : Nat) : Int), .fz⟩, hc2, nl_fz _, ?_⟩
  refine exs_fl (env1 := E30 ns s1 (some ⟨c1, .own⟩) (some ⟨.int (m : Nat), .fz⟩) s4 s5 (some ⟨.int ((1 + v : Nat) : Int), .fz⟩)) (set_nl a1 (s := s6) rfl n6) ?_
  exact exs_fl (ite_no (not_th (k := true) (call_th (ps := [.int ((1 + v : Nat) : Int), .int ((1 + w : Nat) : Int)]) (evs_cons (ev_var_of rfl) (evs_cons a2 evs_nil)) rfl rfl (two_right (d := d + 1) (by omega) (by omega) (by omega) hw2)))) (exs_nil _)
def eTup : E := .tup [(.con (.int 6)), (.con (.int 14)), (.con (.int 22))]
def RL (ns : List Int) (s1 : Option Slot) (env : En) : Prop := ∃ (c : PV) (s3 s6 : Option Slot), Cup c ∧ NL s3 ∧ NL s6 ∧ env = E30 ns s1 (some ⟨c, .own⟩) s3 none none s6
theorem loop30 (hc : Cup c) : ∃ env', ex M0 (run lim dd (d + 8)) lim [] (.for_ (.one 3) eTup bL) (E30 ns s1 (some ⟨c, .own⟩) none none none none) = some (.nx env') ∧ RL ns s1 env' := by
  obtain ⟨env', e1, e2⟩ := forGo_rel (α := Unit) (turn := forT M0 (run lim dd (d + 8)) lim [] (.one 3) bL) (l := natL [6, 14, 22]) (a := ()) (R := fun _ => RL ns s1) (step := fun _ _ => ()) (env := E30 ns s1 (some ⟨c, .own⟩) none none none none) ⟨c, none, none, hc, nl_none, nl_none, rfl⟩ (by
    rintro z hz _ env ⟨c, s3, s6, hc, n3, n6, rfl⟩
    obtain ⟨m, hm, rfl⟩ := mem_natL hz
    have hm : m = 6 ∨ m = 14 ∨ m = 22 := by simpa using hm
    obtain ⟨c', s6', hc', n6', e⟩ := turn30 (d := d) (ns := ns) (s1 := s1) (s4 := none) (s5 := none) (m := m) (by omega) (by omega) hc n6
    refine ⟨E30 ns s1 (some ⟨c', .own⟩) (some ⟨.int (m : Nat), .fz⟩) none none s6', ?_, (⟨c', some ⟨.int (m : Nat), .fz⟩, s6', hc', nl_fz _, n6', rfl⟩ : RL ns s1 _)⟩
    unfold forT
    rw [show bindTg [] (.one 3) (.int (m : Nat)) (E30 ns s1 (some ⟨c, .own⟩) s3 none none s6) = some (E30 ns s1 (some ⟨c, .own⟩) (some ⟨.int (m : Nat), .fz⟩) none none s6) from st_nl rfl n3 _ _]
    exact e)
  exact ⟨env', ex_for_pw (pw_vl (vl_tup (ps := natL [6, 14, 22]) (pcs_cons (pc_con _) (pcs_cons (pc_con _) (pcs_cons (pc_con _) pcs_nil))) (sz 3 (by omega))) rfl) e1, e2⟩
def eOr : E := .or (.not (.call 29 [(.bin .add (.con (.int 1)) (.call 22 [(.var 2), (.con (.int 13))]))])) (.and (.cmp .eq (.call 22 [(.var 2), (.con (.int 6))]) (.con (.int 0))) (.not (.call 28 [(.bin .add (.con (.int 23)) (.call 22 [(.var 2), (.con (.int 14))])), (.bin .add (.con (.int 4)) (.call 22 [(.var 2), (.con (.int 9))]))])))
theorem or30 (hc : Cup c) : ∃ c', Cup c' ∧ ev M0 (run lim dd (d + 8)) eOr (E30 ns s1 (some ⟨c, .own⟩) s3 s4 s5 s6) = some (.vl (.bl false) false, E30 ns s1 (some ⟨c', .own⟩) s3 s4 s5 s6) := by
  obtain ⟨v1, c1, h1, hc1, e1⟩ := rollc (d := d) (ns := ns) (s1 := s1) (s3 := s3) (s4 := s4) (s5 := s5) (s6 := s6) hc 13 (by omega) (by omega)
  have a1 := not_th (k := true) (callv_th (f := 29) (addc (k := 1) e1) rfl (perfect_right (d := d + 1) (m := 1 + v1) (by omega) (by omega)))
  obtain ⟨v2, c2, h2, hc2, e2⟩ := rollc (d := d) (ns := ns) (s1 := s1) (s3 := s3) (s4 := s4) (s5 := s5) (s6 := s6) hc1 6 (by omega) (by omega)
  have a2 := cmp_th (o := .eq) e2 (ev_con (.int 0) _) rfl rfl (eqF_int _ _ _)
  by_cases q : v2 = 0
  · subst q
    obtain ⟨v3, c3, h3, hc3, e3⟩ := rollc (d := d) (ns := ns) (s1 := s1) (s3 := s3) (s4 := s4) (s5 := s5) (s6 := s6) hc2 14 (by omega) (by omega)
    obtain ⟨v4, c4, h4, hc4, e4⟩ := rollc (d := d) (ns := ns) (s1 := s1) (s3 := s3) (s4 := s4) (s5 := s5) (s6 := s6) hc3 9 (by omega) (by omega)
    have a3 := not_th (k := true) (call_th (f := 28) (ps := [.int ((23 + v3 : Nat) : Int), .int ((4 + v4 : Nat) : Int)]) (evs_cons (addc (k := 23) e3) (evs_cons (addc (k := 4) e4) evs_nil)) rfl rfl (two_right (d := d + 1) (h := 23 + v3) (m := 4 + v4) (by omega) (by omega) (by omega) (by omega)))
    exact ⟨c4, hc4, or_ff a1 (and_t a2 a3)⟩
  · refine ⟨c2, hc2, or_ff a1 (and_f (f := false) ?_)⟩
    rw [a2]
    have : (((v2 : Nat) : Int) == 0) = false := by
      rw [beq_eq_false_iff_ne]; omega
    rw [this]; rfl
def eSize : E := .ite (.cmp .gt (.call 22 [(.var 2), (.con (.int 6))]) (.con (.int 0))) (.bin .add (.con (.int 2)) (.call 22 [(.var 2), (.con (.int 4))])) (.bin .add (.con (.int 6)) (.call 22 [(.var 2), (.con (.int 3))]))
theorem size30 (hc : Cup c) : ∃ c' m, Cup c' ∧ 2 ≤ m ∧ m ≤ 8 ∧ ev M0 (run lim dd (d + 8)) eSize (E30 ns s1 (some ⟨c, .own⟩) s3 s4 s5 s6) = some (.vl (.int (m : Nat)) false, E30 ns s1 (some ⟨c', .own⟩) s3 s4 s5 s6) := by
  obtain ⟨v2, c2, h2, hc2, e2⟩ := rollc (d := d) (ns := ns) (s1 := s1) (s3 := s3) (s4 := s4) (s5 := s5) (s6 := s6) hc 6 (by omega) (by omega)
  have a2 := cmp_th (o := .gt) (r := decide ((0 : Int) < (v2 : Nat))) e2 (ev_con (.int 0) _) rfl rfl rfl
  by_cases q : v2 = 0
  · obtain ⟨v3, c3, h3, hc3, e3⟩ := rollc (d := d) (ns := ns) (s1 := s1) (s3 := s3) (s4 := s4) (s5 := s5) (s6 := s6) hc2 3 (by omega) (by omega)
    rw [decide_eq_false (by omega)] at a2
    exact ⟨c3, 6 + v3, hc3, by omega, by omega, ite_f a2 (addc (k := 6) e3)⟩
  · obtain ⟨v3, c3, h3, hc3, e3⟩ := rollc (d := d) (ns := ns) (s1 := s1) (s3 := s3) (s4 := s4) (s5 := s5) (s6 := s6) hc2 4 (by omega) (by omega)
    rw [decide_eq_true (by omega)] at a2
    exact ⟨c3, 2 + v3, hc3, by omega, by omega, ite_t a2 (addc (k := 2) e3)⟩
end
end Lw
set_option Elab.async false
set_option linter.all false
set_option maxRecDepth 100000
set_option maxHeartbeats 4000000
namespace Lw
set_option autoImplicit false
open PySem hiding run
open L2 L2.Pz
section
variable {d : Nat} {ns : List Int} {s1 s2 s3 s4 s5 s6 : Option Slot} {c : PV}
def eDue2 : E := .lst [(.con .non), (.con (.int 3)), (.con (.int 3)), (.con (.int 5)), (.con (.int 8)), (.con (.int 11)), (.tup [(.con (.int 13)), (.tup [(.con (.int 2)), (.con (.int 3))])]), (.con .non)]
theorem due2_ev : ev M0 (run lim dd (d + 8)) eDue2 (E30 ns s1 s2 s3 s4 s5 s6) = some (.vl dueV2 true, E30 ns s1 s2 s3 s4 s5 s6) :=
  vl_lst (pcs_cons (pc_con _) (pcs_cons (pc_con _) (pcs_cons (pc_con _) (pcs_cons (pc_con _) (pcs_cons (pc_con _) (pcs_cons (pc_con _) (pcs_cons (Pc.of (vl_tup (pcs_cons (pc_con _) (pcs_cons (Pc.of (vl_tup (pcs_cons (pc_con _) (pcs_cons (pc_con _) pcs_nil)) (sz 2 (by omega)))) pcs_nil)) (sz 2 (by omega)))) (pcs_cons (pc_con _) pcs_nil)))))))) (sz 8 (by omega))
theorem dueV2_plain : Plain 3 dueV2 := .lst fun x hx => by
  have hx : x = .non ∨ x = .int 3 ∨ x = .int 5 ∨ x = .int 8 ∨ x = .int 11 ∨ x = .tup [.int 13, .tup [.int 2, .int 3]] := by
    simp only [List.mem_cons, List.not_mem_nil, or_false] at hx
    rcases hx with h | h | h | h | h | h | h | h <;> simp [h]
  rcases hx with rfl | rfl | rfl | rfl | rfl | rfl
  · exact .non
  · exact .int _
  · exact .int _
  · exact .int _
  · exact .int _
  · refine .tup fun x hx => ?_
    have hx : x = .int 13 ∨ x = .tup [.int 2, .int 3] := by simpa using hx
    rcases hx with rfl | rfl
    · exact .int _
    · refine .tup fun x hx => ?_
      have hx : x = .int 2 ∨ x = .int 3 := by simpa using hx
      rcases hx with rfl | rfl <;> exact .int _
theorem c30_eq : c30 = ⟨[.ro], 7, [.ite cond1 [.ret (.con (.bl false))] [], .set 1 eTold2, .ite (.not (.call 25 [(.var 1), eDue2])) [.ret (.con (.bl false))] [], .set 2 (.call 21 [(.var 0)]), .for_ (.one 3) eTup bL, .ite eOr [.ret (.con (.bl false))] [], .set 4 eSize, .set 3 (.call 19 [(.var 4)]), .ite (.cmp .ne (.var 3) (.bin .add (.bin .fdiv (.bin .mul (.var 4) (.bin .add (.var 4) (.con (.int 4)))) (.con (.int 3))) (.con (.int 1)))) [.ret (.con (.bl false))] [], .set 5 (.call 18 [(.var 3), (.var 4)]), .ret (.and (.cmp .isn (.var 5) (.con .non)) (.and (.cmp .eq (.call 27 [(.var 3), (.var 5)]) (.var 4)) (.cmp .is_ (.call 18 [(.bin .add (.var 3) (.con (.int 1))), (.var 4)]) (.con .non))))]⟩ := rfl
theorem hrun (ns : List Int) (hl : ns.length ≤ 63) : ∃ b os, run lim dd 200 30 [.scr ns] = some ((.bl true, b), os) := by
  obtain ⟨c, hc, hcup⟩ := cup_run (W := lim) (D := dd) (i := 21) rfl 198 hl
  obtain ⟨env5, e5, c5, s3, s6, hc5, n3, n6, rfl⟩ := loop30 (d := 191) (ns := ns) (s1 := some ⟨dueV2, .own⟩) hc
  obtain ⟨c6, hc6, e6⟩ := or30 (d := 191) (ns := ns) (s1 := some ⟨dueV2, .own⟩) (s3 := s3) (s4 := none) (s5 := none) (s6 := s6) hc5
  obtain ⟨c7, m, hc7, h2, h8, e7⟩ := size30 (d := 191) (ns := ns) (s1 := some ⟨dueV2, .own⟩) (s3 := s3) (s4 := none) (s5 := none) (s6 := s6) hc6
  obtain ⟨g1, ⟨a, b, g2, g3, g4⟩, g5⟩ := pG h2 h8
  obtain ⟨_, _, f3, _, _, f6, f7⟩ := gr_at (m := m) (by omega) h8
  refine ⟨false, [], run_rt (env := E30 ns (some ⟨dueV2, .own⟩) (some ⟨c7, .own⟩) (some ⟨.int (gr m : Nat), .fz⟩) (some ⟨.int (m : Nat), .fz⟩) (some ⟨pairV a b, .fz⟩) s6) (d := 199) ((rfl : dd 30 = c30).trans c30_eq) rfl ?_ rfl⟩
  show exs M0 (run lim dd (191 + 8)) lim [] _ (E30 ns none none none none none none) = _
  refine exs_fl (ite_no cond1_ev) (exs_fl (set_nl told2_ev rfl nl_none) ?_)
  refine exs_fl (env1 := E30 ns (some ⟨dueV2, .own⟩) none none none none none) (ite_no (not_th (k := true) (vl_call (ps := [dueV2, dueV2]) (pvs_cons (pv_at rfl) (pvs_cons (Pv.of due2_ev) pvs_nil)) rfl (like25 dueV2_plain 194)))) ?_
  refine exs_fl (env1 := E30 ns (some ⟨dueV2, .own⟩) (some ⟨c, .own⟩) none none none none) (set_nl (vl_call (ps := [.scr ns]) (pvs_cons (pv_at rfl) pvs_nil) rfl hcup) (s := none) rfl nl_none) ?_
  refine exs_fl e5 (exs_fl (ite_no e6) (exs_fl (set_nl e7 (s := none) rfl nl_none) ?_))
  refine exs_fl (env1 := E30 ns (some ⟨dueV2, .own⟩) (some ⟨c7, .own⟩) (some ⟨.int (gr m : Nat), .fz⟩) (some ⟨.int (m : Nat), .fz⟩) none s6) (set_nl (vl_call (ps := [.int (m : Nat)]) (pvs_cons (pv_at rfl) pvs_nil) rfl (greatest (d := 195) (m := m) (by omega) h8)) (s := s3) rfl n3) ?_
  have hne : cmpF .ne (.int (gr m : Nat)) (.int ((m * (m + 4) / 3 + 1 : Nat) : Int)) = some false := ne_of (by rw [g1]) (okP_int _)
  refine exs_fl (ite_no (vl_cmp (pv_at rfl) (Pv.of (vl_bin (Pv.of (vl_bin (Pv.of (vl_bin (pv_at rfl) (Pv.of (vl_bin (pv_at rfl) (pv_con _) rfl)) (mulF_nat (a := m) (b := m + 4) (by omega)))) (pv_con _) (fdivF (b := 3) (by omega) (by omega)))) (pv_con _) rfl)) hne)) ?_
  have t5 := two_steps (d := 194) (h := gr m) (m := m) f3 (by omega) (by omega) f6
  rw [g2] at t5
  refine exs_fl (env1 := E30 ns (some ⟨dueV2, .own⟩) (some ⟨c7, .own⟩) (some ⟨.int (gr m : Nat), .fz⟩) (some ⟨.int (m : Nat), .fz⟩) (some ⟨pairV a b, .fz⟩) s6) (set_nl (vl_call (ps := [.int (gr m : Nat), .int (m : Nat)]) (pvs_cons (pv_at rfl) (pvs_cons (pv_at rfl) pvs_nil)) rfl t5) (s := none) rfl nl_none) ?_
  have t27 := law_depth (d := 197) (h := gr m) (Ss := [a, b]) (sv := pairV a b) f3 (lt_sz (by omega)) rfl
  rw [g4] at t27
  have t6 := two_steps (d := 194) (h := gr m + 1) (m := m) (by omega) (by omega) (by omega) (by omega)
  rw [g5] at t6
  refine exs_rt (ret_vl (vl_and (k := true) (Pv.of (vl_cmp (pv_at rfl) (pv_con _) rfl)) (fun _ => vl_and (k := true) (Pv.of (vl_cmp (Pv.of (vl_call (ps := [.int (gr m : Nat), pairV a b]) (pvs_cons (pv_at rfl) (pvs_cons (pv_at rfl) pvs_nil)) rfl t27)) (pv_at rfl) (eq_self (okP_int _)))) (fun _ => ?_) (fun q => by cases q)) (fun q => by cases q)))
  exact vl_cmp (Pv.of (vl_call (ps := [.int ((gr m + 1 : Nat) : Int), .int (m : Nat)]) (pvs_cons (Pv.of (vl_bin (pv_at rfl) (pv_con _) rfl)) (pvs_cons (pv_at rfl) pvs_nil)) rfl t6)) (pv_con _) rfl
end
end Lw
namespace Lw
open PySem PySem.Spec PyProof.Rows L2 L2.Pz
abbrev R : PySem.W.OpenRow := PySem.W.OpenLaw.row PySem.Challenge.rw_setsadded_k60_whole_greatest_clocks_for
abbrev fa : List He.Fa := faOf nf
abbrev fn : List He.DefD := fnOf tl
abbrev hk : PySem.W.Hook := He.hookD 4 fa fn
def ob (s : PySem.W.SharedT) : He.AlD := He.obsDG 4 fa fn (HandSHeadRun.getT s)
def nms : List Str := (["SumError", "InvalidSet", "InvalidClock", "InvalidNumber", "MOST", "is_integer", "is_whole", "is_rising", "are_members", "fits_clock", "need_clock", "fits_clock_set", "need_clock_set", "is_clock_set", "MOST_DEPTH", "MOST_BOTH", "SEARCHED", "table_in", "both_of", "depth_in", "pair_in", "greatest_in_depth", "need_depth", "both_table", "clock_depth", "both_depth", "two_steps", "greatest_clock", "perfect_clock", "_law_cup"] : List Str) ++ (["_law_roll", "_law_some", "_law_sort", "_law_like", "_law_dials", "_law_depth", "_law_two_right", "_law_perfect_right"] : List Str)
theorem ob_eq (s : PySem.W.SharedT) : ob s = hk.obs s.abs := He.obsDG_eq (HandSHeadRun.getT_eq s)
theorem run_top (w : World) : HandSHeadRun.RunEq R (PySem.W.view R.prog [42]) hk ob 6000 nms w := by
  intro os
  kernel_rfl
theorem chk_all : chkAll nf tl dl = true := by decide +kernel
end Lw
open PySem PySem.W PySem.Calls PyProof.Rows
theorem PySem.Challenge.cw_setsadded_k60_whole_greatest_clocks_for_holds : PySem.Challenge.rw_setsadded_k60_whole_greatest_clocks_for.Holds := by
  w_on; o_law
  refine HandSHeadRun.head_any (r := Lw.R) (q := view Lw.R.prog [42]) (H := Lw.hk) (ob := Lw.ob) (M := 6000) (loose := Lw.nms) (d := HandSHeadRun.topDef Lw.R.prog 42) (kwd := []) Lw.ob_eq
    (by kernel_rfl) (fun s => by kernel_rfl) Lw.run_top (by kernel_rfl) (by kernel_rfl)
    (by kernel_rfl) (by rfl) (by first | assumption | decide +kernel) (by decide +kernel) ⟨rfl, rfl, rfl, rfl, rfl, by decide +kernel⟩ ?hw ?hc
  case hw => w_witness2
  case hc =>
    refine L2.walk_ofE (l := PySem.Challenge.rw_setsadded_k60_whole_greatest_clocks_for) (n := 63) (k := 200) (x := "script") (CX := L2.CX0) rfl (by decide) (by kernel_rfl) ⟨rfl, by decide, by decide⟩ ?F
      (fun _ _ _ _ z => z)
    intro w mg fa h Y G hmg0
    obtain ⟨K, KX, c⟩ := Y
    have hmg : mg ("law" : PySem.Str) = some (.ref fa) := by
      have e : (HandSHeadRun.topDef Lw.R.prog 42).name = ("law" : PySem.Str) := by kernel_rfl
      rw [← e]; exact hmg0
    exact L2.Pz.law_F (nf := Lw.nf) (tl := Lw.tl) (dl := Lw.dl) w KX G c Lw.chk_all (li := 30) rfl hmg rfl rfl Lw.hrun
