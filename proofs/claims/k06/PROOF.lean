import PyProof.Rows.All
import Wide.All
import OpenK.AllK
import Wide.FinOn
import HandS.ForMost
import HandS.Defaults
import HandS.Wide
import HandS.Strs
import HandS.SetFor
import HandS.SortInts
import HandS.IsInst
import HandS.Deep
import HandS.TupLe
import HandS.TupAny
import HandS.Conv
import HandS.Rev
import HandS.Zip
import HandS.TupMul
import HandS.SortRule
import HandS.NamedTupSort
import HandS.TupSets
import KE.KTupSum
import HandS.Style
import KE.GoesMore
import HandS.Iter
import HandS.Small
import KE.KStateDown
import HandS.Head0
import HandS.Head1
import HandS.Head2
import HandS.HeadEnd
import HandS.HeadHook1
import HandS.HeadHook2
import PySem.Challenge.RW_setsadded_k06_whole_lists_of_short_sets
set_option Elab.async false
set_option linter.all false
set_option maxRecDepth 100000
set_option maxHeartbeats 4000000
namespace L2.Pz
set_option autoImplicit false
open PySem PySem.Spec PyProof.Rows L2

/-! ## Pz0: values without addresses, how they lie in the abstract heap -/
/-- a Python value as data: lists, dicts and sets by what they hold -/
inductive PV where
  | non | bl (b : Bool) | int (i : Int) | str (s : Str)
  | tup (xs : List PV) | lst (xs : List PV) | scr (xs : List Int) | rng (lo hi : Int)
  | dk (kvs : List (Key × PV)) | dt (kvs : List (List Key × PV))
  | set (xs : List Int)
instance : Inhabited PV := ⟨.non⟩

abbrev Ad := Addr → Prop
/-- the written part, the world -/
structure Gw where
  K : PySem.W.Frag
  w : World
/-- a tuple, a list of ints of the written part -/
def KT (K : PySem.W.Frag) (a : Addr) (xs : List V) : Prop := ∃ (o : Obj) (its : Array Value) (n : Nat), K.lookup a = some o ∧ o.cls = .type "tuple" ∧ o.data = .seq its n ∧ its.size ≤ sizeLine ∧ Vals xs its.toList
def KL (K : PySem.W.Frag) (a : Addr) (xs : List V) : Prop := ∃ (o : Obj) (its : Array Value) (n : Nat), K.lookup a = some o ∧ o.cls = .type "list" ∧ o.dict = none ∧ o.data = .seq its n ∧ its.size ≤ sizeLine ∧ Vals xs its.toList
/-- the set of ints -/
def SetIs (xs : List Int) (S : Int → Bool) (n : Nat) : Prop := xs.Nodup ∧ n = xs.length ∧ ∀ i, S i = xs.contains i

mutual
/-- v lies in the frozen part F of H and is the data -/
inductive RepV (g : Gw) (F : Ad) (H : Hp) : PV → V → Prop
  | non : RepV g F H .non .non
  | bl (b : Bool) : RepV g F H (.bl b) (.bl b)
  | int (i : Int) : RepV g F H (.int i) (.int i)
  | str (s : Str) : RepV g F H (.str s) (.str s)
  | tup {a : Addr} {xs : List PV} {vs : List V} : F a → H a = some (.tup vs) → RepL g F H xs vs → RepV g F H (.tup xs) (.ref a)
  | scr {a : Addr} {xs : List Int} : F a → Rd H a (.lst (xs.map V.int)) → RepV g F H (.scr xs) (.ref a)
  | scrK {a : Addr} {xs : List Int} : KL g.K a (xs.map V.int) → RepV g F H (.scr xs) (.ref a)
  | rng {a : Addr} {lo hi : Int} : F a → H a = some (.rng lo hi) → RepV g F H (.rng lo hi) (.ref a)
  | lst {a : Addr} {xs : List PV} {vs : List V} : F a → H a = some (.lst vs) → RepL g F H xs vs → RepV g F H (.lst xs) (.ref a)
  | dk {a : Addr} {ps : List (Key × PV)} {vs : List (Key × V)} : F a → H a = some (.dK vs) → RepK g F H ps vs → RepV g F H (.dk ps) (.ref a)
  | dt {a : Addr} {ps : List (List Key × PV)} {vs : List (List Key × V)} : F a → H a = some (.dT vs) → RepT g F H ps vs → RepV g F H (.dt ps) (.ref a)
  | set {a : Addr} {xs : List Int} {S : Int → Bool} {n : Nat} : F a → H a = some (SetO g.w a S n) → SetIs xs S n → RepV g F H (.set xs) (.ref a)
inductive RepL (g : Gw) (F : Ad) (H : Hp) : List PV → List V → Prop
  | nil : RepL g F H [] []
  | cons {x : PV} {v : V} {xs : List PV} {vs : List V} : RepV g F H x v → RepL g F H xs vs → RepL g F H (x :: xs) (v :: vs)
inductive RepK (g : Gw) (F : Ad) (H : Hp) : List (Key × PV) → List (Key × V) → Prop
  | nil : RepK g F H [] []
  | cons {k : Key} {x : PV} {v : V} {xs : List (Key × PV)} {vs : List (Key × V)} : RepV g F H x v → RepK g F H xs vs → RepK g F H ((k, x) :: xs) ((k, v) :: vs)
inductive RepT (g : Gw) (F : Ad) (H : Hp) : List (List Key × PV) → List (List Key × V) → Prop
  | nil : RepT g F H [] []
  | cons {k : List Key} {x : PV} {v : V} {xs : List (List Key × PV)} {vs : List (List Key × V)} : RepV g F H x v → RepT g F H xs vs → RepT g F H ((k, x) :: xs) ((k, v) :: vs)
end

/-- the content of the one object at a -/
inductive RepC (g : Gw) (F : Ad) (H : Hp) (a : Addr) : PV → Prop
  | lst {xs : List PV} {vs : List V} : H a = some (.lst vs) → RepL g F H xs vs → RepC g F H a (.lst xs)
  | dk {ps : List (Key × PV)} {vs : List (Key × V)} : H a = some (.dK vs) → RepK g F H ps vs → RepC g F H a (.dk ps)
  | dt {ps : List (List Key × PV)} {vs : List (List Key × V)} : H a = some (.dT vs) → RepT g F H ps vs → RepC g F H a (.dt ps)
  | set {xs : List Int} {S : Int → Bool} {n : Nat} : H a = some (SetO g.w a S n) → SetIs xs S n → RepC g F H a (.set xs)

/-- what is kept between two moments: F frozen, O owned (may change) -/
structure Ext (F : Ad) (H : Hp) (O : Ad) (F' : Ad) (H' : Hp) (O' : Ad) : Prop where
  keep : ∀ a o, H a = some o → ¬ O a → H' a = some o
  dom : ∀ a, H' a = none → H a = none
  mono : ∀ a, F a → F' a
  newF : ∀ a, F' a → F a ∨ O a ∨ H a = none
  newO : ∀ a, O' a → O a ∨ H a = none

theorem Ext.refl {F : Ad} {H : Hp} {O : Ad} : Ext F H O F H O := ⟨fun _ _ e _ => e, fun _ e => e, fun _ h => h, fun _ h => .inl h, fun _ h => .inl h⟩
theorem Ext.trans {F F1 F2 : Ad} {H H1 H2 : Hp} {O O1 O2 : Ad} (a : Ext F H O F1 H1 O1) (b : Ext F1 H1 O1 F2 H2 O2) (hF : ∀ x, F x → H x ≠ none) : Ext F H O F2 H2 O2 where
  keep := fun x o e n => b.keep x o (a.keep x o e n) fun q => (a.newO x q).elim n fun z => by rw [e] at z; cases z
  dom := fun x e => a.dom x (b.dom x e)
  mono := fun x h => b.mono x (a.mono x h)
  newF := fun x h => by
    rcases b.newF x h with h | h | h
    · exact a.newF x h
    · exact .inr (a.newO x h)
    · exact .inr (.inr (a.dom x h))
  newO := fun x h => by
    rcases b.newO x h with h | h
    · exact a.newO x h
    · exact .inr (a.dom x h)
theorem Ext.sub {F F1 : Ad} {H H1 : Hp} {O O1 O2 : Ad} (a : Ext F H O F1 H1 O1) (h : ∀ x, O2 x → O1 x) : Ext F H O F1 H1 O2 := ⟨a.keep, a.dom, a.mono, a.newF, fun x q => a.newO x (h x q)⟩
/-- more may be owned at the start -/
theorem Ext.wid {F F1 : Ad} {H H1 : Hp} {O O1 O2 : Ad} (a : Ext F H O F1 H1 O1) (h : ∀ x, O x → O2 x) : Ext F H O2 F1 H1 O1 :=
  ⟨fun x o e n => a.keep x o e fun q => n (h x q), a.dom, a.mono, fun x q => (a.newF x q).imp id fun z => z.imp (h x) id, fun x q => (a.newO x q).imp (h x) id⟩

theorem rdK {H H' : Hp} {a : Addr} {u : HO} (r : Rd H a u) (k : ∀ o, H a = some o → H' a = some o) : Rd H' a u := by
  rcases r with r | ⟨o, r⟩
  · exact .inl (k _ r)
  · exact .inr ⟨o, k _ r⟩
theorem rdD {H : Hp} {a : Addr} {u : HO} (r : Rd H a u) : H a ≠ none := by
  rcases r with r | ⟨o, r⟩ <;> rw [r] <;> exact fun h => nomatch h

mutual
theorem RepV.mono {g : Gw} {F F' : Ad} {H H' : Hp} (hF : ∀ a, F a → F' a) (k : ∀ a o, F a → H a = some o → H' a = some o) : ∀ {x : PV} {v : V}, RepV g F H x v → RepV g F' H' x v
  | _, _, .non => .non
  | _, _, .bl b => .bl b
  | _, _, .int i => .int i
  | _, _, .str s => .str s
  | _, _, .tup h r l => .tup (hF _ h) (k _ _ h r) (RepL.mono hF k l)
  | _, _, .scr h r => .scr (hF _ h) (rdK r fun o => k _ o h)
  | _, _, .scrK h => .scrK h
  | _, _, .rng h r => .rng (hF _ h) (k _ _ h r)
  | _, _, .lst h r l => .lst (hF _ h) (k _ _ h r) (RepL.mono hF k l)
  | _, _, .dk h r l => .dk (hF _ h) (k _ _ h r) (RepK.mono hF k l)
  | _, _, .dt h r l => .dt (hF _ h) (k _ _ h r) (RepT.mono hF k l)
  | _, _, .set h r l => .set (hF _ h) (k _ _ h r) l
theorem RepL.mono {g : Gw} {F F' : Ad} {H H' : Hp} (hF : ∀ a, F a → F' a) (k : ∀ a o, F a → H a = some o → H' a = some o) : ∀ {xs : List PV} {vs : List V}, RepL g F H xs vs → RepL g F' H' xs vs
  | _, _, .nil => .nil
  | _, _, .cons a b => .cons (RepV.mono hF k a) (RepL.mono hF k b)
theorem RepK.mono {g : Gw} {F F' : Ad} {H H' : Hp} (hF : ∀ a, F a → F' a) (k : ∀ a o, F a → H a = some o → H' a = some o) : ∀ {xs : List (Key × PV)} {vs : List (Key × V)}, RepK g F H xs vs → RepK g F' H' xs vs
  | _, _, .nil => .nil
  | _, _, .cons a b => .cons (RepV.mono hF k a) (RepK.mono hF k b)
theorem RepT.mono {g : Gw} {F F' : Ad} {H H' : Hp} (hF : ∀ a, F a → F' a) (k : ∀ a o, F a → H a = some o → H' a = some o) : ∀ {xs : List (List Key × PV)} {vs : List (List Key × V)}, RepT g F H xs vs → RepT g F' H' xs vs
  | _, _, .nil => .nil
  | _, _, .cons a b => .cons (RepV.mono hF k a) (RepT.mono hF k b)
end
theorem RepC.mono {g : Gw} {F F' : Ad} {H H' : Hp} {a : Addr} (hF : ∀ a, F a → F' a) (k : ∀ a o, F a → H a = some o → H' a = some o) (ha : ∀ o, H a = some o → H' a = some o) : ∀ {x : PV}, RepC g F H a x → RepC g F' H' a x
  | _, .lst e l => .lst (ha _ e) (l.mono hF k)
  | _, .dk e l => .dk (ha _ e) (l.mono hF k)
  | _, .dt e l => .dt (ha _ e) (l.mono hF k)
  | _, .set e l => .set (ha _ e) l
/-- an object becomes frozen -/
theorem RepC.freeze {g : Gw} {F : Ad} {H : Hp} {a : Addr} : ∀ {x : PV}, RepC g F H a x → RepV g (fun b => F b ∨ b = a) H x (.ref a)
  | _, .lst e l => .lst (.inr rfl) e (l.mono (fun _ h => .inl h) fun _ _ _ e => e)
  | _, .dk e l => .dk (.inr rfl) e (l.mono (fun _ h => .inl h) fun _ _ _ e => e)
  | _, .dt e l => .dt (.inr rfl) e (l.mono (fun _ h => .inl h) fun _ _ _ e => e)
  | _, .set e l => .set (.inr rfl) e l
theorem RepC.dom {g : Gw} {F : Ad} {H : Hp} {a : Addr} : ∀ {x : PV}, RepC g F H a x → H a ≠ none
  | _, .lst e _ => by rw [e]; exact fun h => nomatch h
  | _, .dk e _ => by rw [e]; exact fun h => nomatch h
  | _, .dt e _ => by rw [e]; exact fun h => nomatch h
  | _, .set e _ => by rw [e]; exact fun h => nomatch h

/-! ### slots -/
/-- frozen; owned; only read; owned, while a loop walks it -/
inductive Kd where | fz | own | ro | lk
  deriving DecidableEq
structure Slot where
  v : PV
  k : Kd
abbrev En := List (Option Slot)
/-- the slot i holds s -/
abbrev En.at (env : En) (i : Nat) (s : Slot) : Prop := env[i]? = some (some s)
def Own (σ : St) (env : En) : Ad := fun a => ∃ (i : Nat) (x : PV), env[i]? = some (some ⟨x, .own⟩) ∧ σ[i]? = some (some (.ref a))
def RepS (g : Gw) (F : Ad) (H : Hp) (s : Slot) (v : V) : Prop := match s.k with
  | .fz => RepV g F H s.v v
  | .own => ∃ a, v = .ref a ∧ ¬ F a ∧ RepC g F H a s.v
  | .ro => RepV g F H s.v v ∨ ∃ a, v = .ref a ∧ RepC g F H a s.v
  | .lk => ∃ a, v = .ref a ∧ ¬ F a ∧ RepC g F H a s.v
/-- no other name stands for the object -/
def Kd.ex : Kd → Bool
  | .own | .lk => true
  | _ => false
structure Rep (g : Gw) (F : Ad) (H : Hp) (σ : St) (env : En) : Prop where
  len : σ.length = env.length
  slot : ∀ (i : Nat) (s : Slot), env[i]? = some (some s) → ∃ v, σ[i]? = some (some v) ∧ RepS g F H s v
  sep : ∀ (i j : Nat) (x : Slot) (s : Slot) (a : Addr), i ≠ j → env[i]? = some (some x) → x.k.ex = true → env[j]? = some (some s) → s.k ≠ .fz → σ[i]? = some (some (.ref a)) → σ[j]? = some (some (.ref a)) → RepV g F H s.v (.ref a)
  dom : ∀ a, F a → H a ≠ none

theorem Rep.ownF {g : Gw} {F : Ad} {H : Hp} {σ : St} {env : En} (R : Rep g F H σ env) {a : Addr} (h : Own σ env a) : ¬ F a := by
  obtain ⟨i, x, e, es⟩ := h
  obtain ⟨v, ev, b, rfl, nf, _⟩ := R.slot i _ e
  rw [es] at ev; cases ev
  exact nf
theorem Rep.ownDom {g : Gw} {F : Ad} {H : Hp} {σ : St} {env : En} (R : Rep g F H σ env) {a : Addr} (h : Own σ env a) : H a ≠ none := by
  obtain ⟨i, x, e, es⟩ := h
  obtain ⟨v, ev, b, rfl, nf, c⟩ := R.slot i _ e
  rw [es] at ev; cases ev
  exact c.dom
/-- frozen data stays through an Ext -/
theorem Ext.fr {F F' : Ad} {H H' : Hp} {O O' : Ad} (x : Ext F H O F' H' O') (n : ∀ a, O a → ¬ F a) : ∀ a o, F a → H a = some o → H' a = some o := fun a o h e => x.keep a o e fun q => n a q h
theorem RepV.ext {g : Gw} {F F' : Ad} {H H' : Hp} {O O' : Ad} {p : PV} {v : V} (r : RepV g F H p v) (x : Ext F H O F' H' O') (n : ∀ a, O a → ¬ F a) : RepV g F' H' p v := r.mono x.mono (x.fr n)
theorem RepL.ext {g : Gw} {F F' : Ad} {H H' : Hp} {O O' : Ad} {p : List PV} {v : List V} (r : RepL g F H p v) (x : Ext F H O F' H' O') (n : ∀ a, O a → ¬ F a) : RepL g F' H' p v := r.mono x.mono (x.fr n)
theorem RepC.ext {g : Gw} {F F' : Ad} {H H' : Hp} {O O' : Ad} {a : Addr} {p : PV} (r : RepC g F H a p) (x : Ext F H O F' H' O') (n : ∀ a, O a → ¬ F a) (na : ¬ O a) : RepC g F' H' a p := r.mono x.mono (x.fr n) fun o e => x.keep a o e na

/-- how a value is read where it stands -/
def Peek (g : Gw) (F : Ad) (H : Hp) (p : PV) (v : V) : Prop := RepV g F H p v ∨ ∃ a, v = .ref a ∧ RepC g F H a p
inductive PeekL (g : Gw) (F : Ad) (H : Hp) : List PV → List V → Prop
  | nil : PeekL g F H [] []
  | cons {x : PV} {v : V} {xs : List PV} {vs : List V} : Peek g F H x v → PeekL g F H xs vs → PeekL g F H (x :: xs) (v :: vs)
theorem RepS.peek {g : Gw} {F : Ad} {H : Hp} {s : Slot} {v : V} (h : RepS g F H s v) : Peek g F H s.v v := by
  obtain ⟨p, k⟩ := s
  cases k with
  | fz => exact .inl h
  | own => obtain ⟨a, e, _, c⟩ := h; exact .inr ⟨a, e, c⟩
  | ro => exact h
  | lk => obtain ⟨a, e, _, c⟩ := h; exact .inr ⟨a, e, c⟩
theorem RepL.length {g : Gw} {F : Ad} {H : Hp} : ∀ {xs : List PV} {vs : List V}, RepL g F H xs vs → xs.length = vs.length
  | _, _, .nil => rfl
  | _, _, .cons _ t => congrArg Nat.succ t.length
theorem RepL.append {g : Gw} {F : Ad} {H : Hp} : ∀ {xs ys : List PV} {vs ws : List V}, RepL g F H xs vs → RepL g F H ys ws → RepL g F H (xs ++ ys) (vs ++ ws)
  | _, _, _, _, .nil, h => h
  | _, _, _, _, .cons a b, h => .cons a (b.append h)
theorem RepL.get {g : Gw} {F : Ad} {H : Hp} : ∀ {xs : List PV} {vs : List V} {i : Nat} {x : PV}, RepL g F H xs vs → xs[i]? = some x → ∃ v, vs[i]? = some v ∧ RepV g F H x v
  | _, _, 0, _, .cons a _, e => by cases e; exact ⟨_, rfl, a⟩
  | _, _, i + 1, x, .cons _ b, e => RepL.get (i := i) (x := x) b e
theorem RepL.drop {g : Gw} {F : Ad} {H : Hp} : ∀ {xs : List PV} {vs : List V} (n : Nat), RepL g F H xs vs → RepL g F H (xs.drop n) (vs.drop n)
  | _, _, 0, h => h
  | _, _, _ + 1, .nil => .nil
  | _, _, n + 1, .cons _ b => b.drop n
theorem RepL.take {g : Gw} {F : Ad} {H : Hp} : ∀ {xs : List PV} {vs : List V} (n : Nat), RepL g F H xs vs → RepL g F H (xs.take n) (vs.take n)
  | _, _, 0, _ => .nil
  | _, _, _ + 1, .nil => .nil
  | _, _, n + 1, .cons a b => .cons a (b.take n)
theorem RepL.set {g : Gw} {F : Ad} {H : Hp} {y : PV} {w : V} (h : RepV g F H y w) : ∀ {xs : List PV} {vs : List V} (n : Nat), RepL g F H xs vs → RepL g F H (xs.set n y) (vs.set n w)
  | _, _, _, .nil => .nil
  | _, _, 0, .cons _ b => .cons h b
  | _, _, n + 1, .cons a b => .cons a (b.set h n)
theorem RepL.rev {g : Gw} {F : Ad} {H : Hp} : ∀ {xs : List PV} {vs : List V}, RepL g F H xs vs → RepL g F H xs.reverse vs.reverse
  | _, _, .nil => .nil
  | _, _, .cons a b => by
    rw [List.reverse_cons, List.reverse_cons]
    exact b.rev.append (.cons a .nil)
theorem RepL.mapInt {g : Gw} {F : Ad} {H : Hp} : ∀ {xs : List Int}, RepL g F H (xs.map PV.int) (xs.map V.int)
  | [] => .nil
  | _ :: _ => .cons (.int _) RepL.mapInt
theorem RepL.ofInts {g : Gw} {F : Ad} {H : Hp} : ∀ {xs : List Int} {vs : List V}, RepL g F H (xs.map PV.int) vs → vs = xs.map V.int
  | [], _, .nil => rfl
  | x :: xs, _, .cons a b => by cases a; rw [b.ofInts]; rfl
theorem Peek.lst {g : Gw} {F : Ad} {H : Hp} {xs : List PV} {v : V} (h : Peek g F H (.lst xs) v) : ∃ a vs, v = .ref a ∧ H a = some (.lst vs) ∧ RepL g F H xs vs := by
  rcases h with h | ⟨a, rfl, h⟩
  · cases h with | lst f r l => exact ⟨_, _, rfl, r, l⟩
  · cases h with | lst e l => exact ⟨_, _, rfl, e, l⟩
theorem Peek.tup {g : Gw} {F : Ad} {H : Hp} {xs : List PV} {v : V} (h : Peek g F H (.tup xs) v) : ∃ a vs, v = .ref a ∧ H a = some (.tup vs) ∧ RepL g F H xs vs := by
  rcases h with h | ⟨a, rfl, h⟩
  · cases h with | tup f r l => exact ⟨_, _, rfl, r, l⟩
  · cases h
theorem Peek.scr {g : Gw} {F : Ad} {H : Hp} {xs : List Int} {v : V} (h : Peek g F H (.scr xs) v) : ∃ a, v = .ref a ∧ SqL g.K H a (xs.map V.int) := by
  rcases h with h | ⟨a, rfl, h⟩
  · cases h with
    | scr f r => exact ⟨_, rfl, .inl r⟩
    | scrK k => exact ⟨_, rfl, .inr k⟩
  · cases h
theorem Peek.rng {g : Gw} {F : Ad} {H : Hp} {lo hi : Int} {v : V} (h : Peek g F H (.rng lo hi) v) : ∃ a, v = .ref a ∧ H a = some (.rng lo hi) := by
  rcases h with h | ⟨a, rfl, h⟩
  · cases h with | rng f r => exact ⟨_, rfl, r⟩
  · cases h
theorem Peek.dk {g : Gw} {F : Ad} {H : Hp} {xs : List (Key × PV)} {v : V} (h : Peek g F H (.dk xs) v) : ∃ a vs, v = .ref a ∧ H a = some (.dK vs) ∧ RepK g F H xs vs := by
  rcases h with h | ⟨a, rfl, h⟩
  · cases h with | dk f r l => exact ⟨_, _, rfl, r, l⟩
  · cases h with | dk e l => exact ⟨_, _, rfl, e, l⟩
theorem Peek.dt {g : Gw} {F : Ad} {H : Hp} {xs : List (List Key × PV)} {v : V} (h : Peek g F H (.dt xs) v) : ∃ a vs, v = .ref a ∧ H a = some (.dT vs) ∧ RepT g F H xs vs := by
  rcases h with h | ⟨a, rfl, h⟩
  · cases h with | dt f r l => exact ⟨_, _, rfl, r, l⟩
  · cases h with | dt e l => exact ⟨_, _, rfl, e, l⟩
theorem Peek.set {g : Gw} {F : Ad} {H : Hp} {xs : List Int} {v : V} (h : Peek g F H (.set xs) v) : ∃ a S n, v = .ref a ∧ H a = some (SetO g.w a S n) ∧ SetIs xs S n := by
  rcases h with h | ⟨a, rfl, h⟩
  · cases h with | set f r l => exact ⟨_, _, _, rfl, r, l⟩
  · cases h with | set e l => exact ⟨_, _, _, rfl, e, l⟩
theorem Peek.int {g : Gw} {F : Ad} {H : Hp} {i : Int} {v : V} (h : Peek g F H (.int i) v) : v = .int i := by
  rcases h with h | ⟨a, rfl, h⟩
  · cases h; rfl
  · cases h
theorem Peek.bl {g : Gw} {F : Ad} {H : Hp} {i : Bool} {v : V} (h : Peek g F H (.bl i) v) : v = .bl i := by
  rcases h with h | ⟨a, rfl, h⟩
  · cases h; rfl
  · cases h
theorem Peek.str {g : Gw} {F : Ad} {H : Hp} {i : Str} {v : V} (h : Peek g F H (.str i) v) : v = .str i := by
  rcases h with h | ⟨a, rfl, h⟩
  · cases h; rfl
  · cases h
theorem Peek.non {g : Gw} {F : Ad} {H : Hp} {v : V} (h : Peek g F H .non v) : v = .non := by
  rcases h with h | ⟨a, rfl, h⟩
  · cases h; rfl
  · cases h
/-- what cannot change -/
def PV.imm : PV → Bool
  | .non | .bl _ | .int _ | .str _ | .tup _ | .scr _ | .rng _ _ => true
  | _ => false
theorem Peek.imm {g : Gw} {F : Ad} {H : Hp} {p : PV} {v : V} (h : Peek g F H p v) (i : p.imm = true) : RepV g F H p v := by
  rcases h with h | ⟨a, rfl, h⟩
  · exact h
  · cases h <;> cases i
end L2.Pz
set_option Elab.async false
set_option linter.all false
set_option maxRecDepth 100000
set_option maxHeartbeats 4000000
namespace L2.Pz
set_option autoImplicit false
open PySem PySem.Spec PyProof.Rows L2

/-! ## Pz1: code without places, its pure meaning -/
inductive Bop where | add | sub | mul | fdiv | mod | pow | band | bor | bxor | shl | shr
  deriving DecidableEq
inductive Uop where | neg | inv
  deriving DecidableEq
inductive Cop where | eq | ne | lt | le | gt | ge | inn | nin | is_ | isn
  deriving DecidableEq
inductive Ty where | int | bool | str | tuple | list | dict
  deriving DecidableEq
/-- built-in functions of values -/
inductive Bi where | len | sum | min | max | abs | all | any | sorted | set | tuple | list | dict | int | str | bool | range | zip | enumerate | reversed
  deriving DecidableEq
/-- methods that only read -/
inductive Mt where | get | items | values | index | count | join | split | find | keys
  deriving DecidableEq
/-- methods that change the object of a name -/
inductive Mm where | append | pop | update | setdefault | add
  deriving DecidableEq
/-- targets of for and of comprehensions -/
inductive Tg where | one (i : Nat) | many (is : List Nat)
  deriving DecidableEq
def Tg.slots : Tg → List Nat
  | .one i => [i]
  | .many is => is
inductive E where
  | con (c : PV) | var (i : Nat) | glo (x : Str) (c : PV)
  | bin (o : Bop) (a b : E) | un (o : Uop) (a : E)
  | cmp (o : Cop) (a b : E) | cmp2 (o p : Cop) (a b c : E)
  | and (a b : E) | or (a b : E) | not (a : E) | ite (c a b : E)
  | tup (es : List E) | lst (es : List E) | dsp (es : List E) | dnk | dnt
  | idx (a i : E) | slc (a : E) (lo hi : List E) | rev (a : E)
  | isi (t : Ty) (a : E)
  | call (f : Nat) (es : List E)
  | bi (b : Bi) (es : List E)
  | met (m : Mt) (o : E) (es : List E)
  | mm (m : Mm) (i : Nat) (es : List E)
  | zip (a b : E) | enum (a : E) | rngI (es : List E)
  | lc (tg : Tg) (it : E) (ifs : List E) (elt : E)
  | lc2 (tg : Tg) (it : E) (ifs : List E) (tg1 : Tg) (it1 : E) (ifs1 : List E) (elt : E)
/-- a place that is stored to -/
inductive Plc where
  | nm (i : Nat) | it (i : Nat) (k : E) | mn (is : List Nat)
inductive S where
  | pst (ts : List Plc) (es : List E)
  | ex (e : E) | set (i : Nat) (e : E) | unp (is : List Nat) (e : E) | par (is : List Nat) (es : List E)
  | sti (i : Nat) (k e : E) | aug (i : Nat) (o : Bop) (e : E) | dli (i : Nat) (k : E)
  | ite (c : E) (a b : List S) | whl (c : E) (b : List S) | for_ (tg : Tg) (it : E) (b : List S)
  | ret (e : E) | retN | nev | pas
/-- how a parameter is taken: a value, only read, changed -/
inductive Md where | val | ro | mu
  deriving DecidableEq
structure Dfn where
  modes : List Md
  slots : Nat
  body : List S

/-! ### values -/
mutual
def PV.toD : PV → PyData
  | .non => .none
  | .bl b => .bool b
  | .int i => .int i
  | .str s => .str s
  | .tup xs => .tuple (toDs xs)
  | .lst xs => .list (toDs xs)
  | .scr xs => .list (xs.map PyData.int)
  | .rng _ _ | .dk _ | .dt _ | .set _ => .dict []
def toDs : List PV → List PyData
  | [] => []
  | x :: xs => x.toD :: toDs xs
end
/-- == as Python has it, on data -/
def eqP (a b : PV) : Bool := PyData.eqv a.toD b.toD
/-- data that == is known of -/
def okP (a : PV) : Bool := SeqAt.shaped a.toD
def toKey : PV → Option Key
  | .int i => some (.inl i)
  | .str s => some (.inr s)
  | _ => none
def toKeys : List PV → Option (List Key)
  | [] => some []
  | x :: xs => match toKey x, toKeys xs with
    | some k, some ks => some (k :: ks)
    | _, _ => none
def asInts : List PV → Option (List Int)
  | [] => some []
  | .int i :: xs => (asInts xs).map (i :: ·)
  | _ :: _ => none
def asBools : List PV → Option (List Bool)
  | [] => some []
  | .bl i :: xs => (asBools xs).map (i :: ·)
  | _ :: _ => none
def lookP {κ : Type} [DecidableEq κ] : List (κ × PV) → κ → Option PV
  | [], _ => none
  | (k, x) :: r, j => if k = j then some x else lookP r j
def putP {κ : Type} [DecidableEq κ] (kvs : List (κ × PV)) (k : κ) (y : PV) : List (κ × PV) :=
  if (kvs.any fun kv => decide (kv.1 = k)) = true then kvs.map (fun kv => if kv.1 = k then (kv.1, y) else kv) else kvs ++ [(k, y)]
def ins (x : Int) : List Int → List Int
  | [] => [x]
  | y :: r => if x ≤ y then x :: y :: r else y :: ins x r
def isort : List Int → List Int
  | [] => []
  | x :: r => ins x (isort r)
def dedup : List Int → List Int
  | [] => []
  | x :: r => if (dedup r).contains x then dedup r else x :: dedup r
def maxL : Int → List Int → Int
  | m, [] => m
  | m, x :: r => maxL (if m < x then x else m) r
def minL : Int → List Int → Int
  | m, [] => m
  | m, x :: r => minL (if x < m then x else m) r
def lexI : List Int → List Int → Bool
  | [], [] => false
  | [], _ :: _ => true
  | _ :: _, [] => false
  | x :: xs, y :: ys => if x = y then lexI xs ys else decide (x < y)
def insL (x : List Int) : List (List Int) → List (List Int)
  | [] => [x]
  | y :: r => if lexI y x = true then y :: insL x r else x :: y :: r
def isortL : List (List Int) → List (List Int)
  | [] => []
  | x :: r => insL x (isortL r)
/-- tuples of ints, one int at least -/
def asTups : List PV → Option (List (List Int))
  | [] => some []
  | .tup xs :: r => match asInts xs with
    | some (n :: ns) => (asTups r).map ((n :: ns) :: ·)
    | _ => none
  | _ :: _ => none
/-- the ints lo, lo + 1, .. -/
def upto (lo : Int) : Nat → List Int
  | 0 => []
  | n + 1 => lo :: upto (lo + 1) n
def rngL (lo hi : Int) : List Int := upto lo (hi - lo).toNat
def rng3L (lo hi st : Int) : List Int := (List.range ((hi - lo + st - 1) / st).toNat).map fun (k : Nat) => lo + st * (k : Int)
abbrev Rv := PV × Bool
def inB (i : Int) : Bool := decide (-(2 ^ 62) ≤ i) && decide (i < 2 ^ 62)
def mulOk (i j : Int) : Bool := decide (i.natAbs.log2 + j.natAbs.log2 < 1000000) || (decide (-(2 ^ 64) < i) && decide (i < 2 ^ 64)) || (decide (-(2 ^ 64) < j) && decide (j < 2 ^ 64))
def powOk (i j : Int) : Bool := decide (0 ≤ j) && decide (j ≤ 1000000) && decide (i.natAbs < 2 ^ 64)
def addF : PV → PV → Option Rv
  | .int i, .int j => some (.int (i + j), false)
  | .int i, .bl j => some (.int (i + b2i j), false)
  | .str i, .str j => if i.length + j.length ≤ sizeLine then some (.str (i ++ j), false) else none
  | .lst i, .lst j => if i.length + j.length ≤ sizeLine then some (.lst (i ++ j), true) else none
  | .tup i, .tup j => if i.length + j.length ≤ sizeLine then some (.tup (i ++ j), false) else none
  | _, _ => none
def mulF : PV → PV → Option Rv
  | .int i, .int j => if mulOk i j = true then some (.int (i * j), false) else none
  | .lst i, .int j => if inB j = true ∧ i.length * j.toNat ≤ sizeLine then some (.lst (List.replicate j.toNat i).flatten, true) else none
  | .tup i, .int j => if 0 < i.length ∧ i.length ≤ 1000 ∧ 1 ≤ j ∧ j ≤ 1000 then some (.tup (List.replicate j.toNat i).flatten, false) else none
  | _, _ => none
/-- an int operation -/
def intF (c : Int → Int → Bool) (f : Int → Int → Int) : PV → PV → Option Rv
  | .int i, .int j => if c i j = true then some (.int (f i j), false) else none
  | _, _ => none
def binF : Bop → PV → PV → Option Rv
  | .add => addF
  | .mul => mulF
  | .sub => intF (fun _ _ => true) fun i j => i - j
  | .fdiv => intF (fun _ j => decide (0 < j) && decide (j.natAbs.log2 < 9000)) fun i j => i / j
  | .mod => intF (fun _ j => decide (0 < j)) fun i j => i % j
  | .pow => intF powOk fun i j => i ^ j.toNat
  | .band => intF (fun _ _ => true) Builtin.bitAnd
  | .bor => intF (fun _ _ => true) Builtin.bitOr
  | .bxor => intF (fun _ _ => true) Builtin.bitXor
  | .shl => intF powOk fun i j => i * 2 ^ j.toNat
  | .shr => intF (fun _ j => decide (0 ≤ j)) fun i j => i / 2 ^ j.toNat
def unF : Uop → PV → Option PV
  | .neg, .int i => some (.int (-i))
  | .inv, .int i => some (.int (Builtin.bitNot i))
  | _, _ => none
def inF (x : PV) : PV → Option Bool
  | .lst ys => if okP x = true ∧ okP (.lst ys) = true then some (ys.any fun y => eqP y x) else none
  | .tup ys => if okP x = true ∧ okP (.tup ys) = true then some (ys.any fun y => eqP y x) else none
  | .dk kvs => (toKey x).map fun k => (lookP kvs k).isSome
  | .dt kvs => match x with
    | .tup ys => (toKeys ys).map fun k => (lookP kvs k).isSome
    | _ => none
  | .set xs => match x with
    | .int i => some (xs.contains i)
    | _ => none
  | _ => none
def PV.isNon : PV → Bool
  | .non => true
  | _ => false
def isF (a : PV) : PV → Option Bool
  | .non => some a.isNon
  | .bl k => match a with
    | .bl j => some (j == k)
    | _ => none
  | _ => none
def eqF (neg : Bool) (a b : PV) : Option Bool := if okP a = true ∧ okP b = true then some (neg != eqP a b) else none
def ltF : PV → PV → Option Bool
  | .int i, .int j => some (decide (i < j))
  | .tup xs, .tup ys => match asInts xs, asInts ys with
    | some ns, some ms => some (lexI ns ms)
    | _, _ => none
  | _, _ => none
def icF (f : Int → Int → Bool) : PV → PV → Option Bool
  | .int i, .int j => some (f i j)
  | _, _ => none
def cmpF : Cop → PV → PV → Option Bool
  | .eq => eqF false
  | .ne => eqF true
  | .lt => ltF
  | .le => icF fun i j => decide (i ≤ j)
  | .gt => icF fun i j => decide (j < i)
  | .ge => icF fun i j => decide (j ≤ i)
  | .inn => inF
  | .nin => fun a b => (inF a b).map (!·)
  | .is_ => isF
  | .isn => fun a b => (isF a b).map (!·)
def atP (xs : List PV) (i : Int) : Option PV := (L2.ixN xs.length i).bind fun j => xs[j]?
def idxF : PV → PV → Option PV
  | .lst xs, .int i => atP xs i
  | .tup xs, .int i => atP xs i
  | .dk kvs, k => (toKey k).bind fun k => lookP kvs k
  | .dt kvs, .tup ys => (toKeys ys).bind fun k => lookP kvs k
  | _, _ => none
def cutP (xs : List PV) (lo hi : Option Int) : List PV := (xs.drop (HT.sIx xs.length 0 lo)).take (HT.sIx xs.length xs.length hi - HT.sIx xs.length 0 lo)
def slcF : PV → Option Int → Option Int → Option Rv
  | .lst xs, lo, hi => some (.lst (cutP xs lo hi), true)
  | .tup xs, lo, hi => some (.tup (cutP xs lo hi), false)
  | _, _, _ => none
/-- a value's kind: 0 None, 1 bool, 2 int, 3 str, 4 tuple, 5 list, 6 dict -/
inductive Kn where | non | bool | int | str | tuple | list | dict | set
  deriving DecidableEq
def PV.kn : PV → Option Kn
  | .non => some .non
  | .bl _ => some .bool
  | .int _ => some .int
  | .str _ => some .str
  | .tup _ => some .tuple
  | .lst _ | .scr _ => some .list
  | .dk _ | .dt _ => some .dict
  | .set _ => some .set
  | .rng _ _ => none
def knIs : Ty → Kn → Bool
  | .int, .int | .int, .bool | .bool, .bool | .str, .str | .tuple, .tuple | .list, .list | .dict, .dict => true
  | _, _ => false
def isiF (t : Ty) (p : PV) : Option Rv := match p.kn with
  | some .set => none
  | some k => some (.bl (knIs t k), false)
  | none => none
def pairsK : List PV → Option (List (Key × PV))
  | [] => some []
  | .tup [k, v] :: r => match toKey k, pairsK r with
    | some k, some r => some ((k, v) :: r)
    | _, _ => none
  | _ :: _ => none
/-- keys and values by turns -/
def kvsOf : List PV → Option (List (Key × PV))
  | [] => some []
  | k :: v :: r => match toKey k, kvsOf r with
    | some k, some r => some ((k, v) :: r)
    | _, _ => none
  | _ :: _ => none
def putAllP {κ : Type} [DecidableEq κ] (d : List (κ × PV)) : List (κ × PV) → List (κ × PV)
  | [] => d
  | (k, v) :: r => putAllP (putP d k v) r
def ofKey : Key → PV
  | .inl i => .int i
  | .inr s => .str s
def lenF : List PV → Option Rv
  | [.lst xs] => some (.int xs.length, false)
  | [.tup xs] => some (.int xs.length, false)
  | [.dk xs] => some (.int xs.length, false)
  | [.set xs] => some (.int xs.length, false)
  | [.str s] => if s.length ≤ sizeLine then some (.int s.length, false) else none
  | _ => none
def seqInts : PV → Option (List Int)
  | .lst xs => asInts xs
  | .tup xs => asInts xs
  | _ => none
def sumF : List PV → Option Rv
  | [.lst xs] => (asInts xs).map fun ns => (.int ns.sum, false)
  | [.tup xs] => (asInts xs).map fun ns => (.int ns.sum, false)
  | _ => none
def keyInts : List (Key × PV) → Option (List Int)
  | [] => some []
  | (.inl i, _) :: r => (keyInts r).map (i :: ·)
  | (.inr _, _) :: _ => none
def minF : List PV → Option Rv
  | [.lst xs] => match asInts xs with
    | some (n :: ns) => some (.int (minL n ns), false)
    | _ => none
  | [.dk kvs] => match keyInts kvs with
    | some (n :: ns) => some (.int (minL n ns), false)
    | _ => none
  | [.int i, .int j] => some (.int (if j < i then j else i), false)
  | _ => none
def maxF : List PV → Option Rv
  | [.lst xs] => match asInts xs with
    | some (n :: ns) => some (.int (maxL n ns), false)
    | _ => none
  | [.int i, .int j] => some (.int (if i < j then j else i), false)
  | _ => none
def absF : List PV → Option Rv
  | [.int i] => some (.int (if i < 0 then -i else i), false)
  | _ => none
def allF (f : List Bool → Bool) : List PV → Option Rv
  | [.lst xs] => (asBools xs).map fun bs => (.bl (f bs), false)
  | _ => none
def sortedF : List PV → Option Rv
  | [.lst xs] => match asInts xs with
    | some ns => some (.lst ((isort ns).map PV.int), true)
    | none => (asTups xs).map fun ls => (.lst ((isortL ls).map fun l => .tup (l.map PV.int)), true)
  | [.tup xs] => (asInts xs).map fun ns => (.lst ((isort ns).map PV.int), true)
  | [.set xs] => some (.lst ((isort xs).map PV.int), true)
  | [.dk kvs] => (keyInts kvs).map fun ns => (.lst ((isort ns).map PV.int), true)
  | _ => none
/-- a set's size, as far as it is looked at: a list's by its unlike members -/
def setFit (x : PV) (ns : List Int) : Nat := match x with
  | .tup _ => ns.length
  | _ => (dedup ns).length
def setBi : List PV → Option Rv
  | [x] => match seqInts x with
    | some ns => if setFit x ns + 1 < scanBound then some (.set (dedup ns), true) else none
    | none => none
  | _ => none
def tupleF : List PV → Option Rv
  | [.lst xs] => some (.tup xs, false)
  | [.tup xs] => some (.tup xs, false)
  | [.rng lo hi] => if inB lo = true ∧ inB hi = true ∧ (hi - lo).toNat ≤ sizeLine then some (.tup ((rngL lo hi).map PV.int), false) else none
  | _ => none
def listF : List PV → Option Rv
  | [.lst xs] => some (.lst xs, true)
  | [.tup xs] => some (.lst xs, true)
  | [.scr xs] => some (.lst (xs.map PV.int), true)
  | [.rng lo hi] => if inB lo = true ∧ inB hi = true ∧ (hi - lo).toNat ≤ sizeLine then some (.lst ((rngL lo hi).map PV.int), true) else none
  | _ => none
def dictF : List PV → Option Rv
  | [.lst xs] => match pairsK xs with
    | some kvs => if kvs.length < sizeLine then some (.dk (putAllP [] kvs), true) else none
    | none => none
  | _ => none
def intBi : List PV → Option Rv
  | [.int i] => some (.int i, false)
  | _ => none
def rangeF : List PV → Option Rv
  | [.int j] => if inB j = true then some (.rng 0 j, false) else none
  | [.int i, .int j] => if inB i = true ∧ inB j = true then some (.rng i j, false) else none
  | _ => none
def biF : Bi → List PV → Option Rv
  | .len => lenF
  | .sum => sumF
  | .min => minF
  | .max => maxF
  | .abs => absF
  | .all => allF fun bs => bs.all id
  | .any => allF fun bs => bs.any id
  | .sorted => sortedF
  | .set => setBi
  | .tuple => tupleF
  | .list => listF
  | .dict => dictF
  | .int => intBi
  | .range => rangeF
  | _ => fun _ => none
def getF : PV → List PV → Option Rv
  | .dk kvs, [k] => (toKey k).map fun k => ((lookP kvs k).getD .non, false)
  | .dk kvs, [k, d] => if d.imm = true then (toKey k).map fun k => ((lookP kvs k).getD d, false) else none
  | .dt kvs, [.tup k, d] => if d.imm = true then (toKeys k).map fun k => ((lookP kvs k).getD d, false) else none
  | .dt kvs, [.tup k] => (toKeys k).map fun k => ((lookP kvs k).getD .non, false)
  | _, _ => none
def metF : Mt → PV → List PV → Option Rv
  | .get => getF
  | _ => fun _ _ => none
/-- the object's new content, what is returned -/
def appendF : PV → List PV → Option (PV × PV)
  | .lst xs, [y] => if xs.length < sizeLine then some (.lst (xs ++ [y]), .non) else none
  | _, _ => none
def popF : PV → List PV → Option (PV × PV)
  | .lst xs, [] => match xs.getLast? with
    | some y => some (.lst xs.dropLast, y)
    | none => none
  | .lst xs, [.int i] => if inB i = true then (match L2.ixN xs.length i with
    | some j => match xs[j]? with
      | some y => some (.lst (xs.eraseIdx j), y)
      | none => none
    | none => none) else none
  | _, _ => none
def mutF : Mm → PV → List PV → Option (PV × PV)
  | .append => appendF
  | .pop => popF
  | _ => fun _ _ => none
def setF : PV → PV → PV → Option PV
  | .lst xs, .int i, y => (L2.ixN xs.length i).map fun j => .lst (xs.set j y)
  | .dk kvs, k, y => match toKey k with
    | some k => if kvs.length < sizeLine then some (.dk (putP kvs k y)) else none
    | none => none
  | .dt kvs, .tup k, y => match toKeys k with
    | some k => if kvs.length < sizeLine then some (.dt (putP kvs k y)) else none
    | none => none
  | _, _, _ => none

/-! ### operands -/
inductive Opd where
  | sl (i : Nat) | vl (p : PV) (fresh : Bool) | wk (xs : List PV) (ls : List Nat)
def deref (env : En) : Opd → Option PV
  | .vl p _ => some p
  | .sl i => match env[i]? with
    | some (some s) => some s.v
    | _ => none
  | .wk _ _ => none
def derefs (env : En) : List Opd → Option (List PV)
  | [] => some []
  | o :: os => match deref env o, derefs env os with
    | some p, some ps => some (p :: ps)
    | _, _ => none
/-- the value goes elsewhere: an owned object is frozen -/
def consume (env : En) : Opd → Option (PV × En)
  | .vl p _ => some (p, env)
  | .sl i => match env[i]? with
    | some (some ⟨p, .fz⟩) => some (p, env)
    | some (some ⟨p, .own⟩) => some (p, env.set i (some ⟨p, .fz⟩))
    | some (some ⟨p, .ro⟩) => if p.imm then some (p, env) else none
    | _ => none
  | .wk _ _ => none
/-- the value of an operand -/
def take : Opd → En → Option ((PV × Bool) × En)
  | .vl p f, env => some ((p, f), env)
  | o, env => match consume env o with
    | some (p, env) => some ((p, false), env)
    | none => none
def consumes (env : En) : List Opd → Option (List PV × En)
  | [] => some ([], env)
  | o :: os => match consume env o with
    | some (p, env) => match consumes env os with
      | some (ps, env) => some (p :: ps, env)
      | none => none
    | none => none
def Opd.is (i : Nat) : Opd → Bool
  | .sl j => decide (j = i)
  | _ => false
/-- the arguments of a call by the modes; the slots whose objects the callee may change -/
def pass : List Md → List Opd → En → Option (List PV × List Nat × En)
  | [], [], env => some ([], [], env)
  | .val :: ms, o :: os, env => match consume env o with
    | some (p, env) => match pass ms os env with
      | some (ps, is, env) => some (p :: ps, is, env)
      | none => none
    | none => none
  | .ro :: ms, o :: os, env => match deref env o with
    | some p => match pass ms os env with
      | some (ps, is, env) => if is.any (fun i => o.is i) then none else some (p :: ps, is, env)
      | none => none
    | none => none
  | .mu :: ms, .sl i :: os, env => match env[i]? with
    | some (some ⟨p, .own⟩) => match pass ms os env with
      | some (ps, is, env) => if os.any (Opd.is i) then none else some (p :: ps, i :: is, env)
      | none => none
    | _ => none
  | _, _, _ => none
/-- the changed objects behind a call -/
def back : List Nat → List PV → En → Option En
  | [], [], env => some env
  | i :: is, p :: ps, env => back is ps (env.set i (some ⟨p, .own⟩))
  | _, _, _ => none
def kd (f : Bool) : Kd := if f then .own else .fz
/-- a store at a name: not at one whose object must stay -/
def store (pm : List Nat) (i : Nat) (p : PV) (f : Bool) (env : En) : Option En :=
  if pm.contains i then none else match env[i]? with
    | some (some ⟨_, .lk⟩) => none
    | some _ => some (env.set i (some ⟨p, kd f⟩))
    | none => none
def stores (pm : List Nat) : List Nat → List PV → En → Option En
  | [], [], env => some env
  | i :: is, p :: ps, env => match store pm i p false env with
    | some env => stores pm is ps env
    | none => none
  | _, _, _ => none
def bindTg (pm : List Nat) (tg : Tg) (p : PV) (env : En) : Option En := match tg with
  | .one i => store pm i p false env
  | .many is => match p with
    | .tup ps => stores pm is ps env
    | _ => none
/-- the slots vs emptied -/
def wipeE (env : En) : List Nat → En
  | [] => env
  | v :: vs => (wipeE env vs).set v none
/-- the slots vs as they were in old -/
def restore (old : En) (env : En) : List Nat → En
  | [] => env
  | v :: vs => (restore old env vs).set v (match old[v]? with | some s => s | none => none)
def isOwn (env : En) (i : Nat) : Bool := match env[i]? with
  | some (some ⟨_, .own⟩) => true
  | _ => false
def lkOf (env : En) (is : List Nat) : List Nat := is.filter (isOwn env)
def lock1 (env : En) (i : Nat) : En := match env[i]? with
  | some (some ⟨p, .own⟩) => env.set i (some ⟨p, .lk⟩)
  | _ => env
def lock (env : En) : List Nat → En
  | [] => env
  | i :: is => lock1 (lock env is) i
def unlock1 (env : En) (i : Nat) : En := match env[i]? with
  | some (some ⟨p, .lk⟩) => env.set i (some ⟨p, .own⟩)
  | _ => env
def unlock (env : En) : List Nat → En
  | [] => env
  | i :: is => unlock1 (unlock env is) i
def keyPV : Key → PV
  | .inl i => .int i
  | .inr s => .str s
/-- what a for walks, of a value -/
def walkF : PV → Option (List PV)
  | .lst xs => some xs
  | .tup xs => some xs
  | _ => none
/-- so many numbers, step by step -/
def stepL (i k : Int) (n : Nat) : List Int := (List.range n).map fun (m : Nat) => i + (m : Int) * k
/-- range in a for -/
def rngIF : List Int → Option (List Int)
  | [j] => if inB j = true then some (rngL 0 j) else none
  | [i, j] => if inB i = true ∧ inB j = true then some (rngL i j) else none
  | [i, j, k] => if (k ≠ 0 ∧ k.natAbs < 1073741824) ∧ Builtin.Range.small i j k = true then some (stepL i k (Builtin.Range.rangeSize i j k).toNat) else none
  | _ => none
def zipP : List PV → List PV → List PV
  | x :: xs, y :: ys => .tup [x, y] :: zipP xs ys
  | _, _ => []
def enumP : Nat → List PV → List PV
  | _, [] => []
  | n, x :: xs => .tup [.int n, x] :: enumP (n + 1) xs
def Opd.slot : Opd → List Nat
  | .sl i => [i]
  | _ => []
/-- what is walked: the items, the slot that is read meanwhile -/
def walkO (env : En) : Opd → Option (List PV × List Nat)
  | .wk xs o => some (xs, o)
  | o => match deref env o with
    | some p => match walkF p with
      | some xs => some (xs, o.slot)
      | none => none
    | none => none
/-- what a call of a def comes to: its value, the changed objects -/
abbrev Cl := Nat → List PV → Option (Rv × List PV)
abbrev RE := Option (Rv × En)
/-- one comprehension's turns -/
def lcGo (turn : PV → En → Option (Option PV × En)) : List PV → En → Option (List PV × En)
  | [], env => some ([], env)
  | x :: xs, env => match turn x env with
    | some (none, env) => lcGo turn xs env
    | some (some y, env) => match lcGo turn xs env with
      | some (ys, env) => some (y :: ys, env)
      | none => none
    | none => none
def lcGo2 (turn : PV → En → Option (List PV × En)) : List PV → En → Option (List PV × En)
  | [], env => some ([], env)
  | x :: xs, env => match turn x env with
    | some (zs, env) => match lcGo2 turn xs env with
      | some (ys, env) => some (zs ++ ys, env)
      | none => none
    | none => none
def asOpt : List Int → Option (Option Int)
  | [] => some none
  | [i] => some (some i)
  | _ => none
section
variable (M : Nat → List Md) (C : Cl)
mutual
/-- an operand: a name stays a place -/
def ev : E → En → Option (Opd × En)
  | .con c, env => some (.vl c false, env)
  | .glo _ c, env => some (.vl c false, env)
  | .var i, env => match env[i]? with
    | some (some _) => some (.sl i, env)
    | _ => none
  | .bin o a b, env => match ev a env with
    | some (x, env) => match ev b env with
      | some (y, env) => match deref env x, deref env y with
        | some p, some q => match binF o p q with
          | some (r, f) => some (.vl r f, env)
          | none => none
        | _, _ => none
      | none => none
    | none => none
  | .un o a, env => match ev a env with
    | some (x, env) => match deref env x with
      | some p => match unF o p with
        | some r => some (.vl r false, env)
        | none => none
      | none => none
    | none => none
  | .cmp o a b, env => match ev a env with
    | some (x, env) => match ev b env with
      | some (y, env) => match deref env x, deref env y with
        | some p, some q => match cmpF o p q with
          | some r => some (.vl (.bl r) false, env)
          | none => none
        | _, _ => none
      | none => none
    | none => none
  | .cmp2 o p a b c, env => match ev a env with
    | some (x, env) => match ev b env with
      | some (y, env) => match deref env x, deref env y with
        | some u, some v => match cmpF o u v with
          | some true => match ev c env with
            | some (z, env) => match deref env y, deref env z with
              | some v, some w => match cmpF p v w with
                | some r => some (.vl (.bl r) false, env)
                | none => none
              | _, _ => none
            | none => none
          | some false => some (.vl (.bl false) false, env)
          | none => none
        | _, _ => none
      | none => none
    | none => none
  | .and a b, env => match ev a env with
    | some (x, env) => match deref env x with
      | some (.bl true) => ev b env
      | some (.bl false) => some (.vl (.bl false) false, env)
      | _ => none
    | none => none
  | .or a b, env => match ev a env with
    | some (x, env) => match deref env x with
      | some (.bl true) => some (.vl (.bl true) false, env)
      | some (.bl false) => ev b env
      | _ => none
    | none => none
  | .not a, env => match ev a env with
    | some (x, env) => match deref env x with
      | some (.bl k) => some (.vl (.bl (!k)) false, env)
      | _ => none
    | none => none
  | .ite c a b, env => match ev c env with
    | some (x, env) => match deref env x with
      | some (.bl true) => ev a env
      | some (.bl false) => ev b env
      | _ => none
    | none => none
  | .tup es, env => match evs es env with
    | some (os, env) => match consumes env os with
      | some (ps, env) => if ps.length ≤ sizeLine then some (.vl (.tup ps) false, env) else none
      | none => none
    | none => none
  | .lst es, env => match evs es env with
    | some (os, env) => match consumes env os with
      | some (ps, env) => if ps.length ≤ sizeLine then some (.vl (.lst ps) true, env) else none
      | none => none
    | none => none
  | .dsp es, env => match evs es env with
    | some (os, env) => match consumes env os with
      | some (ps, env) => match kvsOf ps with
        | some kvs => if kvs.length ≤ 15 then some (.vl (.dk (putAllP [] kvs)) true, env) else none
        | none => none
      | none => none
    | none => none
  | .dnk, env => some (.vl (.dk []) true, env)
  | .dnt, env => some (.vl (.dt []) true, env)
  | .idx a i, env => match ev a env with
    | some (x, env) => match ev i env with
      | some (y, env) => match deref env x, deref env y with
        | some p, some q => match idxF p q with
          | some r => some (.vl r false, env)
          | none => none
        | _, _ => none
      | none => none
    | none => none
  | .slc a lo hi, env => match ev a env with
    | some (x, env) => match evs lo env with
      | some (l, env) => match ((derefs env l).bind asInts).bind asOpt with
        | some lo => match evs hi env with
          | some (h, env) => match ((derefs env h).bind asInts).bind asOpt with
            | some hi => match deref env x with
              | some p => match slcF p lo hi with
                | some (r, f) => some (.vl r f, env)
                | none => none
              | none => none
            | none => none
          | none => none
        | none => none
      | none => none
    | none => none
  | .rev a, env => match ev a env with
    | some (x, env) => match deref env x with
      | some (.lst xs) => some (.vl (.lst xs.reverse) true, env)
      | some (.tup xs) => some (.vl (.tup xs.reverse) false, env)
      | _ => none
    | none => none
  | .isi t a, env => match ev a env with
    | some (x, env) => match deref env x with
      | some p => match isiF t p with
        | some (r, f) => some (.vl r f, env)
        | none => none
      | none => none
    | none => none
  | .call f es, env => match evs es env with
    | some (os, env) => match pass (M f) os env with
      | some (ps, is, env) => match C f ps with
        | some ((r, k), outs) => match back is outs env with
          | some env => some (.vl r k, env)
          | none => none
        | none => none
      | none => none
    | none => none
  | .bi b es, env => match evs es env with
    | some (os, env) => match derefs env os with
      | some ps => match biF b ps with
        | some (r, f) => some (.vl r f, env)
        | none => none
      | none => none
    | none => none
  | .met m o es, env => match ev o env with
    | some (x, env) => match deref env x with
      | some p0 => match evs es env with
        | some (os, env) => match deref env x, derefs env os with
          | some p, some ps => if p0.kn = p.kn then (match metF m p ps with
            | some (r, f) => some (.vl r f, env)
            | none => none) else none
          | _, _ => none
        | none => none
      | none => none
    | none => none
  | .mm m i es, env => match env[i]? with
    | some (some s0) => match evs es env with
      | some (os, env) => match consumes env os with
        | some (ps, env) => match env[i]? with
          | some (some ⟨p, .own⟩) => if s0.v.kn = p.kn then (match mutF m p ps with
            | some (p', r) => some (.vl r false, env.set i (some ⟨p', .own⟩))
            | none => none) else none
          | _ => none
        | none => none
      | none => none
    | _ => none
  | .zip a b, env => match ev a env with
    | some (x, env) => match ev b env with
      | some (y, env) => match deref env x, deref env y with
        | some (.lst xs), some (.lst ys) => some (.wk (zipP xs ys) (x.slot ++ y.slot), env)
        | some (.tup xs), some (.tup ys) => some (.wk (zipP xs ys) (x.slot ++ y.slot), env)
        | _, _ => none
      | none => none
    | none => none
  | .enum a, env => match ev a env with
    | some (x, env) => match deref env x with
      | some (.lst xs) => some (.wk (enumP 0 xs) x.slot, env)
      | some (.tup xs) => some (.wk (enumP 0 xs) x.slot, env)
      | _ => none
    | none => none
  | .rngI es, env => match evs es env with
    | some (os, env) => match (derefs env os).bind asInts with
      | some ns => match rngIF ns with
        | some xs => some (.wk (xs.map PV.int) [], env)
        | none => none
      | none => none
    | none => none
  | .lc tg it ifs elt, env => match ev it env with
    | some (x, env) => match walkO env x with
      | some (xs, o) => match lcGo (fun x env => match bindTg [] tg x env with
          | some env => match evIfs ifs env with
            | some (true, env) => match ev elt env with
              | some (y, env) => match consume env y with
                | some (y, env) => some (some y, wipeE env tg.slots)
                | none => none
              | none => none
            | some (false, env) => some (none, wipeE env tg.slots)
            | none => none
          | none => none) xs (wipeE (lock env o) tg.slots) with
        | some (ys, env') => if ys.length ≤ sizeLine then some (.vl (.lst ys) true, unlock (restore env env' tg.slots) (lkOf env o)) else none
        | none => none
      | none => none
    | none => none
  | .lc2 tg it ifs tg1 it1 ifs1 elt, env => match ev it env with
    | some (x, env) => match walkO env x with
      | some (xs, o) => match lcGo2 (fun x env => match bindTg [] tg x env with
          | some env => match evIfs ifs env with
            | some (true, env) => match ev it1 env with
              | some (x1, env) => match walkO env x1 with
                | some (zs, o1) => match lcGo (fun z env => match bindTg [] tg1 z env with
                    | some env => match evIfs ifs1 env with
                      | some (true, env) => match ev elt env with
                        | some (y, env) => match consume env y with
                          | some (y, env) => some (some y, wipeE env tg1.slots)
                          | none => none
                        | none => none
                      | some (false, env) => some (none, wipeE env tg1.slots)
                      | none => none
                    | none => none) zs (wipeE (lock env o1) tg1.slots) with
                  | some (ys, env') => some (ys, wipeE (unlock (restore env env' tg1.slots) (lkOf env o1)) (tg.slots ++ tg1.slots))
                  | none => none
                | none => none
              | none => none
            | some (false, env) => some ([], wipeE env (tg.slots ++ tg1.slots))
            | none => none
          | none => none) xs (wipeE (lock env o) (tg.slots ++ tg1.slots)) with
        | some (ys, env') => if ys.length ≤ sizeLine then some (.vl (.lst ys) true, unlock (restore env env' (tg.slots ++ tg1.slots)) (lkOf env o)) else none
        | none => none
      | none => none
    | none => none
def evs : List E → En → Option (List Opd × En)
  | [], env => some ([], env)
  | e :: es, env => match ev e env with
    | some (o, env) => match evs es env with
      | some (os, env) => some (o :: os, env)
      | none => none
    | none => none
def evIfs : List E → En → Option (Bool × En)
  | [], env => some (true, env)
  | e :: es, env => match ev e env with
    | some (x, env) => match deref env x with
      | some (.bl true) => evIfs es env
      | some (.bl false) => some (false, env)
      | _ => none
    | none => none
end

/-! ### statements -/
inductive Fl where
  | nx (env : En) | rt (p : PV) (fresh : Bool) (env : En)
/-- the value moves: an own object of a name that is no parameter goes along -/
def move (pm : List Nat) (o : Opd) (env : En) : Option (Rv × En) := match o with
  | .vl p f => some ((p, f), env)
  | .sl i => match env[i]? with
    | some (some ⟨p, .own⟩) => if pm.contains i then some ((p, false), env.set i (some ⟨p, .fz⟩)) else some ((p, true), env.set i none)
    | _ => match consume env (.sl i) with
      | some (p, env) => some ((p, false), env)
      | none => none
  | .wk _ _ => none
/-- one of several: a name that comes again keeps its object, frozen -/
def move1 (pm : List Nat) (o : Opd) (os : List Opd) (env : En) : Option (Rv × En) := match o with
  | .sl j => if os.any (Opd.is j) then (match consume env (.sl j) with
    | some (p, env) => some ((p, false), env)
    | none => none) else move pm (.sl j) env
  | o => move pm o env
def moves (pm : List Nat) : List Opd → En → Option (List Rv × En)
  | [], env => some ([], env)
  | o :: os, env => match move1 pm o os env with
    | some (r, env) => match moves pm os env with
      | some (rs, env) => some (r :: rs, env)
      | none => none
    | none => none
def storeR (pm : List Nat) : List Nat → List Rv → En → Option En
  | [], [], env => some env
  | i :: is, (p, f) :: ps, env => match store pm i p f env with
    | some env => storeR pm is ps env
    | none => none
  | _, _, _ => none
/-- loops: f's turns until it ends -/
def turns (f : En → Option (Sum En Fl)) : Nat → En → Option Fl
  | 0, _ => none
  | n + 1, env => match f env with
    | some (.inl env) => turns f n env
    | some (.inr r) => some r
    | none => none
abbrev Lp := (En → Option (Sum En Fl)) → En → Option Fl
def forGo (turn : PV → En → Option Fl) : List PV → En → Option Fl
  | [], env => some (.nx env)
  | x :: xs, env => match turn x env with
    | some (.nx env) => forGo turn xs env
    | r => r
/-- values go to places, from the left -/
def psts (pm : List Nat) : List Plc → List PV → En → Option En
  | [], [], env => some env
  | .nm i :: ts, p :: ps, env => match store pm i p false env with
    | some env => psts pm ts ps env
    | none => none
  | .it i k :: ts, p :: ps, env => match ev M C k env with
    | some (x, env) => match deref env x, env[i]? with
      | some q, some (some ⟨o, .own⟩) => match setF o q p with
        | some o => psts pm ts ps (env.set i (some ⟨o, .own⟩))
        | none => none
      | _, _ => none
    | none => none
  | .mn is :: ts, .tup qs :: ps, env => match stores pm is qs env with
    | some env => psts pm ts ps env
    | none => none
  | _, _, _ => none
section
variable (W : Lp) (pm : List Nat)
mutual
def ex : S → En → Option Fl
  | .ex e, env => match ev M C e env with
    | some (_, env) => some (.nx env)
    | none => none
  | .set i e, env => match ev M C e env with
    | some (x, env) => match move pm x env with
      | some ((p, f), env) => match store pm i p f env with
        | some env => some (.nx env)
        | none => none
      | none => none
    | none => none
  | .unp is e, env => match ev M C e env with
    | some (x, env) => match deref env x with
      | some (.tup ps) => match stores pm is ps env with
        | some env => some (.nx env)
        | none => none
      | some (.lst ps) => match stores pm is ps env with
        | some env => some (.nx env)
        | none => none
      | _ => none
    | none => none
  | .par is es, env => match evs M C es env with
    | some (os, env) => match moves pm os env with
      | some (rs, env) => match storeR pm is rs env with
        | some env => some (.nx env)
        | none => none
      | none => none
    | none => none
  | .pst ts es, env => match evs M C es env with
    | some (os, env) => match consumes env os with
      | some (ps, env) => match psts M C pm ts ps env with
        | some env => some (.nx env)
        | none => none
      | none => none
    | none => none
  | .sti i k e, env => match ev M C e env with
    | some (y, env) => match consume env y with
      | some (y, env) => match ev M C k env with
        | some (k, env) => match deref env k, env[i]? with
          | some k, some (some ⟨p, .own⟩) => match setF p k y with
            | some p => some (.nx (env.set i (some ⟨p, .own⟩)))
            | none => none
          | _, _ => none
        | none => none
      | none => none
    | none => none
  | .aug i o e, env => match ev M C e env with
    | some (y, env) => match deref env (.sl i), deref env y with
      | some (.int p), some (.int q) => match binF o (.int p) (.int q) with
        | some (r, f) => match store pm i r f env with
          | some env => some (.nx env)
          | none => none
        | none => none
      | _, _ => none
    | none => none
  | .dli i k, env => match ev M C k env with
    | some (k, env) => match deref env k, env[i]? with
      | some k, some (some ⟨.dk kvs, .own⟩) => match toKey k with
        | some k => if (lookP kvs k).isSome then some (.nx (env.set i (some ⟨.dk (kvs.filter fun q => decide (q.1 ≠ k)), .own⟩))) else none
        | none => none
      | _, _ => none
    | none => none
  | .ite c a b, env => match ev M C c env with
    | some (x, env) => match deref env x with
      | some (.bl true) => exs a env
      | some (.bl false) => exs b env
      | _ => none
    | none => none
  | .whl c b, env => W (fun env => match ev M C c env with
      | some (x, env) => match deref env x with
        | some (.bl true) => match exs b env with
          | some (.nx env) => some (.inl env)
          | some r => some (.inr r)
          | none => none
        | some (.bl false) => some (.inr (.nx env))
        | _ => none
      | none => none) env
  | .for_ tg it b, env => match ev M C it env with
    | some (x, env) => match walkO env x with
      | some (xs, o) => match forGo (fun x env => match bindTg pm tg x env with
          | some env => exs b env
          | none => none) xs (lock env o) with
        | some (.nx env') => some (.nx (unlock env' (lkOf env o)))
        | r => r
      | none => none
    | none => none
  | .ret e, env => match ev M C e env with
    | some (x, env) => match move pm x env with
      | some ((p, f), env) => some (.rt p f env)
      | none => none
    | none => none
  | .retN, env => some (.rt .non false env)
  | .nev, _ => none
  | .pas, env => some (.nx env)
def exs : List S → En → Option Fl
  | [], env => some (.nx env)
  | s :: ss, env => match ex s env with
    | some (.nx env) => exs ss env
    | r => r
end
end
end

/-- a def's slots at its entry -/
def kdOf : Md → Kd
  | .val => .fz
  | .ro => .ro
  | .mu => .own
def starts : List Md → List PV → En
  | m :: ms, p :: ps => some ⟨p, kdOf m⟩ :: starts ms ps
  | _, _ => []
/-- the parameters whose objects change -/
def mutsOf : Nat → List Md → List Nat
  | _, [] => []
  | n, .mu :: ms => n :: mutsOf (n + 1) ms
  | n, _ :: ms => mutsOf (n + 1) ms
/-- the changed objects at its end -/
def outs : List Md → En → Option (List PV)
  | [], _ => some []
  | .mu :: ms, some ⟨p, .own⟩ :: env => match outs ms env with
    | some ps => some (p :: ps)
    | none => none
  | .mu :: _, _ => none
  | _ :: ms, _ :: env => outs ms env
  | _ :: _, [] => none
/-- a call at most so many calls deep -/
def run (W : Lp) (D : Nat → Dfn) : Nat → Cl
  | 0, _, _ => none
  | d + 1, f, ps => if ps.length = (D f).modes.length then
    (match exs (fun f => (D f).modes) (run W D d) W (mutsOf 0 (D f).modes) (D f).body (starts (D f).modes ps ++ List.replicate ((D f).slots - (D f).modes.length) none) with
    | some (.rt p k env) => (match outs (D f).modes env with
      | some os => some ((p, k), os)
      | none => none)
    | some (.nx env) => (match outs (D f).modes env with
      | some os => some ((.non, false), os)
      | none => none)
    | none => none) else none
end L2.Pz
set_option Elab.async false
set_option linter.all false
set_option maxRecDepth 100000
set_option maxHeartbeats 4000000
namespace L2.Pz
set_option autoImplicit false
open PySem PySem.Spec PyProof.Rows L2

/-! ## Pz2: how environments move, what operands are -/
/-- slots through the evaluation of an expression: only owned ones change -/
structure EnvRel (a b : En) : Prop where
  len : b.length = a.length
  pres : ∀ (i : Nat) (s : Slot), a[i]? = some (some s) → ∃ s', b[i]? = some (some s') ∧ (s' = s ∨ (s.k = .own ∧ (s'.k = .own ∨ s'.k = .fz)))
  non : ∀ i : Nat, a[i]? = some none → b[i]? = some none
theorem EnvRel.refl {a : En} : EnvRel a a := ⟨rfl, fun _ s e => ⟨s, e, .inl rfl⟩, fun _ e => e⟩
theorem EnvRel.trans {a b c : En} (x : EnvRel a b) (y : EnvRel b c) : EnvRel a c where
  len := y.len.trans x.len
  pres := fun i s e => by
    obtain ⟨s1, e1, h1⟩ := x.pres i s e
    obtain ⟨s2, e2, h2⟩ := y.pres i s1 e1
    refine ⟨s2, e2, ?_⟩
    rcases h2 with rfl | ⟨k2, h2⟩
    · exact h1
    · rcases h1 with rfl | ⟨k1, h1⟩
      · exact .inr ⟨k2, h2⟩
      · exact .inr ⟨k1, h2⟩
  non := fun i e => y.non i (x.non i e)
theorem EnvRel.back {a b : En} (x : EnvRel a b) {i : Nat} {s' : Slot} (e : b[i]? = some (some s')) : ∃ s, a[i]? = some (some s) ∧ (s' = s ∨ (s.k = .own ∧ (s'.k = .own ∨ s'.k = .fz))) := by
  cases q : a[i]? with
  | none =>
    have h1 : a.length ≤ i := List.getElem?_eq_none_iff.mp q
    have h2 : b[i]? = none := List.getElem?_eq_none_iff.mpr (by rw [x.len]; exact h1)
    rw [h2] at e; cases e
  | some o =>
    cases o with
    | none => rw [x.non i q] at e; cases e
    | some s =>
      obtain ⟨s1, e1, h1⟩ := x.pres i s q
      rw [e] at e1; cases e1
      exact ⟨s, rfl, h1⟩
theorem lt_of_some {α : Type} {l : List α} {i : Nat} {x : α} (e : l[i]? = some x) : i < l.length := (List.getElem?_eq_some_iff.mp e).1
theorem EnvRel.setFz {a : En} {i : Nat} {p q : PV} {k : Kd} (e : a[i]? = some (some ⟨p, .own⟩)) (hk : k = .own ∨ k = .fz) : EnvRel a (a.set i (some ⟨q, k⟩)) where
  len := by simp
  pres := fun j s ej => by
    by_cases h : i = j
    · subst h
      rw [e] at ej; cases ej
      exact ⟨⟨q, k⟩, by rw [List.getElem?_set_self (lt_of_some e)], .inr ⟨rfl, hk⟩⟩
    · exact ⟨s, by rw [List.getElem?_set_ne h]; exact ej, .inl rfl⟩
  non := fun j ej => by
    by_cases h : i = j
    · subst h; rw [e] at ej; cases ej
    · rw [List.getElem?_set_ne h]; exact ej

abbrev New (H : Hp) (O : Ad) : Ad := fun a => O a ∨ H a = none
def Away (g : Gw) (F : Ad) (H : Hp) (σ : St) (env : En) (a : Addr) : Prop :=
  ∀ (i : Nat) (s : Slot), env[i]? = some (some s) → s.k ≠ .fz → σ[i]? = some (some (.ref a)) → RepV g F H s.v (.ref a)
def Opd.fr : Opd → Bool
  | .vl _ true => true
  | _ => false
def HeldO (g : Gw) (F : Ad) (H : Hp) (σ : St) (env : En) (N : Ad) : Opd → V → Prop
  | .sl i, v => σ[i]? = some (some v) ∧ ∃ s, env[i]? = some (some s)
  | .vl p false, v => RepV g F H p v
  | .vl p true, v => ∃ a, v = .ref a ∧ ¬ F a ∧ RepC g F H a p ∧ N a ∧ Away g F H σ env a
  | .wk _ _, _ => False
inductive HeldL (g : Gw) (F : Ad) (H : Hp) (σ : St) (env : En) (N : Ad) : List Opd → List V → Prop
  | nil : HeldL g F H σ env N [] []
  | cons {o : Opd} {v : V} {os : List Opd} {vs : List V} : HeldO g F H σ env N o v → (o.fr = true → ∀ (k : Nat) (o' : Opd), os[k]? = some o' → o'.fr = true → vs[k]? ≠ some v) → HeldL g F H σ env N os vs → HeldL g F H σ env N (o :: os) (v :: vs)

section
variable {g : Gw} {F F' F0 : Ad} {H H' H0 : Hp} {σ : St} {env env' : En} {N N' O0 : Ad} {o : Opd} {v : V} {p : PV} {a : Addr}

theorem RepC.inF (c : RepC g F H a p) (r : RepV g F H p (.ref a)) : F a := by
  cases c <;> cases r <;> assumption
/-- an exclusive slot's object is not frozen -/
theorem Rep.exc (R : Rep g F H σ env) {i : Nat} {s : Slot} (e : env[i]? = some (some s)) (k : s.k.ex = true) : ∃ b, σ[i]? = some (some (.ref b)) ∧ ¬ F b ∧ RepC g F H b s.v := by
  obtain ⟨v, ev, h⟩ := R.slot i s e
  obtain ⟨q, k'⟩ := s
  cases k' with
  | fz => cases k
  | ro => cases k
  | own => obtain ⟨b, rfl, nf, c⟩ := h; exact ⟨b, ev, nf, c⟩
  | lk => obtain ⟨b, rfl, nf, c⟩ := h; exact ⟨b, ev, nf, c⟩
theorem Away.notOwn (R : Rep g F H σ env) (nf : ¬ F a) (aw : Away g F H σ env a) : ¬ Own σ env a := by
  rintro ⟨i, x, e, es⟩
  obtain ⟨b, eb, nb, c⟩ := R.exc e rfl
  rw [es] at eb; cases eb
  exact nf (c.inF (aw i _ e (fun h => nomatch h) es))
theorem Away.ext (R : Rep g F H σ env) (x : Ext F H (Own σ env) F' H' (Own σ env')) (er : EnvRel env env') (nf : ¬ F a) (aw : Away g F H σ env a) : Away g F' H' σ env' a := by
  intro i s' e' k es
  obtain ⟨s, e, h⟩ := er.back e'
  have hk : s.k ≠ .fz := by
    rcases h with rfl | ⟨h, _⟩
    · exact k
    · rw [h]; exact fun h => nomatch h
  have r := aw i s e hk es
  rcases h with rfl | ⟨h, _⟩
  · exact r.ext x fun b hb => R.ownF hb
  · obtain ⟨b, eb, nb, c⟩ := R.exc e (by rw [h]; rfl)
    rw [es] at eb; cases eb
    exact (nf (c.inF r)).elim
theorem HeldO.ext (h : HeldO g F H σ env N o v) (R : Rep g F H σ env) (x : Ext F H (Own σ env) F' H' (Own σ env')) (er : EnvRel env env') (hN : ∀ a, N a → N' a) : HeldO g F' H' σ env' N' o v := by
  cases o with
  | sl i =>
    obtain ⟨e, s, es⟩ := h
    obtain ⟨s', e', _⟩ := er.pres i s es
    exact ⟨e, s', e'⟩
  | vl p f =>
    cases f with
    | false => exact RepV.ext h x fun b hb => R.ownF hb
    | true =>
      obtain ⟨a, rfl, nf, c, na, aw⟩ := h
      have no := aw.notOwn R nf
      refine ⟨a, rfl, fun hf => ?_, c.ext x (fun b hb => R.ownF hb) no, hN a na, aw.ext R x er nf⟩
      rcases x.newF a hf with q | q | q
      · exact nf q
      · exact no q
      · exact c.dom q
  | wk _ _ => exact h
theorem HeldL.ext (R : Rep g F H σ env) (x : Ext F H (Own σ env) F' H' (Own σ env')) (er : EnvRel env env') (hN : ∀ a, N a → N' a) : ∀ {os : List Opd} {vs : List V}, HeldL g F H σ env N os vs → HeldL g F' H' σ env' N' os vs
  | _, _, .nil => .nil
  | _, _, .cons a b c => .cons (a.ext R x er hN) b (HeldL.ext R x er hN c)
theorem HeldL.length : ∀ {os : List Opd} {vs : List V}, HeldL g F H σ env N os vs → os.length = vs.length
  | _, _, .nil => rfl
  | _, _, .cons _ _ c => congrArg Nat.succ c.length
theorem HeldL.get : ∀ {os : List Opd} {vs : List V} {k : Nat} {o : Opd}, HeldL g F H σ env N os vs → os[k]? = some o → ∃ v, vs[k]? = some v ∧ HeldO g F H σ env N o v
  | _, _, 0, _, .cons a _ _, e => by cases e; exact ⟨_, rfl, a⟩
  | _, _, k + 1, o, .cons _ _ c, e => HeldL.get (k := k) (o := o) c e
/-- a fresh one's object is new -/
theorem HeldO.fresh (h : HeldO g F H σ env N o v) (f : o.fr = true) : ∃ a, v = .ref a ∧ ¬ F a ∧ H a ≠ none ∧ N a ∧ Away g F H σ env a := by
  cases o with
  | sl i => cases f
  | wk _ _ => cases f
  | vl p k =>
    cases k with
    | false => cases f
    | true => obtain ⟨a, e, nf, c, na, aw⟩ := h; exact ⟨a, e, nf, c.dom, na, aw⟩
/-- what is read where it stands -/
theorem HeldO.peek (h : HeldO g F H σ env N o v) (R : Rep g F H σ env) (e : deref env o = some p) : Peek g F H p v := by
  cases o with
  | sl i =>
    obtain ⟨es, s, ei⟩ := h
    simp only [deref, ei] at e
    cases e
    obtain ⟨w, ew, r⟩ := R.slot i s ei
    rw [es] at ew; cases ew
    exact r.peek
  | vl q f =>
    cases e
    cases f with
    | false => exact .inl h
    | true => obtain ⟨a, e, _, c, _⟩ := h; exact .inr ⟨a, e, c⟩
  | wk _ _ => cases e
theorem HeldL.peek (R : Rep g F H σ env) : ∀ {os : List Opd} {vs : List V} {ps : List PV}, HeldL g F H σ env N os vs → derefs env os = some ps → PeekL g F H ps vs
  | _, _, ps, .nil, e => by cases e; exact .nil
  | _, _, ps, .cons (o := o) (os := os) a b c, e => by
    unfold derefs at e
    split at e
    · rename_i p ps' h1 h2
      cases e
      exact .cons (a.peek R h1) (c.peek R h2)
    · cases e

/-- an object more is frozen -/
theorem Rep.freezeFresh (R : Rep g F H σ env) (nf : ¬ F a) (hd : H a ≠ none) (aw : Away g F H σ env a) : Rep g (fun b => F b ∨ b = a) H σ env := by
  have up : ∀ {q : PV} {w : V}, RepV g F H q w → RepV g (fun b => F b ∨ b = a) H q w := fun r => r.mono (fun _ h => .inl h) fun _ _ _ e => e
  have upC : ∀ {q : PV} {b : Addr}, RepC g F H b q → RepC g (fun b => F b ∨ b = a) H b q := fun r => r.mono (fun _ h => .inl h) (fun _ _ _ e => e) fun _ e => e
  refine ⟨R.len, fun i s e => ?_, fun i j x s b hij e1 k1 e2 k2 es ej => ?_, fun b hb => ?_⟩
  · obtain ⟨w, ew, r⟩ := R.slot i s e
    refine ⟨w, ew, ?_⟩
    obtain ⟨q, k⟩ := s
    have ne : ∀ b, w = .ref b → RepC g F H b q → k ≠ .fz → ¬ F b → b ≠ a := fun b eb c kk nb z => by
      subst z; subst eb
      exact nb (c.inF (aw i _ e kk ew))
    cases k with
    | fz => exact up r
    | own =>
      obtain ⟨b, eb, nb, c⟩ := r
      exact ⟨b, eb, fun z => z.elim nb (ne b eb c (fun h => nomatch h) nb), upC c⟩
    | lk =>
      obtain ⟨b, eb, nb, c⟩ := r
      exact ⟨b, eb, fun z => z.elim nb (ne b eb c (fun h => nomatch h) nb), upC c⟩
    | ro =>
      rcases r with r | ⟨b, eb, c⟩
      · exact .inl (up r)
      · exact .inr ⟨b, eb, upC c⟩
  · exact up (R.sep i j x s b hij e1 k1 e2 k2 es ej)
  · rcases hb with hb | rfl
    · exact R.dom b hb
    · exact hd
theorem set_get {α : Type} {l : List α} {i j : Nat} {x y : α} (e : (l.set i x)[j]? = some y) : (i = j ∧ y = x) ∨ (i ≠ j ∧ l[j]? = some y) := by
  by_cases h : i = j
  · subst h
    left
    have hl : i < l.length := by
      have := lt_of_some e
      simpa using this
    rw [List.getElem?_set_self hl] at e
    exact ⟨rfl, (Option.some.inj e).symm⟩
  · rw [List.getElem?_set_ne h] at e
    exact .inr ⟨h, e⟩
/-- an own slot's object is frozen -/
theorem Rep.freezeSlot {i : Nat} (R : Rep g F H σ env) (e : env[i]? = some (some ⟨p, .own⟩)) (es : σ[i]? = some (some (.ref a))) :
    Rep g (fun b => F b ∨ b = a) H σ (env.set i (some ⟨p, .fz⟩)) ∧ RepV g (fun b => F b ∨ b = a) H p (.ref a) ∧ ¬ F a ∧ H a ≠ none := by
  obtain ⟨b, eb, nf, c⟩ := R.exc e rfl
  rw [es] at eb; cases eb
  have up : ∀ {q : PV} {w : V}, RepV g F H q w → RepV g (fun b => F b ∨ b = a) H q w := fun r => r.mono (fun _ h => .inl h) fun _ _ _ e => e
  have upC : ∀ {q : PV} {b : Addr}, RepC g F H b q → RepC g (fun b => F b ∨ b = a) H b q := fun r => r.mono (fun _ h => .inl h) (fun _ _ _ e => e) fun _ e => e
  refine ⟨⟨by simpa using R.len, fun j s ej => ?_, fun j k x s b hjk e1 k1 e2 k2 ej ek => ?_, fun b hb => ?_⟩, c.freeze, nf, c.dom⟩
  · rcases set_get ej with ⟨rfl, q⟩ | ⟨hij, ej⟩
    · cases q
      exact ⟨_, es, c.freeze⟩
    · obtain ⟨w, ew, r⟩ := R.slot j s ej
      refine ⟨w, ew, ?_⟩
      obtain ⟨q, k⟩ := s
      have ne : ∀ b, w = .ref b → RepC g F H b q → k ≠ .fz → ¬ F b → b ≠ a := fun b eb c' kk nb z => by
        subst z; subst eb
        exact nb (c'.inF (R.sep i j _ _ _ hij e rfl ej kk es ew))
      cases k with
      | fz => exact up r
      | own =>
        obtain ⟨b, eb, nb, c⟩ := r
        exact ⟨b, eb, fun z => z.elim nb (ne b eb c (fun h => nomatch h) nb), upC c⟩
      | lk =>
        obtain ⟨b, eb, nb, c⟩ := r
        exact ⟨b, eb, fun z => z.elim nb (ne b eb c (fun h => nomatch h) nb), upC c⟩
      | ro =>
        rcases r with r | ⟨b, eb, c⟩
        · exact .inl (up r)
        · exact .inr ⟨b, eb, upC c⟩
  · rcases set_get e1 with ⟨rfl, q⟩ | ⟨_, e1⟩
    · cases q; cases k1
    · rcases set_get e2 with ⟨rfl, q⟩ | ⟨_, e2⟩
      · cases q; exact (k2 rfl).elim
      · exact up (R.sep j k x s b hjk e1 k1 e2 k2 ej ek)
  · rcases hb with hb | rfl
    · exact R.dom b hb
    · exact c.dom
theorem Own.setFz {i : Nat} {q : PV} {b : Addr} (h : Own σ (env.set i (some ⟨q, .fz⟩)) b) : Own σ env b := by
  obtain ⟨j, x, e, es⟩ := h
  rcases set_get e with ⟨_, q⟩ | ⟨_, e⟩
  · cases q
  · exact ⟨j, x, e, es⟩
/-- more frozen: what was new or owned -/
theorem Ext.more {O O' : Ad} (x : Ext F0 H0 O0 F H O) (na : New H0 O0 a) (h : ∀ b, O' b → O b) : Ext F0 H0 O0 (fun b => F b ∨ b = a) H O' :=
  ⟨x.keep, x.dom, fun b hb => .inl (x.mono b hb), fun b hb => by
    rcases hb with hb | rfl
    · exact x.newF b hb
    · exact .inr na, fun b hb => x.newO b (h b hb)⟩
theorem Away.freeze {b : Addr} (aw : Away g F H σ env b) : Away g (fun c => F c ∨ c = a) H σ env b := fun i s e k es =>
  (aw i s e k es).mono (fun _ h => .inl h) fun _ _ _ e => e

/-- behind a consumption -/
structure Cons (g : Gw) (F0 : Ad) (H0 : Hp) (O0 : Ad) (F : Ad) (H : Hp) (σ : St) (env : En) (o : Opd) (v : V) (F' : Ad) (env' : En) : Prop where
  mono : ∀ a, F a → F' a
  ext : Ext F0 H0 O0 F' H (Own σ env')
  rep : Rep g F' H σ env'
  er : EnvRel env env'
  new : ∀ a, F' a → F a ∨ (v = .ref a ∧ (o.fr = true ∨ Own σ env a))
theorem consume_ok (R : Rep g F H σ env) (x : Ext F0 H0 O0 F H (Own σ env)) (h : HeldO g F H σ env (New H0 O0) o v) (e : consume env o = some (p, env')) :
    ∃ F', Cons g F0 H0 O0 F H σ env o v F' env' ∧ RepV g F' H p v := by
  cases o with
  | wk _ _ => cases e
  | vl q f =>
    cases e
    cases f with
    | false => exact ⟨F, ⟨fun _ h => h, x, R, .refl, fun _ h => .inl h⟩, h⟩
    | true =>
      obtain ⟨a, rfl, nf, c, na, aw⟩ := h
      refine ⟨fun b => F b ∨ b = a, ⟨fun _ h => .inl h, x.more na fun _ h => h, R.freezeFresh nf c.dom aw, .refl, fun b hb => ?_⟩, c.freeze⟩
      rcases hb with hb | rfl
      · exact .inl hb
      · exact .inr ⟨rfl, .inl rfl⟩
  | sl i =>
    obtain ⟨es, s, ei⟩ := h
    obtain ⟨w, ew, r⟩ := R.slot i s ei
    rw [es] at ew; cases ew
    obtain ⟨q, k⟩ := s
    simp only [consume, ei] at e
    cases k with
    | fz =>
      cases e
      exact ⟨F, ⟨fun _ h => h, x, R, .refl, fun _ h => .inl h⟩, r⟩
    | own =>
      cases e
      obtain ⟨a, rfl, nf, c⟩ := r
      obtain ⟨R', r', _, _⟩ := R.freezeSlot ei es
      have ow : Own σ env a := ⟨i, _, ei, es⟩
      refine ⟨fun b => F b ∨ b = a, ⟨fun _ h => .inl h, x.more (x.newO a ow) fun b hb => Own.setFz hb, R', EnvRel.setFz ei (.inr rfl), fun b hb => ?_⟩, r'⟩
      rcases hb with hb | rfl
      · exact .inl hb
      · exact .inr ⟨rfl, .inr ow⟩
    | ro =>
      simp only at e
      split at e
      · rename_i hi
        cases e
        exact ⟨F, ⟨fun _ h => h, x, R, .refl, fun _ h => .inl h⟩, Peek.imm r hi⟩
      · cases e
    | lk => cases e
/-- what else is held stays so -/
theorem Cons.held {F' : Ad} {o1 : Opd} {v1 : V} (C : Cons g F0 H0 O0 F H σ env o v F' env') (R : Rep g F H σ env) (h : HeldO g F H σ env N o1 v1) (ne : o.fr = true → o1.fr = true → v1 ≠ v) : HeldO g F' H σ env' N o1 v1 := by
  cases o1 with
  | sl i =>
    obtain ⟨e, s, es⟩ := h
    obtain ⟨s', e', _⟩ := C.er.pres i s es
    exact ⟨e, s', e'⟩
  | wk _ _ => exact h
  | vl p f =>
    cases f with
    | false => exact RepV.mono C.mono (fun _ _ _ e => e) h
    | true =>
      obtain ⟨a, rfl, nf, c, na, aw⟩ := h
      refine ⟨a, rfl, fun hf => ?_, c.mono C.mono (fun _ _ _ e => e) fun _ e => e, na, fun i s' e' k es => ?_⟩
      · rcases C.new a hf with q | ⟨q, z | z⟩
        · exact nf q
        · exact ne z rfl q.symm
        · exact aw.notOwn R nf z
      · obtain ⟨s, e, hs⟩ := C.er.back e'
        have hk : s.k ≠ .fz := by
          rcases hs with rfl | ⟨hs, _⟩
          · exact k
          · rw [hs]; exact fun h => nomatch h
        have r := aw i s e hk es
        rcases hs with rfl | ⟨hs, _⟩
        · exact r.mono C.mono fun _ _ _ e => e
        · obtain ⟨b, eb, nb, c⟩ := R.exc e (by rw [hs]; rfl)
          rw [es] at eb; cases eb
          exact (nf (c.inF r)).elim
theorem Cons.heldL {F' : Ad} (C : Cons g F0 H0 O0 F H σ env o v F' env') (R : Rep g F H σ env) : ∀ {os : List Opd} {vs : List V}, HeldL g F H σ env N os vs → (o.fr = true → ∀ (k : Nat) (o' : Opd), os[k]? = some o' → o'.fr = true → vs[k]? ≠ some v) → HeldL g F' H σ env' N os vs
  | _, _, .nil, _ => .nil
  | _, _, .cons a b c, h => .cons (C.held R a fun z1 z2 e => h z1 0 _ rfl z2 (by rw [e]; rfl)) b (Cons.heldL C R c fun z k o' e f => h z (k + 1) o' e f)
theorem Cons.one (R : Rep g F H σ env) (x : Ext F0 H0 O0 F H (Own σ env)) : Cons g F0 H0 O0 F H σ env o v F env := ⟨fun _ h => h, x, R, .refl, fun _ h => .inl h⟩
/-- a list is consumed -/
theorem consumes_ok : ∀ {os : List Opd} {vs : List V} {ps : List PV} {F : Ad} {env : En}, Rep g F H σ env → Ext F0 H0 O0 F H (Own σ env) → HeldL g F H σ env (New H0 O0) os vs → consumes env os = some (ps, env') →
    ∃ F', (∀ a, F a → F' a) ∧ Ext F0 H0 O0 F' H (Own σ env') ∧ Rep g F' H σ env' ∧ EnvRel env env' ∧ RepL g F' H ps vs
  | [], _, _, F, env, R, x, .nil, e => by cases e; exact ⟨F, fun _ h => h, x, R, .refl, .nil⟩
  | o :: os, _, _, F, env, R, x, .cons (v := v) a b c, e => by
    unfold consumes at e
    split at e
    · rename_i p env1 h1
      split at e
      · rename_i ps1 env2 h2
        cases e
        obtain ⟨F1, C, r⟩ := consume_ok R x a h1
        obtain ⟨F2, m2, x2, R2, er2, l2⟩ := consumes_ok C.rep C.ext (C.heldL R c b) h2
        exact ⟨F2, fun a h => m2 a (C.mono a h), x2, R2, C.er.trans er2, .cons (r.mono m2 fun _ _ _ e => e) l2⟩
      · cases e
    · cases e
end
end L2.Pz
set_option Elab.async false
set_option linter.all false
set_option maxRecDepth 100000
set_option maxHeartbeats 4000000
namespace L2.Pz
set_option autoImplicit false
open PySem PySem.Spec PyProof.Rows L2

/-! ## Pz3: operations on values -/
structure AllocR (g : Gw) (F : Ad) (H : Hp) (r : Rv) (v : V) (F' : Ad) (H' : Hp) : Prop where
  keep : ∀ a o, H a = some o → H' a = some o
  mono : ∀ a, F a → F' a
  newF : ∀ a, F' a → F a ∨ H a = none
  dom : (∀ a, F a → H a ≠ none) → ∀ a, F' a → H' a ≠ none
  val : r.2 = false → RepV g F' H' r.1 v
  obj : r.2 = true → ∃ a, v = .ref a ∧ H a = none ∧ ¬ F' a ∧ RepC g F' H' a r.1
section
variable {g : Gw} {F F' : Ad} {H H' : Hp} {σ : St} {env : En} {O : Ad} {r : Rv} {v : V} {p : Addr}
theorem AllocR.ext (a : AllocR g F H r v F' H') (O : Ad) : Ext F H O F' H' O :=
  ⟨fun b o e _ => a.keep b o e, fun b e => (by
    cases q : H b with
    | none => rfl
    | some o => rw [a.keep b o q] at e; cases e), a.mono, fun b h => (a.newF b h).imp id .inr, fun _ h => .inl h⟩
theorem AllocR.rep (a : AllocR g F H r v F' H') (R : Rep g F H σ env) : Rep g F' H' σ env := by
  have k : ∀ b o, F b → H b = some o → H' b = some o := fun b o _ e => a.keep b o e
  have nf : ∀ b, H b ≠ none → ¬ F b → ¬ F' b := fun b h1 h2 h3 => (a.newF b h3).elim h2 h1
  refine ⟨R.len, fun i s e => ?_, fun i j x s b h1 h2 h3 h4 h5 h6 h7 => (R.sep i j x s b h1 h2 h3 h4 h5 h6 h7).mono a.mono k, a.dom R.dom⟩
  obtain ⟨w, ew, h⟩ := R.slot i s e
  refine ⟨w, ew, ?_⟩
  obtain ⟨q, kd⟩ := s
  cases kd with
  | fz => exact RepV.mono a.mono k h
  | own => obtain ⟨b, eb, nb, c⟩ := h; exact ⟨b, eb, nf b c.dom nb, c.mono a.mono k fun o e => a.keep b o e⟩
  | lk => obtain ⟨b, eb, nb, c⟩ := h; exact ⟨b, eb, nf b c.dom nb, c.mono a.mono k fun o e => a.keep b o e⟩
  | ro =>
    rcases h with h | ⟨b, eb, c⟩
    · exact .inl (RepV.mono a.mono k h)
    · exact .inr ⟨b, eb, c.mono a.mono k fun o e => a.keep b o e⟩
theorem AllocR.held (a : AllocR g F H r v F' H') (R : Rep g F H σ env) : HeldO g F' H' σ env (New H O) (.vl r.1 r.2) v := by
  obtain ⟨q, f⟩ := r
  cases f with
  | false => exact a.val rfl
  | true =>
    obtain ⟨b, e, hn, nf, c⟩ := a.obj rfl
    refine ⟨b, e, nf, c, .inr hn, fun i s ei k es => ?_⟩
    obtain ⟨w, ew, h⟩ := R.slot i s ei
    rw [es] at ew; cases ew
    obtain ⟨q, kd⟩ := s
    cases kd with
    | fz => exact (k rfl).elim
    | own => obtain ⟨_, e', _, c'⟩ := h; cases e'; exact (c'.dom hn).elim
    | lk => obtain ⟨_, e', _, c'⟩ := h; cases e'; exact (c'.dom hn).elim
    | ro =>
      rcases h with h | ⟨_, e', c'⟩
      · exact RepV.mono a.mono (fun b o _ e => a.keep b o e) h
      · cases e'; exact (c'.dom hn).elim
theorem AllocR.same (h : RepV g F H r.1 v) (f : r.2 = false) : AllocR g F H r v F H :=
  ⟨fun _ _ e => e, fun _ h => h, fun _ h => .inl h, fun h => h, fun _ => h, fun e => by rw [f] at e; cases e⟩
theorem upd_keep {o : HO} (hp : H p = none) : ∀ a u, H a = some u → upd H p o a = some u := fun a u e => by rw [upd_ne (ne_of_none e hp)]; exact e
/-- a new object, owned -/
theorem AllocR.new {o : HO} {q : PV} (hp : H p = none) (nf : ∀ a, F a → H a ≠ none) (c : RepC g F (upd H p o) p q) : AllocR g F H (q, true) (.ref p) F (upd H p o) :=
  ⟨upd_keep hp, fun _ h => h, fun _ h => .inl h, fun _ a h => (by
    have := nf a h
    by_cases e : a = p
    · subst e; rw [upd_same]; exact fun h => nomatch h
    · rw [upd_ne e]; exact this), fun e => (nomatch e), fun _ => ⟨p, rfl, hp, fun h => nf p h hp, c⟩⟩
theorem AllocR.newL {xs : List PV} {vs : List V} (hp : H p = none) (nf : ∀ a, F a → H a ≠ none) (l : RepL g F H xs vs) : AllocR g F H (.lst xs, true) (.ref p) F (upd H p (.lst vs)) :=
  .new hp nf (.lst upd_same (l.mono (fun _ h => h) fun a o _ e => upd_keep hp a o e))
/-- a new tuple, frozen at once -/
theorem AllocR.newZ {o : HO} {q : PV} (hp : H p = none) (r : RepV g (fun a => F a ∨ a = p) (upd H p o) q (.ref p)) : AllocR g F H (q, false) (.ref p) (fun a => F a ∨ a = p) (upd H p o) :=
  ⟨upd_keep hp, fun _ h => .inl h, fun a h => (by
    rcases h with h | rfl
    · exact .inl h
    · exact .inr hp), fun nf a h => (by
    rcases h with h | rfl
    · by_cases e : a = p
      · subst e; rw [upd_same]; exact fun h => nomatch h
      · rw [upd_ne e]; exact nf a h
    · rw [upd_same]; exact fun h => nomatch h), fun _ => r, fun e => nomatch e⟩
theorem AllocR.newT {xs : List PV} {vs : List V} (hp : H p = none) (l : RepL g F H xs vs) : AllocR g F H (.tup xs, false) (.ref p) (fun a => F a ∨ a = p) (upd H p (.tup vs)) :=
  .newZ hp (.tup (.inr rfl) upd_same (l.mono (fun _ h => .inl h) fun a o _ e => upd_keep hp a o e))
/-- the result of an operation -/
def Out (g : Gw) (F : Ad) (H : Hp) (r : Rv) (Q : VK) : Prop := ∀ v F' H', AllocR g F H r v F' H' → Q v H'
theorem Out.int {i : Int} {Q : VK} (h : Out g F H (.int i, false) Q) : Q (.int i) H := h _ F H (.same (.int i) rfl)
theorem Out.bl {i : Bool} {Q : VK} (h : Out g F H (.bl i, false) Q) : Q (.bl i) H := h _ F H (.same (.bl i) rfl)
theorem Out.str {i : Str} {Q : VK} (h : Out g F H (.str i, false) Q) : Q (.str i) H := h _ F H (.same (.str i) rfl)
theorem Out.lst {xs : List PV} {vs : List V} {Q : VK} (h : Out g F H (.lst xs, true) Q) (nf : ∀ a, F a → H a ≠ none) (l : RepL g F H xs vs) : ∀ p, H p = none → Q (.ref p) (upd H p (.lst vs)) := fun p hp => h _ _ _ (.newL hp nf l)
theorem Out.tup {xs : List PV} {vs : List V} {Q : VK} (h : Out g F H (.tup xs, false) Q) (l : RepL g F H xs vs) : ∀ p, H p = none → Q (.ref p) (upd H p (.tup vs)) := fun p hp => h _ _ _ (.newT hp l)
end
abbrev Dm (F : Ad) (H : Hp) : Prop := ∀ a, F a → H a ≠ none
/-- a two-place operation by its pure meaning -/
def r2 (g : Gw) (f : PV → PV → Option Rv) : R2 := fun x y H Q => ∃ F p q r, Dm F H ∧ Peek g F H p x ∧ Peek g F H q y ∧ f p q = some r ∧ Out g F H r Q
def r1 (g : Gw) (f : PV → Option Rv) : V → Hp → VK → Prop := fun x H Q => ∃ F p r, Dm F H ∧ Peek g F H p x ∧ f p = some r ∧ Out g F H r Q
def rN (g : Gw) (f : List PV → Option Rv) : List V → Hp → VK → Prop := fun xs H Q => ∃ F ps r, Dm F H ∧ PeekL g F H ps xs ∧ f ps = some r ∧ Out g F H r Q

section
variable {g : Gw} {X : Cx}
theorem mulOk_ok {i j : Int} (h : mulOk i j = true) : IntMulOk i j := by
  unfold mulOk at h
  simp only [Bool.or_eq_true, Bool.and_eq_true, decide_eq_true_eq] at h
  rcases h with (h | h) | h
  · exact CMulW.ok h
  · exact CMul.ok (.inl h)
  · exact CMul.ok (.inr h)
theorem powOk_ok {i j : Int} (h : powOk i j = true) : CPow i j := by
  unfold powOk at h
  simp only [Bool.and_eq_true, decide_eq_true_eq] at h
  exact ⟨h.1.1, h.1.2, h.2⟩
theorem op_mulA : OpR X (binaryOp .Mult) (rI IntMulOk fun i j => .int (i * j)) := opI fun _ _ _ _ _ _ _ hc q => mul_int q hc
theorem intF_some {c : Int → Int → Bool} {f : Int → Int → Int} {p q : PV} {r : Rv} (e : intF c f p q = some r) : ∃ i j, p = .int i ∧ q = .int j ∧ c i j = true ∧ r = (.int (f i j), false) := by
  unfold intF at e
  split at e
  · split at e
    · cases e; exact ⟨_, _, rfl, rfl, by assumption, rfl⟩
    · cases e
  · cases e
theorem int_ok {f : Value → Value → Sem Value} {C : Int → Int → Prop} {c : Int → Int → Bool} {m : Int → Int → Int} (h : OpR X f (rI C fun i j => .int (m i j))) (hc : ∀ i j, c i j = true → C i j) : OpR X f (r2 g (intF c m)) := by
  intro pins s σ H x y v u Q I rx ry ⟨F, p, q, r, nf, hp, hq, e, k⟩
  obtain ⟨i, j, rfl, rfl, hcc, rfl⟩ := intF_some e
  have e1 := hp.int; have e2 := hq.int; subst e1 e2
  exact h pins s σ H _ _ v u Q I rx ry ⟨_, _, rfl, rfl, hc _ _ hcc, k.int⟩
theorem rI0_rI {f : Int → Int → V} : rI0 f = rI (fun _ _ => True) f := by
  funext x y H Q
  simp [rI0, rI]
theorem int_ok0 {f : Value → Value → Sem Value} {c : Int → Int → Bool} {m : Int → Int → Int} (h : OpR X f (rI0 fun i j => .int (m i j))) : OpR X f (r2 g (intF c m)) := int_ok (by rw [rI0_rI] at h; exact h) fun _ _ _ => trivial
theorem Peek.tupV {F : Ad} {H : Hp} {xs : List PV} {v : V} (h : Peek g F H (.tup xs) v) : RepV g F H (.tup xs) v := h.imm rfl
theorem add_ok (hK : X.K = g.K) : OpR X (binaryOp .Add) (r2 g addF) := by
  intro pins s σ H x y v u Q I rx ry ⟨F, p, q, r, nf, hp, hq, e, k⟩
  unfold addF at e
  split at e
  · cases e; have e1 := hp.int; have e2 := hq.int; subst e1 e2; exact op_add pins s σ H _ _ v u Q I rx ry ⟨_, _, rfl, rfl, k.int⟩
  · cases e; have e1 := hp.int; have e2 := hq.bl; subst e1 e2; exact op_add_ib pins s σ H _ _ v u Q I rx ry ⟨_, _, rfl, rfl, k.int⟩
  · split at e
    · cases e; have e1 := hp.str; have e2 := hq.str; subst e1 e2; exact op_add_str pins s σ H _ _ v u Q I rx ry ⟨_, _, rfl, rfl, by assumption, k.str⟩
    · cases e
  · split at e
    · cases e
      obtain ⟨a, vs, rfl, ea, la⟩ := hp.lst
      obtain ⟨b, ws, rfl, eb, lb⟩ := hq.lst
      exact op_cat pins s σ H _ _ v u Q I rx ry ⟨_, _, _, _, rfl, rfl, ea, eb, by rw [← la.length, ← lb.length]; assumption, k.lst nf (la.append lb)⟩
    · cases e
  · split at e
    · cases e
      rename_i i j hz
      obtain ⟨a, vs, rfl, ea, la⟩ := hp.tup
      obtain ⟨b, ws, rfl, eb, lb⟩ := hq.tup
      refine op_catA pins s σ H _ _ v u Q I rx ry ⟨_, _, _, _, rfl, rfl, SqT.of ea, SqT.of eb, by rw [← la.length, ← lb.length]; assumption, fun z => ?_, fun _ z => ?_, fun _ _ => k.tup (la.append lb)⟩
      · subst z; cases la
        exact k _ F H (.same (by simpa using hq.tupV) rfl)
      · subst z; cases lb
        exact k _ F H (.same (by simpa using hp.tupV) rfl)
    · cases e
  · cases e
theorem tuple_mul1 (l : Addr) (items : Array Value) (n : Nat) (dd : Option Addr) (sl : Array (Option Value)) (u : Tok) :
    Meets (Builtin.«tuple.__mul__» ⟨[.ref l, .int 1 u], []⟩) (fun _ R s => s.heap.get? l = some { cls := .type "tuple", dict := dd, data := .seq items n, slots := sl } ∧
      R (.ok (.ret (.ref l))) s) :=
  .of_wp fun prog w A R s h => by
    obtain ⟨hp, g, d, tk, os⟩ := s
    obtain ⟨hl, h⟩ := h
    have f1 := AutoSeq1.idx_int
    wp_walk using wpAny_loadPart' hl
    exact ⟨_, rfl, h⟩
def rRepT1 (K : PySem.W.Frag) : R2 := fun x y H Q => ∃ l xs, x = .ref l ∧ y = .int 1 ∧ SqT K H l xs ∧ xs ≠ [] ∧ Q (.ref l) H
theorem op_repT1 {X : Cx} : OpR X (binaryOp .Mult) (rRepT1 X.K) := by
  intro pins s σ H x y v u Q I rx ry h
  obtain ⟨l, xs, rfl, rfl, hT, hne, q⟩ := h
  cases rx
  obtain ⟨t, rfl⟩ := ry
  obtain ⟨its, r, ⟨⟨cls, dd, data, sl⟩, ho, hc, n, hd⟩, hs⟩ := I.tuple hT
  simp only at hc hd
  subst hc hd
  refine wpAny_binaryOp_repeat_ref (T := "tuple") (U := "int") (by decide) ⟨_, ho, rfl⟩ (fun s' => typeIs_int s' 1 t) noFill_tuple_mul F.fills_int_mul F.slot_int_rmul repeat_tuple F.slot_int_index.lookup
    (call_meets F.slot_int_rmul (typeIs_int s 1 t) F.entry_int_rmul (F.args_int_rmul_2 _ _) (int_rmul_tuple 1 t l its.toArray n dd sl)
      ⟨ho, rfl, ⟨_, ho, rfl⟩, call_meets F.slot_tuple_mul ⟨_, ho, rfl⟩ F.entry_tuple_mul (F.args_tuple_mul_2 _ _) (tuple_mul1 l its.toArray n dd sl t) ⟨ho, ?_⟩⟩)
  exact ⟨.ref l, _, I, rfl, q⟩
theorem mul_ok : OpR X (binaryOp .Mult) (r2 g mulF) := by
  intro pins s σ H x y v u Q I rx ry ⟨F, p, q, r, nf, hp, hq, e, k⟩
  unfold mulF at e
  split at e
  · split at e
    · cases e; have e1 := hp.int; have e2 := hq.int; subst e1 e2; exact op_mulA pins s σ H _ _ v u Q I rx ry ⟨_, _, rfl, rfl, mulOk_ok (by assumption), k.int⟩
    · cases e
  · split at e
    · cases e
      rename_i i j hz
      obtain ⟨h1, h2⟩ := hz
      unfold inB at h1
      simp only [Bool.and_eq_true, decide_eq_true_eq] at h1
      obtain ⟨a, vs, rfl, ea, la⟩ := hp.lst
      have e2 := hq.int; subst e2
      refine op_rep pins s σ H _ _ v u Q I rx ry ⟨_, _, _, rfl, rfl, ea, by omega, by omega, by rw [← la.length]; exact h2, k.lst nf ?_⟩
      generalize j.toNat = n
      induction n with
      | zero => exact .nil
      | succ n ih => rw [List.replicate_succ, List.replicate_succ, List.flatten_cons, List.flatten_cons]; exact la.append ih
    · cases e
  · split at e
    · cases e
      rename_i i j hz
      obtain ⟨z1, z2, z3, z4⟩ := hz
      obtain ⟨a, vs, rfl, ea, la⟩ := hp.tup
      have e2 := hq.int; subst e2
      have hne : vs ≠ [] := fun z => by
        have := la.length
        rw [z, List.length_nil] at this
        omega
      by_cases j1 : j = 1
      · subst j1
        refine op_repT1 pins s σ H _ _ v u Q I rx ry ⟨_, _, rfl, rfl, SqT.of ea, hne, ?_⟩
        have e3 : (List.replicate (1 : Int).toNat i).flatten = i := by
          show (List.replicate 1 i).flatten = i
          simp
        exact k _ F H (.same (by rw [e3]; simpa using hp.tupV) rfl)
      · refine op_repT pins s σ H _ _ v u Q I rx ry ⟨_, _, _, rfl, rfl, SqT.of ea, hne, by omega, by omega, by rw [← la.length]; exact z2, k.tup ?_⟩
        generalize j.toNat = n
        induction n with
        | zero => exact .nil
        | succ n ih => rw [List.replicate_succ, List.replicate_succ, List.flatten_cons, List.flatten_cons]; exact la.append ih
    · cases e
  · cases e
def bopIs : Bop → Operator → Bool
  | .add, .Add | .sub, .Sub | .mul, .Mult | .fdiv, .FloorDiv | .mod, .Mod | .pow, .Pow | .band, .BitAnd | .bor, .BitOr | .bxor, .BitXor | .shl, .LShift | .shr, .RShift => true
  | _, _ => false
theorem bin_ok (hK : X.K = g.K) {b : Bop} {o : Operator} (hb : bopIs b o = true) : OpR X (binaryOp o) (r2 g (binF b)) := by
  cases b <;> cases o <;> first | (cases hb; done) | skip
  · exact add_ok hK
  · exact int_ok0 op_sub
  · exact mul_ok
  · exact int_ok op_fdivW fun i j h => by
      simp only [Bool.and_eq_true, decide_eq_true_eq] at h
      exact h
  · exact int_ok op_mod fun i j h => of_decide_eq_true h
  · exact int_ok op_pow fun i j h => powOk_ok h
  · exact int_ok0 op_and
  · exact int_ok0 op_or
  · exact int_ok0 op_xor
  · exact int_ok op_shl fun i j h => powOk_ok h
  · exact int_ok op_shr fun i j h => of_decide_eq_true h
end
end L2.Pz
set_option Elab.async false
set_option linter.all false
set_option maxRecDepth 100000
set_option maxHeartbeats 4000000
namespace L2.Pz
set_option autoImplicit false
open PySem PySem.Spec PyProof.Rows L2

/-! ## Pz4: comparisons, subscripts -/
section
variable {g : Gw} {F : Ad} {H : Hp}
theorem scrD (a : Addr) : ∀ xs : List Int, DpAll g.K H (xs.map V.int) (xs.map PyData.int)
  | [] => .nil
  | _ :: xs => .cons (.int _) (scrD a xs)
mutual
theorem RepV.dp : ∀ {p : PV} {v : V}, RepV g F H p v → p.toD.canLay0 = true → Dp g.K H v p.toD
  | _, _, .non, _ => .non
  | _, _, .bl b, _ => .bl b
  | _, _, .int i, _ => .int i
  | _, _, .str s, _ => .str s
  | _, _, .tup f r l, h => .tup (.inl (.inl r)) (RepL.dp l (by simpa [PV.toD, PyData.canLay0] using h))
  | _, _, .lst f r l, h => .lst (.inl (.inl r)) (RepL.dp l (by simpa [PV.toD, PyData.canLay0] using h))
  | _, _, .scr (a := a) f r, h => .lst (.inl r) (scrD a _)
  | _, _, .scrK (a := a) r, h => .lst (.inr r) (scrD a _)
  | _, _, .rng _ _, h => by simp [PV.toD, PyData.canLay0] at h
  | _, _, .dk _ _ _, h => by simp [PV.toD, PyData.canLay0] at h
  | _, _, .dt _ _ _, h => by simp [PV.toD, PyData.canLay0] at h
  | _, _, .set _ _ _, h => by simp [PV.toD, PyData.canLay0] at h
theorem RepL.dp : ∀ {p : List PV} {v : List V}, RepL g F H p v → PyData.canLayAll0 (toDs p) = true → DpAll g.K H v (toDs p)
  | _, _, .nil, _ => .nil
  | _, _, .cons a b, h => by
    simp only [toDs, PyData.canLayAll0, Bool.and_eq_true] at h
    exact .cons (RepV.dp a h.1) (RepL.dp b h.2)
end
theorem Peek.dp {p : PV} {v : V} (h : Peek g F H p v) (o : okP p = true) : Dp g.K H v p.toD := by
  have c := SeqAt.canLay_of_shaped o
  rcases h with h | ⟨a, rfl, h⟩
  · exact h.dp c
  · cases h with
    | lst e l => exact .lst (.inl (.inl e)) (l.dp (by simpa [PV.toD, PyData.canLay0] using c))
    | dk e l => simp [PV.toD, PyData.canLay0] at c
    | dt e l => simp [PV.toD, PyData.canLay0] at c
    | set e l => simp [PV.toD, PyData.canLay0] at c
theorem any_toDs (x : PV) : ∀ ys : List PV, (toDs ys).any (fun z => PyData.eqv z x.toD) = ys.any fun y => eqP y x
  | [] => rfl
  | y :: ys => by
    rw [toDs, List.any_cons, List.any_cons, any_toDs x ys]
    rfl
theorem toKey_some {p : PV} {k : Key} {v : V} (h : Peek g F H p v) (e : toKey p = some k) : v = kV k := by
  unfold toKey at e
  split at e
  · cases e; exact h.int
  · cases e; exact h.str
  · cases e
theorem toKeys_some : ∀ {ps : List PV} {ks : List Key} {vs : List V}, RepL g F H ps vs → toKeys ps = some ks → vs = ks.map kV
  | [], _, _, .nil, e => by cases e; rfl
  | p :: ps, _, _, .cons a b, e => by
    unfold toKeys at e
    split at e
    · rename_i k ks h1 h2
      cases e
      rw [toKey_some (.inl a) h1, toKeys_some b h2]
      rfl
    · cases e
theorem RepK.look : ∀ {ps : List (Key × PV)} {vs : List (Key × V)} (k : Key), RepK g F H ps vs → (∀ p, lookP ps k = some p → ∃ v, valV vs k = some v ∧ RepV g F H p v) ∧ (lookP ps k).isSome = (valV vs k).isSome
  | _, _, k, .nil => ⟨fun p e => (by cases e), rfl⟩
  | _, _, k, .cons (k := j) (x := x) (v := v) a b => by
    have ih := RepK.look k b
    by_cases h : j = k
    · subst h
      rw [lookP, if_pos rfl, valV_pos rfl]
      exact ⟨fun p e => (by cases e; exact ⟨_, rfl, a⟩), rfl⟩
    · rw [lookP, if_neg h, valV_neg h]
      exact ih
theorem RepT.look : ∀ {ps : List (List Key × PV)} {vs : List (List Key × V)} (k : List Key), RepT g F H ps vs → (∀ p, lookP ps k = some p → ∃ v, valV vs k = some v ∧ RepV g F H p v) ∧ (lookP ps k).isSome = (valV vs k).isSome
  | _, _, k, .nil => ⟨fun p e => (by cases e), rfl⟩
  | _, _, k, .cons (k := j) (x := x) (v := v) a b => by
    have ih := RepT.look k b
    by_cases h : j = k
    · subst h
      rw [lookP, if_pos rfl, valV_pos rfl]
      exact ⟨fun p e => (by cases e; exact ⟨_, rfl, a⟩), rfl⟩
    · rw [lookP, if_neg h, valV_neg h]
      exact ih
theorem asInts_some : ∀ {ps : List PV} {ns : List Int}, asInts ps = some ns → ps = ns.map PV.int
  | [], _, e => by cases e; rfl
  | p :: ps, ns, e => by
    unfold asInts at e
    cases p with
    | int i =>
      obtain ⟨ms, e1, e2⟩ := Option.map_eq_some_iff.mp e
      rw [asInts_some e1, ← e2]
      rfl
    | _ => cases e
theorem asBools_some : ∀ {ps : List PV} {ns : List Bool}, asBools ps = some ns → ps = ns.map PV.bl
  | [], _, e => by cases e; rfl
  | p :: ps, ns, e => by
    unfold asBools at e
    cases p with
    | bl i =>
      obtain ⟨ms, e1, e2⟩ := Option.map_eq_some_iff.mp e
      rw [asBools_some e1, ← e2]
      rfl
    | _ => cases e
theorem RepL.ints {ps : List PV} {vs : List V} {ns : List Int} (l : RepL g F H ps vs) (e : asInts ps = some ns) : vs = ns.map V.int := by
  have := asInts_some e
  subst this
  exact l.ofInts
theorem RepL.ofBools : ∀ {xs : List Bool} {vs : List V}, RepL g F H (xs.map PV.bl) vs → vs = xs.map V.bl
  | [], _, .nil => rfl
  | x :: xs, _, .cons a b => by cases a; rw [b.ofBools]; rfl
theorem RepL.bools {ps : List PV} {vs : List V} {ns : List Bool} (l : RepL g F H ps vs) (e : asBools ps = some ns) : vs = ns.map V.bl := by
  have := asBools_some e
  subst this
  exact l.ofBools
/-- a dict's answer for a key -/
theorem dget {d k : PV} {x y : V} (hd : Peek g F H d x) (hk : Peek g F H k y) {kk : Key} {kvs : List (Key × PV)} (e : d = .dk kvs) (ek : toKey k = some kk) :
    ∃ a r, x = .ref a ∧ DGet H a y r ∧ (∀ p, lookP kvs kk = some p → ∃ v, r = some v ∧ RepV g F H p v) ∧ (lookP kvs kk).isSome = r.isSome := by
  subst e
  obtain ⟨a, vs, rfl, ea, l⟩ := hd.dk
  have e1 := toKey_some hk ek
  subst e1
  exact ⟨a, _, rfl, DGet.k ea, (l.look kk).1, (l.look kk).2⟩
theorem dgetT {d : PV} {ks : List PV} {x y : V} (hd : Peek g F H d x) (hk : Peek g F H (.tup ks) y) {kk : List Key} {kvs : List (List Key × PV)} (e : d = .dt kvs) (ek : toKeys ks = some kk) :
    ∃ a r, x = .ref a ∧ DGet H a y r ∧ (∀ p, lookP kvs kk = some p → ∃ v, r = some v ∧ RepV g F H p v) ∧ (lookP kvs kk).isSome = r.isSome := by
  subst e
  obtain ⟨a, vs, rfl, ea, l⟩ := hd.dt
  obtain ⟨b, ws, rfl, eb, lb⟩ := hk.tup
  have e1 := toKeys_some lb ek
  subst e1
  exact ⟨a, _, rfl, DGet.t ea eb, (l.look kk).1, (l.look kk).2⟩
end
section
variable {g : Gw} {X : Cx}
/-- a comparison by its pure meaning -/
def rB (g : Gw) (f : PV → PV → Option Bool) : R2 := r2 g fun p q => (f p q).map fun b => (.bl b, false)
theorem rB_ok {f : Value → Value → Sem Value} {m : PV → PV → Option Bool}
    (h : ∀ (pins : List (Addr × Obj)) (s : Shared) (σ : St) (H : Hp) (x y : V) (v u : Value) (Q : VK) (F : Ad) (p q : PV) (b : Bool), Inv X pins σ H s → RelV x v → RelV y u → Dm F H → Peek g F H p x → Peek g F H q y → m p q = some b → Q (.bl b) H → wpAny (model X.prog X.w) X.A (f v u) (EP X pins σ Q) X.xe s) :
    OpR X f (rB g m) := by
  intro pins s σ H x y v u Q I rx ry ⟨F, p, q, r, nf, hp, hq, e, k⟩
  obtain ⟨b, e1, rfl⟩ := Option.map_eq_some_iff.mp e
  exact h pins s σ H x y v u Q F p q b I rx ry nf hp hq e1 k.bl
theorem icF_ok {f : Value → Value → Sem Value} {m : Int → Int → Bool} (h : OpR X f (rI0 fun i j => .bl (m i j))) : OpR X f (rB g (icF m)) := rB_ok fun pins s σ H x y v u Q F p q b I rx ry _ hp hq e k => by
  unfold icF at e
  split at e
  · cases e; have e1 := hp.int; have e2 := hq.int; subst e1 e2; exact h pins s σ H _ _ v u Q I rx ry ⟨_, _, rfl, rfl, k⟩
  · cases e
theorem eq_ok (hK : X.K = g.K) (hu : X.A.units + 64 < cLine) : OpR X (compareOp .Eq) (rB g (eqF false)) := rB_ok fun pins s σ H x y v u Q F p q b I rx ry _ hp hq e k => by
  unfold eqF at e
  split at e
  · rename_i h
    cases e
    exact op_eqD hu pins s σ H x y v u Q I rx ry ⟨_, _, by rw [hK]; exact hp.dp h.1, by rw [hK]; exact hq.dp h.2, h.1, h.2, by simpa [eqP] using k⟩
  · cases e
theorem ne_ok (hK : X.K = g.K) (hu : X.A.units + 64 < cLine) : OpR X (compareOp .NotEq) (rB g (eqF true)) := rB_ok fun pins s σ H x y v u Q F p q b I rx ry _ hp hq e k => by
  unfold eqF at e
  split at e
  · rename_i h
    cases e
    exact op_neD hu pins s σ H x y v u Q I rx ry ⟨_, _, by rw [hK]; exact hp.dp h.1, by rw [hK]; exact hq.dp h.2, h.1, h.2, by simpa [eqP] using k⟩
  · cases e
theorem lexI_eq : ∀ xs ys : List Int, lexI xs ys = HT.lexLt xs ys
  | [], [] => by simp [lexI, HT.lexLt]
  | [], _ :: _ => by simp [lexI, HT.lexLt]
  | _ :: _, [] => by simp [lexI, HT.lexLt]
  | x :: xs, y :: ys => by
    have := lexI_eq xs ys
    by_cases h : x = y <;> simp [lexI, HT.lexLt, this, h]
theorem lt_ok (hK : X.K = g.K) (hu : X.A.units + 64 < cLine) : OpR X (compareOp .Lt) (rB g ltF) := rB_ok fun pins s σ H x y v u Q F p q b I rx ry _ hp hq e k => by
  unfold ltF at e
  split at e
  · cases e; have e1 := hp.int; have e2 := hq.int; subst e1 e2; exact op_lt pins s σ H _ _ v u Q I rx ry ⟨_, _, rfl, rfl, k⟩
  · split at e
    · rename_i ns ms h1 h2
      cases e
      obtain ⟨a, vs, rfl, ea, la⟩ := hp.tup
      obtain ⟨b, ws, rfl, eb, lb⟩ := hq.tup
      have e1 := la.ints h1
      have e2 := lb.ints h2
      subst e1 e2
      exact op_ltT (by omega) pins s σ H _ _ v u Q I rx ry ⟨_, _, _, _, rfl, rfl, SqT.of ea, SqT.of eb, by rw [← lexI_eq]; exact k⟩
    · cases e
  · cases e
theorem peek_non {F : Ad} {H : Hp} {p : PV} {x : V} (h : Peek g F H p x) : decide (x = .non) = p.isNon := by
  rcases h with h | ⟨a, rfl, h⟩
  · cases h <;> simp [PV.isNon]
  · cases h <;> simp [PV.isNon]
theorem is_ok : OpR X (compareOp .Is) (rB g isF) := rB_ok fun pins s σ H x y v u Q F p q b I rx ry _ hp hq e k => by
  unfold isF at e
  split at e
  · cases e; have e1 := hq.non; subst e1
    exact op_isN pins s σ H _ _ v u Q I rx ry ⟨rfl, by rw [peek_non hp]; exact k⟩
  · split at e
    · cases e; have e1 := hq.bl; have e2 := hp.bl; subst e1 e2
      exact op_is_bl pins s σ H _ _ v u Q I rx ry ⟨_, _, rfl, rfl, by rw [Bool.beq_eq_decide_eq] at k; exact k⟩
    · cases e
  · cases e
theorem isn_ok : OpR X (compareOp .IsNot) (rB g fun a b => (isF a b).map (!·)) := rB_ok fun pins s σ H x y v u Q F p q b I rx ry _ hp hq e k => by
  obtain ⟨c, e1, e2⟩ := Option.map_eq_some_iff.mp e
  subst e2
  clear e
  have e := e1
  unfold isF at e
  split at e
  · cases e; have e1 := hq.non; subst e1
    exact op_notN pins s σ H _ _ v u Q I rx ry ⟨rfl, by rw [peek_non hp]; exact k⟩
  · split at e
    · cases e; have e1 := hq.bl; have e2 := hp.bl; subst e1 e2
      exact op_isnot_bl pins s σ H _ _ v u Q I rx ry ⟨_, _, rfl, rfl, by rw [Bool.beq_eq_decide_eq] at k; exact k⟩
    · cases e
  · cases e
/-- x in y, x not in y -/
theorem in_gen (hK : X.K = g.K) (hw : X.w = g.w) (hu : X.A.units + 65 < cLine) (neg : Bool) {pins : List (Addr × Obj)} {s : Shared} {σ : St} {H : Hp} {x y : V} {v u : Value} {Q : VK} {F : Ad} {p q : PV} {b : Bool} (I : Inv X pins σ H s)
    (rx : RelV x v) (ry : RelV y u) (hp : Peek g F H p x) (hq : Peek g F H q y) (e : inF p q = some b) (k : Q (.bl (neg != b)) H) :
    wpAny (model X.prog X.w) X.A (compareOp (if neg then .NotIn else .In) v u) (EP X pins σ Q) X.xe s := by
  have hneg : ∀ c, (neg != c) = (if neg then !c else c) := fun c => by cases neg <;> cases c <;> rfl
  rw [hneg] at k
  unfold inF at e
  split at e
  · split at e
    · rename_i ys h
      cases e
      obtain ⟨as, r1⟩ := Dp.reads I _ x v (by rw [hK]; exact hp.dp h.1) rx
      obtain ⟨bs, r2⟩ := Dp.reads I _ y u (by rw [hK]; exact hq.dp h.2) ry
      simp only [PV.toD] at r2
      rw [← any_toDs] at k
      have sl : SeqAt.shaped (.list (toDs ys)) = true := h.2
      cases neg
      · exact SeqAt.in_list_reads r2 r1 (SeqAt.canLay_of_shaped sl) (SeqAt.canLay_of_shaped h.1) (room_in_shaped h.1 hu) ⟨.bl _, H, I, rfl, k⟩
      · exact SeqAt.notIn_list_reads r2 r1 (SeqAt.canLay_of_shaped sl) (SeqAt.canLay_of_shaped h.1) (room_in_shaped h.1 hu) ⟨.bl _, H, I, rfl, k⟩
    · cases e
  · split at e
    · rename_i ys h
      cases e
      obtain ⟨as, r1⟩ := Dp.reads I _ x v (by rw [hK]; exact hp.dp h.1) rx
      obtain ⟨bs, r2⟩ := Dp.reads I _ y u (by rw [hK]; exact hq.dp h.2) ry
      simp only [PV.toD] at r2
      rw [← any_toDs] at k
      have sl : SeqAt.shaped (.tuple (toDs ys)) = true := h.2
      cases neg
      · exact SeqAt.in_tuple_reads r2 r1 (SeqAt.canLay_of_shaped sl) (SeqAt.canLay_of_shaped h.1) (room_in_shaped h.1 hu) ⟨.bl _, H, I, rfl, k⟩
      · exact SeqAt.notIn_tuple_reads r2 r1 (SeqAt.canLay_of_shaped sl) (SeqAt.canLay_of_shaped h.1) (room_in_shaped h.1 hu) ⟨.bl _, H, I, rfl, k⟩
    · cases e
  · obtain ⟨kk, e1, rfl⟩ := Option.map_eq_some_iff.mp e
    obtain ⟨a, r, rfl, d, _, h2⟩ := dget hq hp rfl e1
    cases ry
    rw [h2] at k
    cases neg
    · exact d_in (by omega) I d rx fun s' I' => ⟨.bl _, H, I', rfl, k⟩
    · exact d_notIn (by omega) I d rx fun s' I' => ⟨.bl _, H, I', rfl, k⟩
  · split at e
    · obtain ⟨kk, e1, rfl⟩ := Option.map_eq_some_iff.mp e
      obtain ⟨a, r, rfl, d, _, h2⟩ := dgetT hq hp rfl e1
      cases ry
      rw [h2] at k
      cases neg
      · exact d_in (by omega) I d rx fun s' I' => ⟨.bl _, H, I', rfl, k⟩
      · exact d_notIn (by omega) I d rx fun s' I' => ⟨.bl _, H, I', rfl, k⟩
    · cases e
  · split at e
    · cases e
      rename_i xs i
      obtain ⟨a, S, n, rfl, ea, hs⟩ := hq.set
      have e1 := hp.int; subst e1
      rw [← hw] at ea
      rw [← hs.2.2 i] at k
      cases neg
      · exact or_sin pins s σ H _ _ v u Q I rx ry ⟨_, _, _, _, rfl, rfl, ea, k⟩
      · exact or_snotin pins s σ H _ _ v u Q I rx ry ⟨_, _, _, _, rfl, rfl, ea, k⟩
    · cases e
  · cases e
theorem in_ok (hK : X.K = g.K) (hw : X.w = g.w) (hu : X.A.units + 65 < cLine) : OpR X (compareOp .In) (rB g inF) := rB_ok fun pins s σ H x y v u Q F p q b I rx ry _ hp hq e k =>
  in_gen hK hw hu false I rx ry hp hq e (by simpa using k)
theorem nin_ok (hK : X.K = g.K) (hw : X.w = g.w) (hu : X.A.units + 65 < cLine) : OpR X (compareOp .NotIn) (rB g fun a b => (inF a b).map (!·)) := rB_ok fun pins s σ H x y v u Q F p q b I rx ry _ hp hq e k => by
  obtain ⟨c, e1, rfl⟩ := Option.map_eq_some_iff.mp e
  exact in_gen hK hw hu true I rx ry hp hq e1 (by simpa using k)
def copIs : Cop → CmpOp → Bool
  | .eq, .Eq | .ne, .NotEq | .lt, .Lt | .le, .LtE | .gt, .Gt | .ge, .GtE | .inn, .In | .nin, .NotIn | .is_, .Is | .isn, .IsNot => true
  | _, _ => false
theorem cmp_ok (hK : X.K = g.K) (hw : X.w = g.w) (hu : X.A.units + 65 < cLine) {c : Cop} {o : CmpOp} (h : copIs c o = true) : OpR X (compareOp o) (rB g (cmpF c)) := by
  cases c <;> cases o <;> first | (cases h; done) | skip
  · exact eq_ok hK (by omega)
  · exact ne_ok hK (by omega)
  · exact lt_ok hK (by omega)
  · exact icF_ok op_le
  · exact icF_ok op_gt
  · exact icF_ok op_ge
  · exact in_ok hK hw hu
  · exact nin_ok hK hw hu
  · exact is_ok
  · exact isn_ok
end
end L2.Pz
set_option Elab.async false
set_option linter.all false
set_option maxRecDepth 100000
set_option maxHeartbeats 8000000
namespace L2.Pz
set_option autoImplicit false
open PySem PySem.Spec PyProof.Rows L2

/-! ## Pz4s: the set of a list of ints -/
theorem nodup_len : ∀ {l L : List Int}, l.Nodup → (∀ k ∈ l, k ∈ L) → l.length ≤ L.length
  | [], _, _, _ => Nat.zero_le _
  | x :: l, L, h, hs => by
    rw [List.nodup_cons] at h
    have hx : x ∈ L := hs x (List.mem_cons_self ..)
    have := nodup_len (l := l) (L := L.erase x) h.2 fun k hk => by
      have hne : k ≠ x := fun e => h.1 (e ▸ hk)
      exact (List.mem_erase_of_ne hne).mpr (hs k (List.mem_cons_of_mem _ hk))
    rw [List.length_erase_of_mem hx] at this
    have := List.length_pos_of_mem hx
    simp only [List.length_cons]
    omega
theorem mem_dedup0 (k : Int) : ∀ ns : List Int, k ∈ dedup ns ↔ k ∈ ns
  | [] => Iff.rfl
  | x :: r => by
    unfold dedup
    have ih := mem_dedup0 k r
    have ihx := mem_dedup0 x r
    split
    · rename_i q
      rw [List.contains_iff_mem] at q
      rw [ih, List.mem_cons]
      constructor
      · exact .inr
      · rintro (rfl | h)
        · exact ihx.mp q
        · exact h
    · rw [List.mem_cons, List.mem_cons, ih]
theorem SetR.card_le {w : World} {h : Heap} {a : Addr} {S : Int → Bool} {n : Nat} (R : SetR w h a S n) {L : List Int} (hS : ∀ k, S k = true → k ∈ L) : n ≤ L.length := by
  obtain ⟨o, es, ep, t, h1, h2, h3, h4, h5, h6, h7, h8, h9, _⟩ := R
  have := nodup_len (L := L) h5 fun k hk => hS k ((h6 k).mpr hk)
  rw [List.length_map, Array.length_toList] at this
  omega
section
variable {P : Program} {w : World} {A : Around} {E : Value → Shared → Prop} {s : Shared}
/-- as set_update_ints, by how many unlike ones there are -/
theorem set_update_intsD {I : Addr} {fp wr : List Addr} {G : Array GenState → Array GenState → Prop} {n : Nat} {Pv : Nat → Value → Prop} {St : Nat → Shared → Prop} {R : Result → Shared → Prop}
    (W : WalksS P w A.in1 I fp wr G n Pv St) (S : Addr) (hSf : S ∉ fp) (ns : List Int) (hn : n = ns.length) (hb : (dedup ns).length + 1 < scanBound) (hval : ∀ i v, Pv i v → ∃ k t, ns[i]? = some k ∧ v = .int k t) :
    ∀ (k i : Nat) (s : Shared), n - i = k → i ≤ n → St i s → (∃ c, c ≤ i ∧ SetR w s.heap S (fun j => decide (j ∈ ns.take i)) c) →
      (∀ s' c, Moved (S :: wr) G s s' → c ≤ n → SetR w s'.heap S (fun j => decide (j ∈ ns)) c → R (.ok (.ret .none)) s') →
      codeAny (model P w) A (.builtin "set.update.loop" ⟨[.ref S, .ref I], []⟩) R s := by
  have hSw : S ∉ wr := fun h => hSf (W.sub _ h)
  have hsub : ∀ b ∈ wr, b ∈ S :: wr := fun b hb => List.mem_cons_of_mem _ hb
  intro k
  induction k with
  | zero =>
    intro i s hk' hi hst ⟨c, hc, hS⟩ hR
    have hin : i = n := by omega
    subst hin
    refine codeAny_builtin F.entry_set_update_loop ?_
    rw [Around.under_plainId F.plain_set_update_loop _]
    show wpAny _ A.in1 (pyNext (.ref I) >>= _) _ _ s
    refine wpAny_bind (W.done s _ _ hst fun s' hm => ?_)
    show wpAny _ A.in1 (ret Value.none) _ _ s'
    have e : ns.take i = ns := List.take_of_length_le (by omega)
    rw [e] at hS
    exact wpAny_pure (hR s' c (hm.mono hsub) hc (hS.at fun o e => hm.heap S o hSw e))
  | succ k ih =>
    intro i s hk' hi hst ⟨c, hc, hS⟩ hR
    have hlt : i < n := by omega
    refine codeAny_builtin F.entry_set_update_loop ?_
    rw [Around.under_plainId F.plain_set_update_loop _]
    show wpAny _ A.in1 (pyNext (.ref I) >>= _) _ _ s
    refine wpAny_bind (W.item i s _ _ hlt hst fun v s' hP hst' hm => ?_)
    obtain ⟨z, t, hz, rfl⟩ := hval i v hP
    have hS' : SetR w s'.heap S (fun j => decide (j ∈ ns.take i)) c := hS.at fun o e => hm.heap S o hSw e
    have hcd : c ≤ (dedup ns).length := SetR.card_le hS' fun k hk => by
      rw [mem_dedup0]
      exact List.mem_of_mem_take (of_decide_eq_true hk)
    show wpAny _ A.in1 (holding [Value.int z t] (setAdd S (.int z t)) >>= _) _ _ s'
    refine wpAny_bind (wpAny_holding ?_)
    unfold setAdd
    refine wpAny_holding ?_
    refine wpAny_bind ((intKind P w).pyHash (k := z) (intKind_is _ _ _ _) ?_)
    refine setR_add_hashed (s := { s' with toks := s'.toks + 1 }) hS' (by omega) fun h' hsb hS2 => ?_
    have hS3 : SetR w h' S (fun j => decide (j ∈ ns.take (i + 1))) (if decide (z ∈ ns.take i) = true then c else c + 1) := hS2.congr fun j => by
      rw [List.take_add_one, hz]
      simp [List.mem_append]
    have hc3 : (if decide (z ∈ ns.take i) = true then c else c + 1) ≤ i + 1 := by
      split <;> omega
    refine wpAny_pure ⟨plainId_quiet F.plain_set_update_loop _, ih (i + 1) _ (by omega) hlt (W.frame _ s' _ _ hst' (Nat.le_succ _) fun b hb o e => ?_) ⟨_, hc3, hS3⟩ fun s'' c2 hm'' hc'' hS'' => ?_⟩
    · rw [hsb.2 b (fun h : b = S => hSf (by rw [← h]; exact hb))]; exact e
    · refine hR s'' c2 (Moved.trans W.gtrans ((hm.mono hsub).then_heap (Nat.le_succ _) fun b o hb e => ?_) hm'') hc'' hS''
      rw [hsb.2 b (fun h : b = S => hb (by rw [h]; exact List.mem_cons_self))]; exact e
end
section
variable {P : Program} {w : World} {A : Around} {E : Value → Shared → Prop} {s : Shared}
theorem set_of_list {l : Addr} {items : Array Value} (ns : List Int) {Q : Value → Shared → Prop} (hh : A.handled = none) (hl : s.heap.IsList l items) (hit : IntsAre items.toList ns) (hb : (dedup ns).length + 1 < scanBound)
    (h : ∀ (h' : Heap) (tk c : Nat), SetR w h' s.heap.objs.size (fun j => decide (j ∈ ns)) c → c ≤ ns.length → (∀ b o, s.heap.get? b = some o → h'.get? b = some o) → Q (.ref s.heap.objs.size) { s with heap := h', toks := tk }) :
    wpAny (model P w) A (call (.type "set") [.ref l]) Q E s := by
  have hisz : items.size = ns.length := by
    (have q := IntsAre.length hit)
    (rw [Array.length_toList] at q)
    (exact q)
  (obtain ⟨c, tl, hmro⟩ := F.called_set.mro)
  (have hmade := F.called_set.made)
  (have hsub := F.called_set.sub)
  (refine wpAny_call (codeAny_of_tree ?_))
  (show wpAny _ _ (callAny (.type "set") _) _ _ _)
  (refine wpAny_pure ⟨Code.quiet_builtin _ (by decide +kernel), codeAny_builtin F.entry_type_call ?_⟩)
  (rw [Around.under_plain (weight_type_call_type "set" [.ref l] []) rfl])
  (have h1 := F.called_set.notType)
  (have h2 := F.called_set.canCreate)
  (have hct := F.typeCall_set_1 (.ref l))
  (repeat (any_goals (first | assumption | wp_step)))
  (refine codeAny_mono (code_set_led1 (.ref l) (E := E) (Q₁ := fun obj s₁ => obj = .ref s.heap.objs.size ∧ s₁ = { s with heap := s.heap.push { cls := .type "set", dict := none, data := .set #[] 0 (.fresh 0 0 (!w.params.followText "set-order")) } }) ⟨rfl, rfl⟩) fun r s₁ hr => ?_)
  cases r with
  | error e => exact hr
  | ok fl =>
    cases fl with
    | ret obj =>
      (obtain ⟨rfl, rfl⟩ := hr)
      (have hS : (s.heap.push { cls := .type "set", dict := none, data := .set #[] 0 (.fresh 0 0 (!w.params.followText "set-order")) }).get? s.heap.objs.size = some { cls := .type "set", dict := none, data := .set #[] 0 (.fresh 0 0 (!w.params.followText "set-order")) } := Heap.get?_push_size _ rfl)
      (have hT : Shared.TypeIs { s with heap := s.heap.push { cls := .type "set", dict := none, data := .set #[] 0 (.fresh 0 0 (!w.params.followText "set-order")) } } (.ref s.heap.objs.size) "set" := ⟨_, hS, rfl⟩)
      (have hli := F.called_set.init.lookup)
      (have hbi := F.called_set.init.bind (.ref s.heap.objs.size))
      (repeat (any_goals (first | assumption | wp_step)))
      refine codeAny_mono (codeAny_call_builtin (R := wants (fun r s₂ => r = .none ∧ ∃ h' tk c, s₂ = { s with heap := h', toks := tk } ∧ SetR w h' s.heap.objs.size (fun j => decide (j ∈ ns)) c ∧ c ≤ ns.length ∧
          (∀ b o, s.heap.get? b = some o → h'.get? b = some o)) E) F.called_set.init.plain F.entry_set_init (check_set_init_1 hT ?_)) fun r₂ s₂ hr₂ => ?_
      · obtain ⟨ol, hol, hcl, nl, hdl⟩ := hl
        (obtain ⟨ocls, odict, odata, oslots⟩ := ol)
        (simp only at hcl hdl)
        (subst hcl; subst hdl)
        (have hol' : (s.heap.push { cls := .type "set", dict := none, data := .set #[] 0 (.fresh 0 0 (!w.params.followText "set-order")) }).get? l = some { cls := .type "list", dict := odict, data := .seq items nl, slots := oslots } := Heap.get?_push_of_some _ hol)
        (have hsls := F.sub_list_set)
        (have hslf := F.sub_list_frozenset)
        (have hne : (Value.type "list" == Value.type "dict") = false := by decide)
        (have hl1 : (s.heap.push { cls := .type "set", dict := none, data := .set #[] 0 (.fresh 0 0 (!w.params.followText "set-order")) }).IsList l items := ⟨_, hol', rfl, nl, rfl⟩)
        (unfold Builtin.«set.__init__» noKeywords Builtin.Frozenset.updateFrom)
        (generalize hPI : pyIter = PI)
        (wp_walk)
        (subst hPI)
        (refine wpAny_pyIter_list hl1 ?_)
        (refine wpAny_bind (wpAny_runValue ?_))
        (have hlS : l < s.heap.objs.size := Heap.lt_size hol)
        (have hh3 : A.in1.in1.in1.handled = none := by simp [hh])
        (have hz1 : (s.heap.push { cls := .type "set", dict := none, data := .set #[] 0 (.fresh 0 0 (!w.params.followText "set-order")) }).objs.size = s.heap.objs.size + 1 := Heap.size_push ..)
        have hneI : l ≠ (s.heap.push { cls := .type "set", dict := none, data := .set #[] 0 (.fresh 0 0 (!w.params.followText "set-order")) }).objs.size := by
          (rw [Heap.size_push]; exact Nat.ne_of_lt (Nat.lt_succ_of_lt hlS))
        have hSf : s.heap.objs.size ∉ [(s.heap.push { cls := .type "set", dict := none, data := .set #[] 0 (.fresh 0 0 (!w.params.followText "set-order")) }).objs.size, l] := by
          (rw [Heap.size_push]; simp only [List.mem_cons, List.mem_singleton, List.not_mem_nil, or_false, not_or])
          (exact ⟨Nat.ne_of_lt (Nat.lt_succ_self _), Nat.ne_of_gt hlS⟩)
        have hval : ∀ (i : Nat) (v : Value), items[i]? = some v → ∃ k t, ns[i]? = some k ∧ v = .int k t := fun i v hv => by
          (have hi : i < ns.length := by rw [← hisz]; exact (Array.getElem?_eq_some_iff.mp hv).1)
          (obtain ⟨t, e⟩ := PyProof.Rows.IntsAre.int_at hit i v (by rw [Array.getElem?_toList]; exact hv))
          (refine ⟨ns[i], t, List.getElem?_eq_getElem hi, ?_⟩)
          (rw [e, List.getD_eq_getElem?_getD, List.getElem?_eq_getElem hi] <;> rfl)
        refine set_update_intsD ((Walks.list hh3 _ l hneI items).toS) s.heap.objs.size
          hSf ns hisz hb hval (items.size - 0) 0 _ (by omega) (Nat.zero_le _)
          ⟨⟨_, Heap.get?_push_size _ rfl, rfl, rfl⟩, (hl1.push _)⟩ ?hS0 ?hR
        case hS0 =>
          have hget : ((s.heap.push { cls := .type "set", dict := none, data := .set #[] 0 (.fresh 0 0 (!w.params.followText "set-order")) }).push { cls := .type "list_iterator", data := .fields #[.ref l, .int 0 0] }).get? s.heap.objs.size
              = some { cls := .type "set", dict := none, data := .set #[] 0 (.fresh 0 0 (!w.params.followText "set-order")) } := Heap.get?_push_of_some _ hS
          (exact ⟨0, Nat.le_refl 0, setR_new_at hget⟩)
        case hR =>
          (intro s' c' hm hc' hS')
          (obtain ⟨h', g2, d', tk', os'⟩ := s')
          (have eg : g2 = s.gens := hm.gens)
          (have ed : d' = s.drawn := hm.drawn)
          (have eo : os' = s.os := hm.os)
          (subst eg; subst ed; subst eo)
          (show wpAny _ _ _ _ _ _)
          (refine wpAny_pure ?_)
          (show wpAny _ _ (ret Value.none) _ _ _)
          (rw [hisz] at hc')
          (refine wpAny_pure ⟨rfl, h', tk', c', rfl, hS', hc', fun b o e => ?_⟩)
          (have hb0 : b < s.heap.objs.size := Heap.lt_size e)
          (have hb1 : b ≠ s.heap.objs.size := Nat.ne_of_lt hb0)
          have hb2 : b ≠ (s.heap.push { cls := .type "set", dict := none, data := .set #[] 0 (.fresh 0 0 (!w.params.followText "set-order")) }).objs.size := by
            (rw [Heap.size_push]; exact Nat.ne_of_lt (Nat.lt_succ_of_lt hb0))
          (exact hm.heap b o (by simp only [List.mem_cons, List.mem_singleton, List.not_mem_nil, or_false, not_or]; exact ⟨hb1, hb2⟩) (Heap.get?_push_of_some _ (Heap.get?_push_of_some _ e)))
      · cases r₂ with
        | error e => exact hr₂
        | ok fl₂ =>
          cases fl₂ with
          | ret r =>
            (obtain ⟨rfl, h', tk, c', rfl, hS', hc', hk'⟩ := hr₂)
            (repeat (any_goals (first | assumption | wp_step)))
            (exact h _ _ _ hS' hc' hk')
          | _ => exact hr₂.elim
    | _ => exact hr.elim
end
end L2.Pz
set_option Elab.async false
set_option linter.all false
set_option maxRecDepth 100000
set_option maxHeartbeats 4000000
/-! Pz4t: sorted of lists of tuples of ints -/
namespace SrtL
open PySem PyProof.Rows Srt
section
variable {prog : Program} {w : World} {A : Around} {E : Value → Shared → Prop} {s : Shared}
theorem lex_tups {b fin : Bool} {Q : Bool → Shared → Prop} {xs ys : List Value} {ns ms : List Int} (i : Nat) (hx : IntsAre xs ns) (hy : IntsAre ys ms) (hf : fin = decide (ns.length < ms.length)) (h : Q (HT.lexLt ns ms) s) : PySem.W.KatLex prog w A b fin Q (xs.zip ys) i s := by
  induction hx generalizing ys ms i with
  | nil =>
    cases hy with
    | nil =>
      rw [HT.lexLt_nil_nil] at h
      have e : fin = false := by rw [hf]; rfl
      subst e
      exact PySem.W.kat_nil h
    | cons q u hy =>
      rw [HT.lexLt_nil_cons] at h
      have e : fin = true := by rw [hf]; exact decide_eq_true (Nat.succ_pos _)
      subst e
      exact PySem.W.kat_nil h
  | @cons p t xs ns hx ih =>
    cases hy with
    | nil =>
      rw [HT.lexLt_cons_nil] at h
      have e : fin = false := by rw [hf]; exact decide_eq_false (Nat.not_lt_zero _)
      subst e
      exact PySem.W.kat_nil h
    | @cons q u ys ms hy =>
      show PySem.W.KatLex prog w A b fin Q ((Value.int p t, Value.int q u) :: xs.zip ys) i s
      refine PySem.W.kat_cons (wpAny_eqBool_int ?_)
      rw [HT.lexLt_cons] at h
      have hf' : fin = decide (ns.length < ms.length) := by
        rw [hf, List.length_cons, List.length_cons]
        exact decide_eq_decide.mpr (by omega)
      by_cases e : p = q
      · subst e
        rw [if_pos rfl] at h
        rw [beq_self_eq_true]
        refine PySem.W.kat_yes ?_
        first
          | exact ih (i + 1) hy hf' h
          | exact ih _ _ (i + 1) hy hf' h
      · rw [if_neg e] at h
        rw [show (p == q) = false from beq_eq_false_iff_ne.mpr e]
        exact PySem.W.kat_no (TS.oneLt_ints _ h)
/-- v is a tuple of these ints, one at least -/
def TupN (h : Heap) (v : Value) (ns : List Int) : Prop := TS.TupInts h v ns ∧ ns ≠ []
theorem tup_cmp {vs : List Value} {k : Value → List Int} (hp : ∀ v ∈ vs, TupN s.heap v (k v)) : SrtO.Cmp prog w A s (tuples' true) (fun p => p.1 ∈ vs) (SrtO.lt2 fun v u => HT.lexLt (k v) (k u)) := by
  intro p q hm hm'
  obtain ⟨⟨a, xs, e, ⟨o, ho, hc, n, hd⟩, i⟩, _⟩ := hp _ hm
  obtain ⟨⟨b, ys, e', ⟨o', ho', hc', n', hd'⟩, i'⟩, _⟩ := hp _ hm'
  show wpAny (model prog w) A (keyLt' (tuples' true) p.1 q.1) (fun r s' => s' = s ∧ r = HT.lexLt (k p.1) (k q.1)) (fun _ _ => False) s
  generalize k p.1 = ns at i ⊢
  generalize k q.1 = ms at i' ⊢
  rw [e, e']
  refine PySem.W.kat_lt ho hd ho' hd' (lex_tups 0 i i' ?_ ⟨rfl, rfl⟩)
  rw [← i.length, ← i'.length, Array.length_toList, Array.length_toList]
theorem firsts_of {h : Heap} {k : Value → List Int} : ∀ vs : List Value, (∀ v ∈ vs, TupN h v (k v)) → ∃ fs, PySem.W.KatTups h vs fs ∧ fs.length = vs.length ∧ ∀ f, f ∈ fs → ∃ n t, f = Value.int n t
  | [], _ => ⟨[], PySem.W.KatTups.nil, rfl, fun f hf => by simp at hf⟩
  | v :: vs, x => by
    obtain ⟨fs, k1, hl, hi⟩ := firsts_of vs fun u hu => x u (List.mem_cons_of_mem _ hu)
    obtain ⟨⟨a, xs, rfl, ⟨o, ho, hc, n, hdt⟩, i⟩, hn⟩ := x v (List.mem_cons_self ..)
    obtain ⟨y, ys, e⟩ : ∃ y ys, xs.toList = y :: ys := by
      cases q : xs.toList with
      | nil =>
        rw [q] at i
        have l := i.length
        rw [List.length_nil] at l
        exact (hn (List.eq_nil_of_length_eq_zero l.symm)).elim
      | cons y ys => exact ⟨y, ys, rfl⟩
    obtain ⟨m, t, hy⟩ := i.all y (by rw [e]; exact List.mem_cons_self ..)
    refine ⟨y :: fs, PySem.W.KatTups.cons ho hc hdt ?_ k1, by simp [hl], ?_⟩
    · have z := congrArg (fun l : List Value => l[0]?) e
      simpa using z
    · intro f hf
      rcases List.mem_cons.mp hf with rfl | hf
      · exact ⟨m, t, hy⟩
      · exact hi f hf
theorem sortable {a : Addr} {vs : List Value} {k : Value → List Int} (h0 : 0 < vs.length) (hp : ∀ v ∈ vs, TupN s.heap v (k v)) (ha : ∀ o, s.heap.get? a = some o → o.cls ≠ .type "tuple") : SrtO.SortableO prog w A s a vs fun v u => HT.lexLt (k v) (k u) := by
  intro h' keep
  have hp' : ∀ v ∈ vs, TupN h' v (k v) := fun v hm => ⟨(hp v hm).1.keeps fun b o e c => keep b o (fun z => by subst z; exact ha o e c) e, (hp v hm).2⟩
  obtain ⟨fs, h1, h2, h3⟩ := firsts_of vs hp'
  refine ⟨tuples' true, fun Q E hq => ?_, tup_cmp hp'⟩
  refine PySem.W.kat_kind (T := .type "int") h1 (by omega) (fun f hm => ?_) (by rfl) ?_
  · obtain ⟨x, t, rfl⟩ := h3 f hm
    exact PySem.W.Looks.now
  · have e : (Value.type "int" != Value.type "tuple") = true := by first | decide +kernel | rfl | decide
    rw [e]
    exact hq
theorem sorted_tups {l : Addr} {vs : List Value} {k : Value → List Int} {Q : Value → Shared → Prop} (hl : s.heap.IsList l vs.toArray) (hz : vs.length ≤ sizeLine) (hp : ∀ v ∈ vs, TupN s.heap v (k v))
    (h : ∀ (h' : Heap) (d : Addr) (out : List Value), SrtO.Srtd (fun v u => HT.lexLt (k v) (k u)) out → SrtO.Stb (fun v u => HT.lexLt (k v) (k u)) out vs → (∀ b o, s.heap.get? b = some o → h'.get? b = some o) → s.heap.objs.size ≤ d → (∃ n, h'.get? d = some (seqObj "list" out.toArray n)) → Q (.ref d) { s with heap := h' }) :
    wpAny (model prog w) A (call (.builtin "sorted") [.ref l]) Q E s := by
  refine SrtO.sorted_ord (NtL.swo_lexL k) hl hz (fun h2 h₁ a ha kk => ?_) fun out hs hb => ?_
  · refine sortable (s := { s with heap := h₁ }) (by omega) (fun v hm => ⟨(hp v hm).1.keeps fun b o e _ => (kk b o e).2, (hp v hm).2⟩) fun o e => ?_
    have e' : some o = some (seqObj "list" vs.toArray 0) := e.symm.trans ha
    cases e'
    intro c
    exact absurd (Value.type.inj c) (by decide)
  · exact h _ _ out hs hb (fun b o e => sortedAll_old e) (Nat.le_succ _) (sortedAll_at s.heap vs out.toArray)
end
end SrtL
namespace L2
open PySem PySem.Spec PyProof.Rows
/-- sorted(xs), xs a list of tuples of ints (k says which) -/
def rSortedL (K : PySem.W.Frag) : List V → Hp → VK → Prop := fun vs H Q => ∃ (a : Addr) (xs : List V) (k : V → List Int), vs = [V.ref a] ∧ SqL K H a xs ∧ (∀ x ∈ xs, ∃ t, x = V.ref t ∧ SqT K H t ((k x).map V.int) ∧ k x ≠ []) ∧
  ∀ ys p, SrtO.Srtd (fun v u => HT.lexLt (k v) (k u)) ys → ys.Perm xs → H p = none → Q (.ref p) (upd H p (.lst ys))
theorem cr_sortedL {X : Cx} : CallR X (.builtin "sorted") (rSortedL X.K) := by
  intro pins s σ H vs us Q I r h
  obtain ⟨a, xs, k, rfl, hs, hx, q⟩ := h
  obtain ⟨its, rv, hl, hz⟩ := I.list hs
  rw [Vals.ref1 r]
  obtain ⟨e1, e2⟩ := refs_back rv fun x m => by
    obtain ⟨t, e, _⟩ := hx x m
    exact ⟨t, e⟩
  refine SrtL.sorted_tups (k := fun u => k (backV u)) hl.isList (by rw [← rv.length]; exact hz) (fun v hv => ?_) fun h' d out h1 h2 kp hd hn => ?_
  · obtain ⟨t, rfl⟩ := e2 v hv
    have hm : V.ref t ∈ xs := by rw [e1]; exact List.mem_map.mpr ⟨_, hv, rfl⟩
    obtain ⟨t', e, ht, hne⟩ := hx _ hm
    cases e
    obtain ⟨its2, rv2, p2, _⟩ := I.tuple ht
    exact ⟨⟨t, its2.toArray, rfl, p2, by simpa using (show IntsAre its2 (k (backV (Value.ref t))) from rv2.ints)⟩, hne⟩
  · have h3 : ∀ u ∈ out, ∃ a, u = Value.ref a := fun u hu => e2 u (h2.perm.mem_iff.mp hu)
    obtain ⟨n, hn⟩ := hn
    have hb : (out.map backV).Perm xs := by
      rw [e1]
      exact h2.perm.map backV
    refine ⟨.ref d, upd H d (.lst (out.map backV)), I.laid (t' := s.toks) kp hd ⟨?_, out, n, vals_back h3, hn⟩, rfl, q _ d (SrtO.srtd_map h1) hb (I.hok.fresh hd)⟩
    rw [hb.length_eq]
    exact hz
end L2
set_option Elab.async false
set_option linter.all false
set_option maxRecDepth 100000
set_option maxHeartbeats 4000000
namespace L2.Pz
set_option autoImplicit false
open PySem PySem.Spec PyProof.Rows L2

/-! ## Pz5: built-in functions -/
theorem ins_perm (x : Int) : ∀ l : List Int, (ins x l).Perm (x :: l)
  | [] => .refl _
  | y :: r => by
    unfold ins
    split
    · exact .refl _
    · exact ((ins_perm x r).cons y).trans (List.Perm.swap x y r)
theorem isort_perm : ∀ l : List Int, (isort l).Perm l
  | [] => .refl _
  | x :: r => (ins_perm x (isort r)).trans ((isort_perm r).cons x)
theorem mem_ins {x z : Int} {l : List Int} : z ∈ ins x l ↔ z = x ∨ z ∈ l := by
  rw [(ins_perm x l).mem_iff, List.mem_cons]
theorem mem_isort {z : Int} {l : List Int} : z ∈ isort l ↔ z ∈ l := (isort_perm l).mem_iff
theorem ins_sorted (x : Int) : ∀ l : List Int, l.Pairwise (· ≤ ·) → (ins x l).Pairwise (· ≤ ·)
  | [], _ => List.pairwise_singleton _ _
  | y :: r, h => by
    unfold ins
    rw [List.pairwise_cons] at h
    split
    · rename_i hxy
      rw [List.pairwise_cons]
      refine ⟨fun z hz => ?_, by rw [List.pairwise_cons]; exact h⟩
      rcases List.mem_cons.mp hz with rfl | hz
      · exact hxy
      · exact Int.le_trans hxy (h.1 z hz)
    · rename_i hxy
      rw [List.pairwise_cons]
      refine ⟨fun z hz => ?_, ins_sorted x r h.2⟩
      rcases mem_ins.mp hz with rfl | hz
      · omega
      · exact h.1 z hz
theorem isort_sorted : ∀ l : List Int, (isort l).Pairwise (· ≤ ·)
  | [] => .nil
  | x :: r => ins_sorted x _ (isort_sorted r)
theorem sorted_uniq {a b : List Int} (p : a.Perm b) (ha : a.Pairwise (· ≤ ·)) (hb : b.Pairwise (· ≤ ·)) : a = b :=
  p.eq_of_pairwise (fun _ _ _ _ h1 h2 => Int.le_antisymm h1 h2) ha hb
theorem isort_uniq {a l : List Int} (p : a.Perm l) (h : a.Pairwise (· ≤ ·)) : a = isort l := sorted_uniq (p.trans (isort_perm l).symm) h (isort_sorted l)
theorem maxL_mem : ∀ (m : Int) (l : List Int), maxL m l = m ∨ maxL m l ∈ l
  | m, [] => .inl rfl
  | m, x :: r => by
    unfold maxL
    rcases maxL_mem (if m < x then x else m) r with h | h
    · rw [h]; split
      · exact .inr (List.mem_cons_self ..)
      · exact .inl rfl
    · exact .inr (List.mem_cons_of_mem _ h)
theorem maxL_ge : ∀ (m : Int) (l : List Int), m ≤ maxL m l ∧ ∀ x ∈ l, x ≤ maxL m l
  | m, [] => ⟨Int.le_refl _, fun x h => by cases h⟩
  | m, x :: r => by
    unfold maxL
    obtain ⟨h1, h2⟩ := maxL_ge (if m < x then x else m) r
    have h3 : m ≤ (if m < x then x else m) ∧ x ≤ (if m < x then x else m) := by split <;> omega
    refine ⟨by omega, fun y hy => ?_⟩
    rcases List.mem_cons.mp hy with rfl | hy
    · omega
    · exact h2 y hy
theorem minL_mem : ∀ (m : Int) (l : List Int), minL m l = m ∨ minL m l ∈ l
  | m, [] => .inl rfl
  | m, x :: r => by
    unfold minL
    rcases minL_mem (if x < m then x else m) r with h | h
    · rw [h]; split
      · exact .inr (List.mem_cons_self ..)
      · exact .inl rfl
    · exact .inr (List.mem_cons_of_mem _ h)
theorem minL_le : ∀ (m : Int) (l : List Int), minL m l ≤ m ∧ ∀ x ∈ l, minL m l ≤ x
  | m, [] => ⟨Int.le_refl _, fun x h => by cases h⟩
  | m, x :: r => by
    unfold minL
    obtain ⟨h1, h2⟩ := minL_le (if x < m then x else m) r
    have h3 : (if x < m then x else m) ≤ m ∧ (if x < m then x else m) ≤ x := by split <;> omega
    refine ⟨by omega, fun y hy => ?_⟩
    rcases List.mem_cons.mp hy with rfl | hy
    · omega
    · exact h2 y hy
theorem upto_length : ∀ (n : Nat) (lo : Int), (upto lo n).length = n
  | 0, _ => rfl
  | n + 1, lo => by rw [upto, List.length_cons, upto_length n]
theorem upto_get : ∀ (n : Nat) (lo : Int) (k : Nat), k < n → (upto lo n)[k]? = some (lo + k)
  | n + 1, lo, 0, _ => by simp [upto]
  | n + 1, lo, k + 1, h => by
    rw [upto, List.getElem?_cons_succ, upto_get n (lo + 1) k (by omega)]
    exact congrArg some (by omega)
theorem mem_upto {z : Int} : ∀ (n : Nat) (lo : Int), z ∈ upto lo n ↔ lo ≤ z ∧ z < lo + n
  | 0, lo => by simp [upto]
  | n + 1, lo => by
    rw [upto, List.mem_cons, mem_upto n (lo + 1)]
    omega
theorem upto_eq (lo : Int) : ∀ n : Nat, upto lo n = (List.range n).map fun k : Nat => lo + (k : Int) := by
  intro n
  apply List.ext_getElem?
  intro k
  by_cases h : k < n
  · rw [upto_get n lo k h, List.getElem?_map, List.getElem?_range h]; rfl
  · rw [List.getElem?_eq_none (by rw [upto_length]; omega), List.getElem?_eq_none (by simp; omega)]

section
variable {g : Gw} {X : Cx} {F : Ad} {H : Hp}
theorem RepK.length : ∀ {ps : List (Key × PV)} {vs : List (Key × V)}, RepK g F H ps vs → ps.length = vs.length
  | _, _, .nil => rfl
  | _, _, .cons _ b => congrArg Nat.succ b.length
inductive PeekL1 (g : Gw) (F : Ad) (H : Hp) (p : PV) (vs : List V) : Prop
  | mk (v : V) (e : vs = [v]) (h : Peek g F H p v)
theorem PeekL.one {p : PV} {vs : List V} (h : PeekL g F H [p] vs) : ∃ v, vs = [v] ∧ Peek g F H p v := by
  cases h with | cons a b => cases b; exact ⟨_, rfl, a⟩
theorem PeekL.two {p q : PV} {vs : List V} (h : PeekL g F H [p, q] vs) : ∃ v w, vs = [v, w] ∧ Peek g F H p v ∧ Peek g F H q w := by
  cases h with | cons a b => cases b with | cons c d => cases d; exact ⟨_, _, rfl, a, c⟩
theorem PeekL.three {p q r : PV} {vs : List V} (h : PeekL g F H [p, q, r] vs) : ∃ v w z, vs = [v, w, z] ∧ Peek g F H p v ∧ Peek g F H q w ∧ Peek g F H r z := by
  cases h with | cons a b => cases b with | cons c d => cases d with | cons e f => cases f; exact ⟨_, _, _, rfl, a, c, e⟩
theorem len_ok (hK : X.K = g.K) (hw : X.w = g.w) : CallR X (.builtin "len") (rN g lenF) := by
  intro pins s σ H xs us Q I rx ⟨F, ps, r, nf, hp, e, k⟩
  unfold lenF at e
  split at e
  · cases e
    obtain ⟨v, rfl, h⟩ := hp.one
    obtain ⟨a, vs, rfl, ea, l⟩ := h.lst
    exact call_len pins s σ H _ us Q I rx ⟨_, vs.length, rfl, .inl ⟨vs, SqL.of ea, rfl⟩, by rw [← l.length]; exact k.int⟩
  · cases e
    obtain ⟨v, rfl, h⟩ := hp.one
    obtain ⟨a, vs, rfl, ea, l⟩ := h.tup
    exact call_len pins s σ H _ us Q I rx ⟨_, vs.length, rfl, .inr ⟨vs, SqT.of ea, rfl⟩, by rw [← l.length]; exact k.int⟩
  · cases e
    obtain ⟨v, rfl, h⟩ := hp.one
    obtain ⟨a, vs, rfl, ea, l⟩ := h.dk
    exact call_lenD pins s σ H _ us Q I rx ⟨_, vs, rfl, ea, by rw [← l.length]; exact k.int⟩
  · cases e
    obtain ⟨v, rfl, h⟩ := hp.one
    obtain ⟨a, S, n, rfl, ea, hs⟩ := h.set
    rw [← hw] at ea
    obtain ⟨u, rfl, ru⟩ := vals1 rx
    cases ru
    obtain ⟨o, es, ep, t, ho, hex, hd, _, _, _, hz, hf, hn, _⟩ := setO_get I ea
    unfold scanBound at hz
    have q := k.int
    rw [← hs.2.1, ← hn] at q
    exact call_len_set ho hex hd hf (by omega) ⟨.int es.size, H, I.tok _, ⟨_, rfl⟩, q⟩
  · split at e
    · cases e
      obtain ⟨v, rfl, h⟩ := hp.one
      have e1 := h.str; subst e1
      exact call_len pins s σ H _ us Q I rx ⟨_, _, rfl, ⟨by assumption, rfl⟩, k.int⟩
    · cases e
  · cases e
theorem sum_ok (hc : X.calm = true) : CallR X (.builtin "sum") (rN g sumF) := by
  intro pins s σ H xs us Q I rx ⟨F, ps, r, nf, hp, e, k⟩
  unfold sumF at e
  split at e
  · obtain ⟨ns, e1, rfl⟩ := Option.map_eq_some_iff.mp e
    obtain ⟨v, rfl, h⟩ := hp.one
    obtain ⟨a, vs, rfl, ea, l⟩ := h.lst
    have := l.ints e1; subst this
    exact cr_sum hc pins s σ H _ us Q I rx ⟨_, _, rfl, SqL.of ea, k.int⟩
  · obtain ⟨ns, e1, rfl⟩ := Option.map_eq_some_iff.mp e
    obtain ⟨v, rfl, h⟩ := hp.one
    obtain ⟨a, vs, rfl, ea, l⟩ := h.tup
    have := l.ints e1; subst this
    rw [Vals.ref1 rx]
    obtain ⟨its, rv, pt, hz⟩ := I.tuple (SqT.of ea)
    have hi := rv.ints
    obtain ⟨zs, ez⟩ := hi.allInts.items
    have hn : numsOf (intItems zs).toList = ns := by rw [← ez]; exact hi.numsOf
    rw [nums_intItems] at hn
    have pt' : s.heap.IsTuple a (intItems zs) := by rw [← ez]; exact pt
    refine PySem.W.ktm_sumG (I.ok.hd hc) pt' fun h' tk t' hk => ?_
    refine ⟨.int ns.sum, H, I.kept hk, ?_, k.int⟩
    rw [preSum_eq, List.take_of_length_le (by simp), hn]
    exact ⟨_, rfl⟩
  · cases e
theorem keyInts_some : ∀ {kvs : List (Key × PV)} {ns : List Int}, keyInts kvs = some ns → kvs.map (·.1) = ns.map Sum.inl
  | [], _, e => by cases e; rfl
  | (.inl i, _) :: r, ns, e => by
    obtain ⟨ms, e1, rfl⟩ := Option.map_eq_some_iff.mp (show (keyInts r).map (i :: ·) = some ns from e)
    rw [List.map_cons, keyInts_some e1]; rfl
  | (.inr _, _) :: _, _, e => by cases e
theorem RepK.keys : ∀ {ps : List (Key × PV)} {vs : List (Key × V)}, RepK g F H ps vs → ps.map (·.1) = vs.map (·.1)
  | _, _, .nil => rfl
  | _, _, .cons a b => by rw [List.map_cons, List.map_cons, b.keys]
theorem min_ok (hc : X.calm = true) : CallR X (.builtin "min") (rN g minF) := by
  intro pins s σ H xs us Q I rx ⟨F, ps, r, nf, hp, e, k⟩
  unfold minF at e
  split at e
  · split at e
    · rename_i n ns e1
      cases e
      obtain ⟨v, rfl, h⟩ := hp.one
      obtain ⟨a, vs, rfl, ea, l⟩ := h.lst
      have := l.ints e1; subst this
      refine cr_min hc pins s σ H _ us Q I rx ⟨_, _, rfl, SqL.of ea, by simp, fun m hm hle => ?_⟩
      obtain ⟨h1, h2⟩ := minL_le n ns
      have h3 : minL n ns ∈ n :: ns := by
        rcases minL_mem n ns with h | h
        · rw [h]; exact List.mem_cons_self ..
        · exact List.mem_cons_of_mem _ h
      have h4 : minL n ns ≤ m := by
        rcases List.mem_cons.mp hm with rfl | hm
        · exact h1
        · exact h2 m hm
      have h5 := hle _ h3
      have : m = minL n ns := by omega
      subst this
      exact k.int
    · cases e
  · split at e
    · rename_i n ns e1
      cases e
      obtain ⟨v, rfl, h⟩ := hp.one
      obtain ⟨a, vs, rfl, ea, l⟩ := h.dk
      refine cr_minK hc pins s σ H _ us Q I rx ⟨_, _, n :: ns, rfl, ea, l.keys.symm.trans (keyInts_some e1), by simp, fun m hm hle => ?_⟩
      obtain ⟨h1, h2⟩ := minL_le n ns
      have h3 : minL n ns ∈ n :: ns := by
        rcases minL_mem n ns with h | h
        · rw [h]; exact List.mem_cons_self ..
        · exact List.mem_cons_of_mem _ h
      have h4 : minL n ns ≤ m := by
        rcases List.mem_cons.mp hm with rfl | hm
        · exact h1
        · exact h2 m hm
      have h5 := hle _ h3
      have : m = minL n ns := by omega
      subst this
      exact k.int
    · cases e
  · cases e
    obtain ⟨v, w, rfl, h1, h2⟩ := hp.two
    have e1 := h1.int; have e2 := h2.int; subst e1 e2
    exact call_min2 hc pins s σ H _ us Q I rx ⟨_, _, rfl, k.int⟩
  · cases e
theorem max_ok (hc : X.calm = true) : CallR X (.builtin "max") (rN g maxF) := by
  intro pins s σ H xs us Q I rx ⟨F, ps, r, nf, hp, e, k⟩
  unfold maxF at e
  split at e
  · split at e
    · rename_i n ns e1
      cases e
      obtain ⟨v, rfl, h⟩ := hp.one
      obtain ⟨a, vs, rfl, ea, l⟩ := h.lst
      have := l.ints e1; subst this
      refine cr_max hc pins s σ H _ us Q I rx ⟨_, _, rfl, SqL.of ea, by simp, fun m hm hle => ?_⟩
      obtain ⟨h1, h2⟩ := maxL_ge n ns
      have h3 : maxL n ns ∈ n :: ns := by
        rcases maxL_mem n ns with h | h
        · rw [h]; exact List.mem_cons_self ..
        · exact List.mem_cons_of_mem _ h
      have h4 : m ≤ maxL n ns := by
        rcases List.mem_cons.mp hm with rfl | hm
        · exact h1
        · exact h2 m hm
      have h5 := hle _ h3
      have : m = maxL n ns := by omega
      subst this
      exact k.int
    · cases e
  · cases e
    obtain ⟨v, w, rfl, h1, h2⟩ := hp.two
    have e1 := h1.int; have e2 := h2.int; subst e1 e2
    exact call_max2 hc pins s σ H _ us Q I rx ⟨_, _, rfl, k.int⟩
  · cases e
theorem abs_ok : CallR X (.builtin "abs") (rN g absF) := by
  intro pins s σ H xs us Q I rx ⟨F, ps, r, nf, hp, e, k⟩
  unfold absF at e
  split at e
  · cases e
    obtain ⟨v, rfl, h⟩ := hp.one
    have e1 := h.int; subst e1
    exact call_abs pins s σ H _ us Q I rx ⟨_, rfl, k.int⟩
  · cases e
theorem all_ok (hc : X.calm = true) : CallR X (.builtin "all") (rN g (allF fun bs => bs.all id)) := by
  intro pins s σ H xs us Q I rx ⟨F, ps, r, nf, hp, e, k⟩
  unfold allF at e
  split at e
  · obtain ⟨ns, e1, rfl⟩ := Option.map_eq_some_iff.mp e
    obtain ⟨v, rfl, h⟩ := hp.one
    obtain ⟨a, vs, rfl, ea, l⟩ := h.lst
    have := l.bools e1; subst this
    exact cr_all hc pins s σ H _ us Q I rx ⟨_, _, rfl, SqL.of ea, k.bl⟩
  · cases e
theorem any_ok (hc : X.calm = true) : CallR X (.builtin "any") (rN g (allF fun bs => bs.any id)) := by
  intro pins s σ H xs us Q I rx ⟨F, ps, r, nf, hp, e, k⟩
  unfold allF at e
  split at e
  · obtain ⟨ns, e1, rfl⟩ := Option.map_eq_some_iff.mp e
    obtain ⟨v, rfl, h⟩ := hp.one
    obtain ⟨a, vs, rfl, ea, l⟩ := h.lst
    have := l.bools e1; subst this
    exact cr_any hc pins s σ H _ us Q I rx ⟨_, _, rfl, SqL.of ea, k.bl⟩
  · cases e
theorem repInts {xs : List Int} : RepL g F H (xs.map PV.int) (xs.map V.int) := RepL.mapInt
theorem rgV_eq (a b : Int) : rgV a b = (rngL a b).map V.int := by
  unfold rgV rngL
  rw [upto_eq, List.map_map]
  rfl
theorem tuple_ok (hc : X.calm = true) : CallR X (.type "tuple") (rN g tupleF) := by
  intro pins s σ H xs us Q I rx ⟨F, ps, r, nf, hp, e, k⟩
  unfold tupleF at e
  split at e
  · cases e
    obtain ⟨v, rfl, h⟩ := hp.one
    obtain ⟨a, vs, rfl, ea, l⟩ := h.lst
    exact call_tuple_of pins s σ H _ us Q I rx ⟨_, _, rfl, .inl ⟨SqL.of ea, k.tup l⟩⟩
  · cases e
    obtain ⟨v, rfl, h⟩ := hp.one
    obtain ⟨a, vs, rfl, ea, l⟩ := h.tup
    exact call_tuple_of pins s σ H _ us Q I rx ⟨_, _, rfl, .inr ⟨SqT.of ea, k _ F H (.same h.tupV rfl)⟩⟩
  · split at e
    · rename_i lo hi hb
      cases e
      obtain ⟨v, rfl, h⟩ := hp.one
      obtain ⟨a, rfl, ea⟩ := h.rng
      rw [Vals.ref1 rx]
      obtain ⟨t, u, w, ho⟩ := I.hok a _ ea
      obtain ⟨b1, b2, b3⟩ := hb
      unfold inB at b1 b2
      simp only [Bool.and_eq_true, decide_eq_true_eq] at b1 b2
      refine call_tuple_range (n := (hi - lo).toNat) (I.ok.hd hc) (show IsRange s.heap a lo hi 1 t u w from ho) (small_one b1.1 b1.2 b2.1 b2.2) (rangeSize_nat lo hi) (by rw [sizeLine_eq] at b3; omega) fun h' tk acc hk hacc => ?_
      have hr := vals_rg hacc
      have I2 : Inv X pins σ H { s with heap := h', toks := tk } := I.kept hk
      rw [rgV_eq] at hr
      refine ⟨.ref h'.objs.size, upd H h'.objs.size (.tup ((rngL lo hi).map V.int)), I2.laid (t' := tk) (fun c o e => Heap.get?_push_of_some _ e) (Nat.le_refl _) (show ObjOk X.prog X.w _ _ _ (.tup ((rngL lo hi).map V.int)) from ⟨?_, acc.toList, hr, ?_⟩), rfl, k.tup repInts _ (I2.hok.fresh (Nat.le_refl _))⟩
      · unfold rngL; rw [List.length_map, upto_length]; exact b3
      · rw [Array.toArray_toList]; exact IsTup.new _ _
    · cases e
  · cases e
theorem list_ok (hK : X.K = g.K) (hc : X.calm = true) : CallR X (.type "list") (rN g listF) := by
  intro pins s σ H xs us Q I rx ⟨F, ps, r, nf, hp, e, k⟩
  unfold listF at e
  split at e
  · cases e
    obtain ⟨v, rfl, h⟩ := hp.one
    obtain ⟨a, vs, rfl, ea, l⟩ := h.lst
    exact call_list_of pins s σ H _ us Q I rx ⟨_, _, rfl, .inl (SqL.of ea), k.lst nf l⟩
  · cases e
    obtain ⟨v, rfl, h⟩ := hp.one
    obtain ⟨a, vs, rfl, ea, l⟩ := h.tup
    exact call_list_of pins s σ H _ us Q I rx ⟨_, _, rfl, .inr (SqT.of ea), k.lst nf l⟩
  · cases e
    obtain ⟨v, rfl, h⟩ := hp.one
    obtain ⟨a, rfl, ea⟩ := h.scr
    exact call_list_of pins s σ H _ us Q I rx ⟨_, _, rfl, .inl (by rw [hK]; exact ea), k.lst nf repInts⟩
  · split at e
    · rename_i lo hi hb
      cases e
      obtain ⟨v, rfl, h⟩ := hp.one
      obtain ⟨a, rfl, ea⟩ := h.rng
      rw [Vals.ref1 rx]
      obtain ⟨t, u, w, ho⟩ := I.hok a _ ea
      obtain ⟨b1, b2, b3⟩ := hb
      unfold inB at b1 b2
      simp only [Bool.and_eq_true, decide_eq_true_eq] at b1 b2
      refine call_list_range (n := (hi - lo).toNat) (I.ok.hd hc) (show IsRange s.heap a lo hi 1 t u w from ho) (small_one b1.1 b1.2 b2.1 b2.2) (rangeSize_nat lo hi) (by rw [sizeLine_eq] at b3; omega) fun h' tk acc c' hk e' hacc => ?_
      have hr := vals_rg hacc
      rw [rgV_eq] at hr
      refine ⟨.ref s.heap.objs.size, upd H s.heap.objs.size (.lst ((rngL lo hi).map V.int)), I.laid hk (Nat.le_refl _) (show ObjOk X.prog X.w _ _ _ (.lst ((rngL lo hi).map V.int)) from ⟨?_, acc.toList, c', hr, ?_⟩), rfl, k.lst nf repInts _ (I.hok.fresh (Nat.le_refl _))⟩
      · unfold rngL; rw [List.length_map, upto_length]; exact b3
      · rw [Array.toArray_toList]; exact e'
    · cases e
  · cases e
theorem int_okB : CallR X (.type "int") (rN g intBi) := by
  intro pins s σ H xs us Q I rx ⟨F, ps, r, nf, hp, e, k⟩
  unfold intBi at e
  split at e
  · cases e
    obtain ⟨v, rfl, h⟩ := hp.one
    have e1 := h.int; subst e1
    exact call_int1 pins s σ H _ us Q I rx (.inl ⟨_, rfl, k.int⟩)
  · cases e
theorem wk_call {pins : List (Addr × Obj)} {σ : St} {s s' : Shared} (I : Inv X pins σ H s) (k : ∀ b o, s.heap.get? b = some o → s'.heap.get? b = some o) (g1 : s'.gens = s.gens) (o1 : s'.os = s.os) : Inv X pins σ H s' := by
  obtain ⟨h', g', d', t', o'⟩ := s'
  have e : o' = s.os := o1
  subst e
  have e2 : g' = s.gens := g1
  subst e2
  exact I.call (ch := []) (Un.kept k) (I.hok.kept k) I.bare fun b z => absurd z (by simp)
/-- sorted of anything that can be collected: ints -/
theorem srt_any {pins : List (Addr × Obj)} {σ : St} {s : Shared} {v : Value} {ns : List Int} {Q : VK} (I : Inv X pins σ H s) (hz : ns.length ≤ sizeLine)
    (hcol : ∀ R : List Value → Shared → Prop, (∀ (vs : List Value) (s' : Shared) (ks : List Int), Inv X pins σ H s' → IntsAre vs ks → ks.Perm ns → R vs s') → wpAny (model X.prog X.w) X.A.in1 (collect v) R X.xe s)
    (q : ∀ p, H p = none → Q (.ref p) (upd H p (.lst ((isort ns).map V.int)))) : wpAny (model X.prog X.w) X.A (call (.builtin "sorted") [v]) (EP X pins σ Q) X.xe s := by
  refine Calls.call_function_entry kind_sorted plain_sorted entry_sorted
    (args_sorted1 _) ?_
  unfold Builtin.«sorted»
  refine wpAny_bind (wpAny_pure ?_ : wpAny _ _ (checkCount "sorted" 1 1 _) _ _ _)
  refine wpAny_bind (hcol _ fun vs s1 ks I1 hI hp => ?_)
  have hl : vs.length = ks.length := hI.length
  have hv : vs.length ≤ sizeLine := by rw [hl, hp.length_eq]; exact hz
  refine wpAny_bind (wpAny_newList ?_ hv)
  have hob : (s1.heap.push (seqObj "list" vs.toArray 0)).get? s1.heap.objs.size = some (seqObj "list" vs.toArray 0) := Heap.get?_push_size _ rfl
  have I2 : Inv X pins σ H { s1 with heap := s1.heap.push (seqObj "list" vs.toArray 0) } := I1.kept (t' := s1.toks) fun b o e => Heap.get?_push_of_some _ e
  show wpAny _ _ _ _ _ { s1 with heap := s1.heap.push (seqObj "list" vs.toArray 0) }
  refine wpAny_bind (wpAny_holding (wpAny_call_entry slot_list_sort ⟨_, hob, rfl⟩ entry_list_sort
    (SrtO.list_sort_ord SrtO.swo_int hob hv (fun h2 => SrtO.ints_sortable hI h2) fun out h1 h2 => ⟨_, rfl, ?_⟩) (args_list_sort _)))
  obtain ⟨k1, k2, k3⟩ := SrtO.ints_out hI h1 h2
  obtain ⟨ep, he'⟩ := sortedHeap_at (vs := vs) (out := out.toArray) hob
  have hu : isort ns = out.map SrtO.iv := (isort_uniq (k2.trans hp) k3).symm
  have hlen : ((isort ns).map V.int).length ≤ sizeLine := by
    rw [List.length_map, (isort_perm ns).length_eq]
    exact hz
  refine wpAny_pure ⟨_, rfl, ?_⟩
  refine ⟨.ref s1.heap.objs.size, upd H s1.heap.objs.size (.lst ((isort ns).map V.int)), I1.laid (t' := s1.toks) (fun b u e => ?_) (Nat.le_refl _) ⟨hlen, out, ep, by rw [hu]; exact vals_of_ints k1, he'⟩, rfl, q _ (I1.hok.fresh (Nat.le_refl _))⟩
  have hb : b < s1.heap.objs.size := Heap.lt_size e
  rw [sortedHeap_old (Nat.ne_of_lt hb) (by rw [size_push']; exact Nat.lt_succ_of_lt hb)]
  exact Heap.get?_push_of_some _ e
/-- the ints of a tuple in H -/
def unV : V → Option Int
  | .int i => some i
  | _ => none
def kOf (H : Hp) : V → List Int
  | .ref t => match H t with
    | some (.tup us) => us.filterMap unV
    | _ => []
  | _ => []
theorem kOf_tup {t : Addr} {ns : List Int} (e : H t = some (.tup (ns.map V.int))) : kOf H (.ref t) = ns := by
  simp only [kOf, e]
  clear e
  induction ns with
  | nil => rfl
  | cons n ns ih => rw [List.map_cons, List.filterMap_cons, show unV (V.int n) = some n from rfl]; exact congrArg (n :: ·) ih
theorem RepL.tups (K : PySem.W.Frag) : ∀ {xs : List PV} {vs : List V} {ls : List (List Int)}, RepL g F H xs vs → asTups xs = some ls → vs.map (kOf H) = ls ∧ ∀ v ∈ vs, (∃ t, v = .ref t ∧ SqT K H t ((kOf H v).map V.int) ∧ kOf H v ≠ []) ∧ RepV g F H (.tup ((kOf H v).map PV.int)) v
  | _, _, _, .nil, e => by cases e; exact ⟨rfl, fun v hv => by cases hv⟩
  | .tup ys :: xs, v :: vs, ls, .cons a b, e => by
    unfold asTups at e
    split at e
    · rename_i n ns e1
      obtain ⟨rest, e2, rfl⟩ := Option.map_eq_some_iff.mp e
      obtain ⟨h1, h2⟩ := RepL.tups K b e2
      cases a with
      | @tup t _ us hF hH l =>
        have hu := l.ints e1
        have hy := asInts_some e1
        subst hu hy
        have ke := kOf_tup hH
        refine ⟨by rw [List.map_cons, h1, ke], fun w hw => ?_⟩
        rcases List.mem_cons.mp hw with rfl | hw
        · rw [ke]
          exact ⟨⟨t, rfl, SqT.of hH, fun z => by cases z⟩, .tup hF hH l⟩
        · exact h2 w hw
    · cases e
  | .non :: _, _, _, .cons _ _, e => by cases e
  | .bl _ :: _, _, _, .cons _ _, e => by cases e
  | .int _ :: _, _, _, .cons _ _, e => by cases e
  | .str _ :: _, _, _, .cons _ _, e => by cases e
  | .lst _ :: _, _, _, .cons _ _, e => by cases e
  | .scr _ :: _, _, _, .cons _ _, e => by cases e
  | .rng _ _ :: _, _, _, .cons _ _, e => by cases e
  | .dk _ :: _, _, _, .cons _ _, e => by cases e
  | .dt _ :: _, _, _, .cons _ _, e => by cases e
  | .set _ :: _, _, _, .cons _ _, e => by cases e
theorem RepL.of_map {f : V → PV} : ∀ {ys : List V}, (∀ y ∈ ys, RepV g F H (f y) y) → RepL g F H (ys.map f) ys
  | [], _ => .nil
  | y :: ys, h => .cons (h y (List.mem_cons_self ..)) (RepL.of_map fun z hz => h z (List.mem_cons_of_mem _ hz))
theorem insL_perm (x : List Int) : ∀ l : List (List Int), (insL x l).Perm (x :: l)
  | [] => .refl _
  | y :: r => by
    unfold insL
    split
    · exact ((insL_perm x r).cons y).trans (.swap x y r)
    · exact .refl _
theorem isortL_perm : ∀ l : List (List Int), (isortL l).Perm l
  | [] => .refl _
  | x :: r => (insL_perm x (isortL r)).trans ((isortL_perm r).cons x)
theorem lexI_asym {xs ys : List Int} (h : lexI xs ys = true) : lexI ys xs = false := by
  rw [lexI_eq] at h ⊢
  exact NtL.lex_asym _ _ h
theorem lexI_tr {xs ys zs : List Int} (h1 : lexI ys xs = false) (h2 : lexI zs ys = false) : lexI zs xs = false := by
  rw [lexI_eq] at h1 h2 ⊢
  exact NtL.lex_tr _ _ _ h1 h2
theorem lexI_anti : ∀ {xs ys : List Int}, lexI xs ys = false → lexI ys xs = false → xs = ys
  | [], [], _, _ => rfl
  | [], _ :: _, h, _ => by cases h
  | _ :: _, [], _, h => by cases h
  | x :: xs, y :: ys, h1, h2 => by
    unfold lexI at h1 h2
    by_cases e : x = y
    · subst e
      rw [if_pos rfl] at h1 h2
      rw [lexI_anti h1 h2]
    · rw [if_neg e] at h1
      rw [if_neg (Ne.symm e)] at h2
      have a1 := of_decide_eq_false h1
      have a2 := of_decide_eq_false h2
      omega
theorem insL_sorted {x : List Int} : ∀ {l : List (List Int)}, l.Pairwise (fun a b => lexI b a = false) → (insL x l).Pairwise (fun a b => lexI b a = false)
  | [], _ => List.pairwise_singleton _ _
  | y :: r, h => by
    unfold insL
    rw [List.pairwise_cons] at h
    split
    · rename_i q
      refine List.pairwise_cons.mpr ⟨fun z hz => ?_, insL_sorted h.2⟩
      rcases List.mem_cons.mp ((insL_perm x r).mem_iff.mp hz) with rfl | hz
      · exact lexI_asym q
      · exact h.1 z hz
    · rename_i q
      have q : lexI y x = false := by cases e : lexI y x <;> simp_all
      exact List.pairwise_cons.mpr ⟨fun z hz => by
        rcases List.mem_cons.mp hz with rfl | hz
        · exact q
        · exact lexI_tr q (h.1 z hz), List.pairwise_cons.mpr h⟩
theorem isortL_sorted : ∀ l : List (List Int), (isortL l).Pairwise (fun a b => lexI b a = false)
  | [] => .nil
  | x :: r => insL_sorted (isortL_sorted r)
theorem sortedL_eq : ∀ {l m : List (List Int)}, l.Pairwise (fun a b => lexI b a = false) → m.Pairwise (fun a b => lexI b a = false) → l.Perm m → l = m
  | [], m, _, _, p => (List.nil_perm.mp p).symm
  | x :: l, [], _, _, p => absurd p.length_eq (by simp)
  | x :: l, y :: m, h, k, p => by
    rw [List.pairwise_cons] at h k
    have hx : x = y := by
      have h1 : x ∈ y :: m := p.mem_iff.mp (List.mem_cons_self ..)
      have h2 : y ∈ x :: l := p.mem_iff.mpr (List.mem_cons_self ..)
      rcases List.mem_cons.mp h1 with q | q
      · exact q
      · rcases List.mem_cons.mp h2 with q2 | q2
        · exact q2.symm
        · exact lexI_anti (k.1 x q) (h.1 y q2)
    subst hx
    rw [sortedL_eq h.2 k.2 (List.Perm.cons_inv p)]
theorem isortL_uniq {a l : List (List Int)} (p : a.Perm l) (h : a.Pairwise (fun x y => lexI y x = false)) : a = isortL l := sortedL_eq h (isortL_sorted l) (p.trans (isortL_perm l).symm)
theorem sorted_ok (hK : X.K = g.K) (hw : X.w = g.w) (hc : X.calm = true) : CallR X (.builtin "sorted") (rN g sortedF) := by
  intro pins s σ H xs us Q I rx ⟨F, ps, r, nf, hp, e, k⟩
  unfold sortedF at e
  split at e
  · split at e
    · rename_i ns e1
      cases e
      obtain ⟨v, rfl, h⟩ := hp.one
      obtain ⟨a, vs, rfl, ea, l⟩ := h.lst
      have := l.ints e1; subst this
      exact cr_sortedI pins s σ H _ us Q I rx ⟨_, _, rfl, SqL.of ea, fun ns' p hpm hps hn => by
        rw [isort_uniq hpm hps]
        exact k.lst nf repInts p hn⟩
    · obtain ⟨ls, e1, rfl⟩ := Option.map_eq_some_iff.mp e
      obtain ⟨v, rfl, h⟩ := hp.one
      obtain ⟨a, vs, rfl, ea, l⟩ := h.lst
      obtain ⟨m1, m2⟩ := l.tups X.K e1
      refine cr_sortedL pins s σ H _ us Q I rx ⟨_, _, kOf H, rfl, SqL.of ea, fun x hx => (m2 x hx).1, fun ys p hs hpm hn => ?_⟩
      have e2 : (isortL ls).map (fun l => PV.tup (l.map PV.int)) = ys.map fun y => PV.tup ((kOf H y).map PV.int) := by
        rw [← isortL_uniq (a := ys.map (kOf H)) (l := ls) (by rw [← m1]; exact hpm.map _) (List.pairwise_map.mpr (hs.imp fun {x y} q => by rw [lexI_eq]; exact q)), List.map_map]; rfl
      rw [e2] at k
      exact k.lst nf (RepL.of_map fun y hy => (m2 y (hpm.mem_iff.mp hy)).2) p hn
  · obtain ⟨ns, e1, rfl⟩ := Option.map_eq_some_iff.mp e
    obtain ⟨v, rfl, h⟩ := hp.one
    obtain ⟨a, vs, rfl, ea, l⟩ := h.tup
    have := l.ints e1; subst this
    rw [Vals.ref1 rx]
    obtain ⟨its, rv, pt, hz⟩ := I.tuple (SqT.of ea)
    refine srt_any I (by rw [List.length_map] at hz; exact hz) (fun R hR => ?_) fun p hn => k.lst nf repInts p hn
    obtain ⟨ob, ho, hcl, nn, hd⟩ := id pt
    exact wpAny_collect_seq a (.inr rfl) ho hcl hd (fun h' hk => hR _ _ ns (I.kept (t' := s.toks) hk) rv.ints (.refl _)) (by rw [List.size_toArray, ← rv.length]; exact hz)
  · rename_i ys
    cases e
    obtain ⟨v, rfl, h⟩ := hp.one
    obtain ⟨a, S, n, rfl, ea, hs⟩ := h.set
    rw [Vals.ref1 rx]
    have RR := setO_get I (by rw [hw]; exact ea)
    obtain ⟨o, es, ep, t, ho, hex, hd, gd, nd, hm, hb, hf, hn, hr, hl⟩ := RR
    have sa : SetAt s.heap a es ep t := ⟨o, ho, hex.1, hd⟩
    have hpm : (es.toList.map keyOf).Perm ys := by
      refine (List.perm_ext_iff_of_nodup nd hs.1).mpr fun z => ?_
      rw [← hm z, hs.2.2 z]
      simp
    refine srt_any I (ns := ys) (by
      rw [← hpm.length_eq, List.length_map, Array.length_toList]
      exact Nat.le_trans (Nat.le_of_lt hb) (by decide)) (fun R hR => ?_) fun p hn => k.lst nf repInts p hn
    refine collect_set (by show X.A.handled = none; exact I.ok.hd hc) sa hf hb hr hl fun s' out hk1 hk2 hk3 hk4 hk5 => ?_
    have gi : ∀ x ∈ es.toList.map (·.2), ∃ i t, x = Value.int i t := fun x hx => by
      obtain ⟨e, he, rfl⟩ := List.mem_map.mp hx
      obtain ⟨z, tk, hz, _⟩ := gd e he
      exact ⟨z, tk, hz⟩
    have go : IntsAre out (out.map SrtO.iv) := SrtO.ints_iv fun x hx => gi x (hk5.mem_iff.mp hx)
    refine hR out s' (out.map SrtO.iv) (wk_call I hk1 hk3 hk4) go ?_
    refine (hk5.map SrtO.iv).trans (List.Perm.trans (List.Perm.of_eq ?_) hpm)
    rw [List.map_map]
    refine List.map_congr_left fun e he => ?_
    obtain ⟨z, tk, hz, hz2⟩ := gd e he
    show SrtO.iv e.2 = keyOf e
    unfold keyOf
    rw [hz]
    rfl
  · obtain ⟨ns, e1, rfl⟩ := Option.map_eq_some_iff.mp e
    obtain ⟨v, rfl, h⟩ := hp.one
    obtain ⟨a, vs, rfl, ea, l⟩ := h.dk
    rw [Vals.ref1 rx]
    obtain ⟨z, lo, ws, rel, dd⟩ := dk_rd I.hok (.inl ea)
    obtain ⟨ep, hat⟩ := dd.dictAt
    have hkeys : ws.map (·.1) = ns.map Sum.inl := rel.keys.symm.trans (l.keys.symm.trans (keyInts_some e1))
    have hwl : ws.length = ns.length := by
      have e := congrArg List.length hkeys
      rwa [List.length_map, List.length_map] at e
    have hz' : ns.length ≤ sizeLine := by
      rw [← hwl, ← rel.length]; exact z
    refine srt_any I hz' (fun R hR => ?_) fun p hn => k.lst nf repInts p hn
    refine PySem.W.kdu_collect (A := X.A.in1) (PySem.W.kdl_dict (knd := mixKind X.prog X.w) (kvs := ws) (ep := ep) lo) (by show X.A.handled = none; exact I.ok.hd hc) hat (by rw [hwl]; exact hz') fun h' tk acc hk hacc => ?_
    have hal : acc.toList.length = ns.length := by rw [Array.length_toList, hacc.1, hwl]
    refine hR acc.toList _ ns (I.kept hk) (ints_each hal fun j v e => ?_) (.refl _)
    obtain ⟨kk, x, e1, e2⟩ := hacc.2 j v (by rw [← Array.getElem?_toList]; exact e)
    have e3 : (ws.map (·.1))[j]? = some kk := by rw [List.getElem?_map, e1]; rfl
    rw [hkeys, List.getElem?_map] at e3
    obtain ⟨y, e4, rfl⟩ := Option.map_eq_some_iff.mp e3
    rcases keyIs_shape (show keyIs (Sum.inl y) v = true from e2) with ⟨i, t, ek, ev⟩ | ⟨z, t, ek, ev⟩
    · cases ek
      exact ⟨y, t, e4, ev⟩
    · cases ek
  · cases e
theorem mem_dedup {z : Int} : ∀ {l : List Int}, z ∈ dedup l ↔ z ∈ l
  | [] => Iff.rfl
  | x :: r => by
    unfold dedup
    split
    · rename_i h
      rw [mem_dedup, List.mem_cons]
      refine ⟨.inr, fun h' => h'.elim (fun e => ?_) id⟩
      rw [e]; exact mem_dedup.mp (by simpa using h)
    · rw [List.mem_cons, List.mem_cons, mem_dedup]
theorem dedup_nodup : ∀ l : List Int, (dedup l).Nodup
  | [] => List.nodup_nil
  | x :: r => by
    unfold dedup
    split
    · exact dedup_nodup r
    · rename_i h
      exact List.nodup_cons.mpr ⟨by simpa using h, dedup_nodup r⟩
theorem setR_len {w : World} {h : Heap} {a : Addr} {ns : List Int} {c : Nat} (R : SetR w h a (fun j => decide (j ∈ ns)) c) : SetIs (dedup ns) (fun j => decide (j ∈ ns)) c := by
  obtain ⟨o, es, ep, t, ho, hex, hd, gd, nd, hm, hb, hf, hn, hr, hl⟩ := R
  refine ⟨dedup_nodup ns, ?_, fun i => ?_⟩
  · have : (es.toList.map keyOf).Perm (dedup ns) := by
      refine (List.perm_ext_iff_of_nodup nd (dedup_nodup ns)).mpr fun z => ?_
      rw [← hm z, mem_dedup]
      simp
    rw [← this.length_eq, List.length_map, Array.length_toList]
    exact hn.symm
  · rw [Bool.eq_iff_iff]
    simp [mem_dedup]
theorem set_ok (hw : X.w = g.w) (hc : X.calm = true) : CallR X (.type "set") (rN g setBi) := by
  intro pins s σ H xs us Q I rx ⟨F, ps, r, nf, hp, e, k⟩
  unfold setBi at e
  split at e
  · rename_i x
    split at e
    · rename_i ns e1
      split at e
      · rename_i hb
        cases e
        obtain ⟨v, rfl, h⟩ := hp.one
        have fin : ∀ (h' : Heap) (tk c : Nat), SetR X.w h' s.heap.objs.size (fun j => decide (j ∈ ns)) c → (∀ b o, s.heap.get? b = some o → h'.get? b = some o) → EP X pins σ Q (.ref s.heap.objs.size) { s with heap := h', toks := tk } := fun h' tk c R kp => by
          have hn := I.hok.fresh (Nat.le_refl s.heap.objs.size)
          refine ⟨.ref s.heap.objs.size, upd H s.heap.objs.size (SetO g.w s.heap.objs.size (fun j => decide (j ∈ ns)) c), I.laid kp (Nat.le_refl _) (by rw [← hw]; exact setO_new R), rfl, k _ _ _ (.new hn nf (.set upd_same (setR_len R)))⟩
        cases x with
        | lst ys =>
          obtain ⟨a, vs, rfl, ea, l⟩ := h.lst
          have := l.ints e1; subst this
          rw [Vals.ref1 rx]
          obtain ⟨its, rv, pl, hz⟩ := I.list (SqL.of ea)
          exact set_of_list ns (I.ok.hd hc) pl.isList (by simpa using rv.ints) hb fun h' tk c R _ kp => fin h' tk c R kp
        | tup ys =>
          obtain ⟨a, vs, rfl, ea, l⟩ := h.tup
          have := l.ints e1; subst this
          rw [Vals.ref1 rx]
          obtain ⟨its, rv, pl, hz⟩ := I.tuple (SqT.of ea)
          exact call_set_tupI ns (I.ok.hd hc) (show s.heap.IsTuple a its.toArray from pl) (by simpa using rv.ints) hb fun h' tk c R _ kp => fin h' tk c R kp
        | _ => cases e1
      · cases e
    · cases e
  · cases e
theorem range_ok : CallR X (.type "range") (rN g rangeF) := by
  intro pins s σ H xs us Q I rx ⟨F, ps, r, nf, hp, e, k⟩
  have fin : ∀ {lo hi : Int} {p : Addr}, r = (.rng lo hi, false) → H p = none → Q (.ref p) (upd H p (.rng lo hi)) := fun {lo hi p} er hn => by
    subst er
    exact k _ _ _ (.newZ hn (.rng (.inr rfl) upd_same))
  unfold rangeF at e
  split at e
  · split at e
    · cases e
      obtain ⟨v, rfl, h⟩ := hp.one
      have e1 := h.int; subst e1
      obtain ⟨u, rfl, ru⟩ := vals1 rx
      obtain ⟨t, rfl⟩ := ru
      refine call_range_1 ⟨.ref s.heap.objs.size, upd H s.heap.objs.size (.rng 0 _), I.laid (t' := s.toks + 2) (fun b o e => Heap.get?_push_of_some _ e) (Nat.le_refl _) ?_, rfl, fin rfl (I.hok.fresh (Nat.le_refl _))⟩
      exact ⟨_, _, _, Heap.get?_push_size _ rfl⟩
    · cases e
  · split at e
    · cases e
      obtain ⟨v, w, rfl, h1, h2⟩ := hp.two
      have e1 := h1.int; subst e1
      have e2 := h2.int; subst e2
      exact cr_range2 pins s σ H _ us Q I rx ⟨_, _, rfl, fun p hn => fin rfl hn⟩
    · cases e
  · cases e
theorem RepK.put0 {k : Key} {y : PV} {w : V} {ps : List (Key × PV)} {vs : List (Key × V)} (l : RepK g F H ps vs) (r : RepV g F H y w) : RepK g F H (putP ps k y) (putK vs k w) := by
  have any : ∀ {ps : List (Key × PV)} {vs : List (Key × V)}, RepK g F H ps vs → (ps.any fun kv => decide (kv.1 = k)) = (vs.any fun kv => decide (kv.1 = k)) := by
    intro ps
    induction ps with
    | nil => intro vs h; cases h; rfl
    | cons q ps ih => intro vs h; cases h with | cons a b => rw [List.any_cons, List.any_cons, ih b]
  have mp : ∀ {ps : List (Key × PV)} {vs : List (Key × V)}, RepK g F H ps vs → RepK g F H (ps.map fun kv => if kv.1 = k then (kv.1, y) else kv) (vs.map fun kv => if kv.1 = k then (kv.1, w) else kv) := by
    intro ps
    induction ps with
    | nil => intro vs h; cases h; exact .nil
    | cons q ps ih =>
      intro vs h
      cases h with
      | @cons k' _ _ _ _ a b =>
        rw [List.map_cons, List.map_cons]
        by_cases hk : k' = k
        · simp only [hk, if_true]; exact .cons r (ih b)
        · simp only [hk, if_false]; exact .cons a (ih b)
  have ap : ∀ {ps : List (Key × PV)} {vs : List (Key × V)}, RepK g F H ps vs → RepK g F H (ps ++ [(k, y)]) (vs ++ [(k, w)]) := by
    intro ps
    induction ps with
    | nil => intro vs h; cases h; exact .cons r .nil
    | cons q ps ih => intro vs h; cases h with | cons a b => exact .cons a (ih b)
  unfold putP putK
  rw [any l]
  split
  · exact mp l
  · exact ap l
theorem RepK.putAll : ∀ {more : List (Key × PV)} {vs : List (Key × V)} {ps : List (Key × PV)} {ws : List (Key × V)}, RepK g F H more vs → RepK g F H ps ws → RepK g F H (putAllP ps more) (mergeK ws vs)
  | _, _, _, _, .nil, h => h
  | _, _, _, _, .cons (k := k) (x := x) (v := v) a b, h => by
    have h2 := RepK.put0 (k := k) h a
    have := RepK.putAll b h2
    exact this
theorem dict_ok (hc : X.calm = true) : CallR X (.type "dict") (rN g dictF) := by
  intro pins s σ H xs us Q I rx ⟨F, ps, r, nf, hp, e, k⟩
  unfold dictF at e
  split at e
  · rename_i xs
    split at e
    · rename_i kvs e1
      split at e
      · cases e
        obtain ⟨v, rfl, h⟩ := hp.one
        obtain ⟨a, vs, rfl, ea, l⟩ := h.lst
        have key : ∀ {xs : List PV} {vs : List V} {kvs : List (Key × PV)}, RepL g F H xs vs → pairsK xs = some kvs → ∃ (ad : List Addr) (ws : List (Key × V)), vs = ad.map V.ref ∧ Paired (fun p kv => SqT X.K H p [kV kv.1, kv.2]) ad ws ∧ RepK g F H kvs ws := by
          intro xs
          induction xs with
          | nil => intro vs kvs l e; cases l; cases e; exact ⟨[], [], rfl, .nil, .nil⟩
          | cons x xs ih =>
            intro vs kvs l e
            cases l with
            | cons rx' l =>
              unfold pairsK at e
              split at e
              · rename_i heq; cases heq
              · rename_i kx vx rr heq
                cases heq
                split at e
                · rename_i kk rest g1 g2
                  cases e
                  obtain ⟨ad, ws, rfl, pr, rk⟩ := ih l g2
                  cases rx' with
                  | tup fa ha ll =>
                    cases ll with
                    | cons r1 r2 =>
                      cases r2 with
                      | cons r2 r3 =>
                        cases r3
                        have ek := toKey_some (.inl r1) g1
                        subst ek
                        exact ⟨_ :: ad, (kk, _) :: ws, rfl, .cons (SqT.of ha) pr, .cons r2 rk⟩
                · cases e
              · cases e
        obtain ⟨ad, ws, rfl, pr, rk⟩ := key l e1
        exact call_dictP hc pins s σ H _ us Q I rx ⟨a, ad, ws, rfl, SqL.of ea, pr, fun p hn => k _ _ _ (.new hn nf (.dk upd_same ((RepK.putAll rk .nil).mono (fun _ h => h) fun b o _ e => upd_keep hn b o e)))⟩
      · cases e
    · cases e
  · cases e
end
end L2.Pz
set_option Elab.async false
set_option linter.all false
set_option maxRecDepth 100000
set_option maxHeartbeats 4000000
namespace L2.Pz
set_option autoImplicit false
open PySem PySem.Spec PyProof.Rows L2

/-! ## Pz6: environments through ev -/
theorem consume_rel {env env' : En} {o : Opd} {p : PV} (e : consume env o = some (p, env')) : EnvRel env env' := by
  cases o with
  | wk _ _ => cases e
  | vl q f => cases e; exact .refl
  | sl i =>
    unfold consume at e
    simp only at e
    split at e
    · cases e; exact .refl
    · rename_i h; cases e; exact .setFz h (.inr rfl)
    · split at e
      · cases e; exact .refl
      · cases e
    · cases e
theorem consumes_rel : ∀ {os : List Opd} {env env' : En} {ps : List PV}, consumes env os = some (ps, env') → EnvRel env env'
  | [], _, _, _, e => by cases e; exact .refl
  | o :: os, env, _, _, e => by
    unfold consumes at e
    split at e
    · rename_i h1
      split at e
      · rename_i h2
        cases e
        exact (consume_rel h1).trans (consumes_rel h2)
      · cases e
    · cases e
theorem pass_rel : ∀ {ms : List Md} {os : List Opd} {env env' : En} {ps : List PV} {is : List Nat}, pass ms os env = some (ps, is, env') → EnvRel env env'
  | [], [], _, _, _, _, e => by cases e; exact .refl
  | .val :: ms, o :: os, env, _, _, _, e => by
    unfold pass at e
    split at e
    · rename_i h1
      split at e
      · rename_i h2; cases e; exact (consume_rel h1).trans (pass_rel h2)
      · cases e
    · cases e
  | .ro :: ms, o :: os, env, _, _, _, e => by
    unfold pass at e
    split at e
    · split at e
      · rename_i h2
        split at e
        · cases e
        · cases e; exact pass_rel h2
      · cases e
    · cases e
  | .mu :: ms, .sl i :: os, env, _, _, _, e => by
    unfold pass at e
    split at e
    · split at e
      · rename_i h2
        split at e
        · cases e
        · cases e; exact pass_rel h2
      · cases e
    · cases e
  | .mu :: ms, .vl _ _ :: os, env, _, _, _, e => by cases e
  | .mu :: ms, .wk _ _ :: os, env, _, _, _, e => by cases e
  | [], _ :: _, _, _, _, _, e => by cases e
  | .val :: _, [], _, _, _, _, e => by cases e
  | .ro :: _, [], _, _, _, _, e => by cases e
  | .mu :: _, [], _, _, _, _, e => by cases e
/-- the slots that pass gives are own -/
theorem pass_own : ∀ {ms : List Md} {os : List Opd} {env env' : En} {ps : List PV} {is : List Nat}, pass ms os env = some (ps, is, env') → ∀ i ∈ is, (∃ p, env[i]? = some (some ⟨p, .own⟩)) ∧ Opd.sl i ∈ os
  | [], [], _, _, _, _, e => by cases e; exact fun i h => by cases h
  | .val :: ms, o :: os, env, _, _, _, e => by
    unfold pass at e
    split at e
    · rename_i h1
      split at e
      · rename_i h2
        cases e
        intro i hi
        obtain ⟨⟨p, e1⟩, m⟩ := pass_own h2 i hi
        obtain ⟨s, e2, h⟩ := (consume_rel h1).back e1
        rcases h with rfl | ⟨h, _⟩
        · exact ⟨⟨p, e2⟩, List.mem_cons_of_mem _ m⟩
        · obtain ⟨q, k⟩ := s
          cases h
          exact ⟨⟨q, e2⟩, List.mem_cons_of_mem _ m⟩
      · cases e
    · cases e
  | .ro :: ms, o :: os, env, _, _, _, e => by
    unfold pass at e
    split at e
    · split at e
      · rename_i h2
        split at e
        · cases e
        · cases e
          intro i hi
          obtain ⟨h, m⟩ := pass_own h2 i hi
          exact ⟨h, List.mem_cons_of_mem _ m⟩
      · cases e
    · cases e
  | .mu :: ms, .sl i :: os, env, _, _, _, e => by
    unfold pass at e
    split at e
    · rename_i h1
      split at e
      · rename_i h2
        split at e
        · cases e
        · cases e
          intro j hj
          rcases List.mem_cons.mp hj with rfl | hj
          · exact ⟨⟨_, h1⟩, List.mem_cons_self ..⟩
          · obtain ⟨h, m⟩ := pass_own h2 j hj
            exact ⟨h, List.mem_cons_of_mem _ m⟩
      · cases e
    · cases e
  | .mu :: ms, .vl _ _ :: os, env, _, _, _, e => by cases e
  | .mu :: ms, .wk _ _ :: os, env, _, _, _, e => by cases e
  | [], _ :: _, _, _, _, _, e => by cases e
  | .val :: _, [], _, _, _, _, e => by cases e
  | .ro :: _, [], _, _, _, _, e => by cases e
  | .mu :: _, [], _, _, _, _, e => by cases e
theorem consume_other {env env' : En} {o : Opd} {p q : PV} {i : Nat} (e : consume env o = some (p, env')) (h : env[i]? = some (some ⟨q, .own⟩)) (n : o.is i = false) : env'[i]? = some (some ⟨q, .own⟩) := by
  cases o with
  | wk _ _ => cases e
  | vl _ _ => cases e; exact h
  | sl j =>
    have hij : j ≠ i := of_decide_eq_false n
    unfold consume at e
    simp only at e
    split at e
    · cases e; exact h
    · cases e; rw [List.getElem?_set_ne hij]; exact h
    · split at e
      · cases e; exact h
      · cases e
    · cases e
/-- an own slot that is not among the operands stays -/
theorem pass_other : ∀ {ms : List Md} {os : List Opd} {env env' : En} {ps : List PV} {is : List Nat} {i : Nat} {q : PV}, pass ms os env = some (ps, is, env') → env[i]? = some (some ⟨q, .own⟩) → ¬ os.any (Opd.is i) = true → env'[i]? = some (some ⟨q, .own⟩)
  | [], [], _, _, _, _, _, _, e, h, _ => by cases e; exact h
  | .val :: ms, o :: os, env, _, _, _, _, _, e, h, n => by
    unfold pass at e
    simp only [List.any_cons, Bool.or_eq_true, not_or, Bool.not_eq_true] at n
    split at e
    · rename_i h1
      split at e
      · rename_i h2; cases e; exact pass_other h2 (consume_other h1 h n.1) (by rw [n.2]; exact Bool.false_ne_true)
      · cases e
    · cases e
  | .ro :: ms, o :: os, env, _, _, _, _, _, e, h, n => by
    unfold pass at e
    simp only [List.any_cons, Bool.or_eq_true, not_or, Bool.not_eq_true] at n
    split at e
    · split at e
      · rename_i h2
        split at e
        · cases e
        · cases e; exact pass_other h2 h (by rw [n.2]; exact Bool.false_ne_true)
      · cases e
    · cases e
  | .mu :: ms, .sl j :: os, env, _, _, _, _, _, e, h, n => by
    unfold pass at e
    simp only [List.any_cons, Bool.or_eq_true, not_or, Bool.not_eq_true] at n
    split at e
    · split at e
      · rename_i h2
        split at e
        · cases e
        · cases e; exact pass_other h2 h (by rw [n.2]; exact Bool.false_ne_true)
      · cases e
    · cases e
  | .mu :: ms, .vl _ _ :: os, env, _, _, _, _, _, e, _, _ => by cases e
  | .mu :: ms, .wk _ _ :: os, env, _, _, _, _, _, e, _, _ => by cases e
  | [], _ :: _, _, _, _, _, _, _, e, _, _ => by cases e
  | .val :: _, [], _, _, _, _, _, _, e, _, _ => by cases e
  | .ro :: _, [], _, _, _, _, _, _, e, _, _ => by cases e
  | .mu :: _, [], _, _, _, _, _, _, e, _, _ => by cases e
/-- .. and still are behind the passing -/
theorem pass_keeps : ∀ {ms : List Md} {os : List Opd} {env env' : En} {ps : List PV} {is : List Nat}, pass ms os env = some (ps, is, env') → ∀ i ∈ is, ∃ p, env'[i]? = some (some ⟨p, .own⟩)
  | [], [], _, _, _, _, e => by cases e; exact fun i h => by cases h
  | .val :: ms, o :: os, env, _, _, _, e => by
    unfold pass at e
    split at e
    · split at e
      · rename_i h2; cases e; exact pass_keeps h2
      · cases e
    · cases e
  | .ro :: ms, o :: os, env, _, _, _, e => by
    unfold pass at e
    split at e
    · split at e
      · rename_i h2
        split at e
        · cases e
        · cases e; exact pass_keeps h2
      · cases e
    · cases e
  | .mu :: ms, .sl i :: os, env, _, _, _, e => by
    unfold pass at e
    split at e
    · rename_i p h1
      split at e
      · rename_i ps is env1 h2
        split at e
        · cases e
        · rename_i hn
          cases e
          intro j hj
          rcases List.mem_cons.mp hj with rfl | hj
          · exact ⟨_, pass_other h2 h1 hn⟩
          · exact pass_keeps h2 j hj
      · cases e
    · cases e
  | .mu :: ms, .vl _ _ :: os, env, _, _, _, e => by cases e
  | .mu :: ms, .wk _ _ :: os, env, _, _, _, e => by cases e
  | [], _ :: _, _, _, _, _, e => by cases e
  | .val :: _, [], _, _, _, _, e => by cases e
  | .ro :: _, [], _, _, _, _, e => by cases e
  | .mu :: _, [], _, _, _, _, e => by cases e
/-- slots put back as own: at places that are there -/
theorem back_rel : ∀ {is : List Nat} {ps : List PV} {env env' : En}, back is ps env = some env' → (∀ i ∈ is, ∃ p, env[i]? = some (some ⟨p, .own⟩)) → EnvRel env env'
  | [], [], _, _, e, _ => by cases e; exact .refl
  | i :: is, p :: ps, env, _, e, h => by
    unfold back at e
    obtain ⟨q, e1⟩ := h i (List.mem_cons_self ..)
    refine (EnvRel.setFz e1 (.inl rfl)).trans (back_rel e fun j hj => ?_)
    obtain ⟨r, e2⟩ := h j (List.mem_cons_of_mem _ hj)
    by_cases hij : i = j
    · subst hij
      exact ⟨p, by rw [List.getElem?_set_self (lt_of_some e1)]⟩
    · exact ⟨r, by rw [List.getElem?_set_ne hij]; exact e2⟩
  | [], _ :: _, _, _, e, _ => by cases e
  | _ :: _, [], _, _, e, _ => by cases e

/-- through a comprehension: what was wiped is restored -/
theorem wipeE_len (env : En) : ∀ vs : List Nat, (wipeE env vs).length = env.length
  | [] => rfl
  | v :: vs => by rw [wipeE, List.length_set, wipeE_len env vs]
theorem wipeE_get {env : En} {i : Nat} {s : Slot} : ∀ {vs : List Nat}, (wipeE env vs)[i]? = some (some s) → env[i]? = some (some s) ∧ i ∉ vs
  | [], e => ⟨e, by simp⟩
  | v :: vs, e => by
    unfold wipeE at e
    rcases set_get e with ⟨_, q⟩ | ⟨h, e⟩
    · cases q
    · obtain ⟨h1, h2⟩ := wipeE_get e
      exact ⟨h1, by simp only [List.mem_cons, not_or]; exact ⟨fun q => h q.symm, h2⟩⟩
theorem wipeE_out {env : En} {i : Nat} : ∀ {vs : List Nat}, i ∉ vs → (wipeE env vs)[i]? = env[i]?
  | [], _ => rfl
  | v :: vs, h => by
    simp only [List.mem_cons, not_or] at h
    rw [wipeE, List.getElem?_set_ne (fun q => h.1 q.symm), wipeE_out h.2]
theorem wipeE_in {env : En} {i : Nat} : ∀ {vs : List Nat}, i ∈ vs → i < env.length → (wipeE env vs)[i]? = some none
  | v :: vs, h, hl => by
    rw [wipeE]
    by_cases q : v = i
    · subst q; rw [List.getElem?_set_self (by rw [wipeE_len]; exact hl)]
    · rw [List.getElem?_set_ne q]
      exact wipeE_in ((List.mem_cons.mp h).resolve_left fun z => q z.symm) hl
theorem restore_len (old env : En) : ∀ vs : List Nat, (restore old env vs).length = env.length
  | [] => rfl
  | v :: vs => by rw [restore, List.length_set, restore_len old env vs]
theorem restore_out {old env : En} {i : Nat} : ∀ {vs : List Nat}, i ∉ vs → (restore old env vs)[i]? = env[i]?
  | [], _ => rfl
  | v :: vs, h => by
    simp only [List.mem_cons, not_or] at h
    rw [restore, List.getElem?_set_ne (fun q => h.1 q.symm), restore_out h.2]
theorem restore_in {old env : En} {i : Nat} (hl : old.length = env.length) : ∀ {vs : List Nat}, i ∈ vs → (restore old env vs)[i]? = old[i]?
  | v :: vs, h => by
    rw [restore]
    by_cases q : v = i
    · subst q
      by_cases hv : v < env.length
      · rw [List.getElem?_set_self (by rw [restore_len]; exact hv)]
        cases e : old[v]? with
        | none => rw [List.getElem?_eq_none_iff] at e; omega
        | some s => rfl
      · rw [List.getElem?_eq_none (by rw [List.length_set, restore_len]; omega), List.getElem?_eq_none (by omega)]
    · rw [List.getElem?_set_ne q]
      exact restore_in hl ((List.mem_cons.mp h).resolve_left fun z => q z.symm)
theorem isOwn_iff {env : En} {i : Nat} : isOwn env i = true ↔ ∃ p, env[i]? = some (some ⟨p, .own⟩) := by
  unfold isOwn
  split
  · rename_i p h; exact ⟨fun _ => ⟨p, h⟩, fun _ => rfl⟩
  · rename_i h; exact ⟨fun q => (by cases q), fun ⟨p, q⟩ => (h p q).elim⟩
theorem mem_lkOf {env : En} {is : List Nat} {i : Nat} : i ∈ lkOf env is ↔ i ∈ is ∧ ∃ p, env[i]? = some (some ⟨p, .own⟩) := by
  unfold lkOf
  rw [List.mem_filter, isOwn_iff]
theorem lock1_len (env : En) (i : Nat) : (lock1 env i).length = env.length := by
  unfold lock1
  split
  · rw [List.length_set]
  · rfl
theorem lock_len (env : En) : ∀ is : List Nat, (lock env is).length = env.length
  | [] => rfl
  | i :: is => by rw [lock, lock1_len, lock_len env is]
theorem unlock1_len (env : En) (i : Nat) : (unlock1 env i).length = env.length := by
  unfold unlock1
  split
  · rw [List.length_set]
  · rfl
theorem unlock_len (env : En) : ∀ is : List Nat, (unlock env is).length = env.length
  | [] => rfl
  | i :: is => by rw [unlock, unlock1_len, unlock_len env is]
theorem lock1_get {env : En} {i j : Nat} {o : Option Slot} (e : env[j]? = some o) : ((∀ p, i = j → o ≠ some ⟨p, .own⟩) ∧ (lock1 env i)[j]? = some o) ∨ (∃ p, i = j ∧ o = some ⟨p, .own⟩ ∧ (lock1 env i)[j]? = some (some ⟨p, .lk⟩)) := by
  unfold lock1
  split
  · rename_i p h
    by_cases q : i = j
    · subst q
      rw [h] at e; cases e
      exact .inr ⟨p, rfl, rfl, by rw [List.getElem?_set_self (lt_of_some h)]⟩
    · exact .inl ⟨fun _ z => (q z).elim, by rw [List.getElem?_set_ne q]; exact e⟩
  · rename_i h
    exact .inl ⟨fun p z q => h p (by rw [z, e, q]), e⟩
/-- what a slot is while a loop walks is -/
theorem lock_get {env : En} {i : Nat} {s : Slot} (e : env[i]? = some (some s)) : ∀ {is : List Nat}, (i ∉ lkOf env is ∧ (lock env is)[i]? = some (some s)) ∨ (i ∈ lkOf env is ∧ s.k = .own ∧ (lock env is)[i]? = some (some ⟨s.v, .lk⟩))
  | [] => .inl ⟨by simp [lkOf], e⟩
  | j :: is => by
    have ih := lock_get e (is := is)
    rcases ih with ⟨h1, h2⟩ | ⟨h1, h2, h3⟩
    · rcases lock1_get (i := j) h2 with ⟨h3, h4⟩ | ⟨p, h3, h4, h5⟩
      · refine .inl ⟨fun hm => ?_, h4⟩
        obtain ⟨m, p, hp⟩ := mem_lkOf.mp hm
        rw [e] at hp; cases hp
        rcases List.mem_cons.mp m with m | m
        · exact h3 p m.symm rfl
        · exact h1 (mem_lkOf.mpr ⟨m, p, e⟩)
      · cases h4
        subst h3
        exact .inr ⟨mem_lkOf.mpr ⟨List.mem_cons_self .., p, e⟩, rfl, h5⟩
    · obtain ⟨m, p, hp⟩ := mem_lkOf.mp h1
      refine .inr ⟨mem_lkOf.mpr ⟨List.mem_cons_of_mem _ m, p, hp⟩, h2, ?_⟩
      rcases lock1_get (i := j) h3 with ⟨_, h4⟩ | ⟨q, _, h4, _⟩
      · exact h4
      · cases h4
theorem lock_non {env : En} {i : Nat} (e : env[i]? = some none) : ∀ {is : List Nat}, (lock env is)[i]? = some none
  | [] => e
  | j :: is => by
    rcases lock1_get (i := j) (lock_non e (is := is)) with ⟨_, h4⟩ | ⟨q, _, h4, _⟩
    · exact h4
    · cases h4
theorem unlock1_get {env : En} {i j : Nat} : (i ≠ j → (unlock1 env i)[j]? = env[j]?) ∧ (∀ p, i = j → env[j]? = some (some ⟨p, .lk⟩) → (unlock1 env i)[j]? = some (some ⟨p, .own⟩)) ∧ ((∀ p, env[j]? ≠ some (some ⟨p, .lk⟩)) → (unlock1 env i)[j]? = env[j]?) := by
  unfold unlock1
  split
  · rename_i p h
    refine ⟨fun q => by rw [List.getElem?_set_ne q], fun p' q e => ?_, fun hp => ?_⟩
    · subst q; rw [h] at e; cases e; rw [List.getElem?_set_self (lt_of_some h)]
    · by_cases q : i = j
      · subst q; exact (hp p h).elim
      · rw [List.getElem?_set_ne q]
  · rename_i h
    exact ⟨fun _ => rfl, fun p q e => (h p (by rw [q]; exact e)).elim, fun _ => rfl⟩
theorem unlock_get {env : En} {i : Nat} : ∀ {is : List Nat}, (i ∉ is → (unlock env is)[i]? = env[i]?) ∧ (∀ p, i ∈ is → env[i]? = some (some ⟨p, .lk⟩) → (unlock env is)[i]? = some (some ⟨p, .own⟩)) ∧ ((∀ p, env[i]? ≠ some (some ⟨p, .lk⟩)) → (unlock env is)[i]? = env[i]?)
  | [] => ⟨fun _ => rfl, fun p h => (by cases h), fun _ => rfl⟩
  | j :: is => by
    obtain ⟨a1, a2, a3⟩ := unlock_get (env := env) (i := i) (is := is)
    obtain ⟨b1, b2, b3⟩ := unlock1_get (env := unlock env is) (i := j) (j := i)
    refine ⟨fun h => ?_, fun p h e => ?_, fun h => ?_⟩
    · simp only [List.mem_cons, not_or] at h
      rw [unlock, b1 fun q => h.1 q.symm, a1 h.2]
    · by_cases m : i ∈ is
      · have e2 := a2 p m e
        rw [unlock, b3 fun q z => (by rw [e2] at z; cases z)]
        exact e2
      · have e2 := a1 m
        rw [e] at e2
        rcases List.mem_cons.mp h with h | h
        · exact b2 p h.symm e2
        · exact (m h).elim
    · have e2 := a3 h
      rw [unlock, b3 fun q z => h q (by rw [e2] at z; exact z)]
      exact e2
/-- a loop's whole: from env through the locked one and back -/
theorem loop_rel {env env' : En} {o : List Nat} {own : List Nat} (h : EnvRel (wipeE (lock env o) own) env') : EnvRel env (unlock (restore env env' own) (lkOf env o)) := by
  have hl : env'.length = env.length := by rw [h.len, wipeE_len, lock_len]
  refine ⟨by rw [unlock_len, restore_len, hl], fun i s e => ?_, fun i e => ?_⟩
  · obtain ⟨u1, u2, u3⟩ := unlock_get (env := restore env env' own) (i := i) (is := lkOf env o)
    by_cases hi : i ∈ own
    · have e1 : (restore env env' own)[i]? = some (some s) := by rw [restore_in hl.symm hi]; exact e
      by_cases q : i ∈ lkOf env o
      · obtain ⟨_, p, hp⟩ := mem_lkOf.mp q
        rw [e] at hp; cases hp
        exact ⟨_, by rw [u3 fun p z => (by rw [e1] at z; cases z)]; exact e1, .inl rfl⟩
      · exact ⟨s, by rw [u1 q]; exact e1, .inl rfl⟩
    · have e0 := restore_out (old := env) (env := env') hi
      rcases lock_get (is := o) e with ⟨q, e1⟩ | ⟨q, hk, e1⟩
      · obtain ⟨s', e2, h2⟩ := h.pres i s (by rw [wipeE_out hi]; exact e1)
        rw [← e0] at e2
        exact ⟨s', by rw [u1 q]; exact e2, h2⟩
      · obtain ⟨s', e2, h2⟩ := h.pres i _ (by rw [wipeE_out hi]; exact e1)
        rw [← e0] at e2
        rcases h2 with rfl | ⟨h2, _⟩
        · exact ⟨⟨s.v, .own⟩, u2 s.v q e2, .inr ⟨hk, .inl rfl⟩⟩
        · cases h2
  · obtain ⟨u1, u2, u3⟩ := unlock_get (env := restore env env' own) (i := i) (is := lkOf env o)
    have q : i ∉ lkOf env o := fun q => by
      obtain ⟨_, p, hp⟩ := mem_lkOf.mp q
      rw [e] at hp; cases hp
    rw [u1 q]
    by_cases hi : i ∈ own
    · rw [restore_in hl.symm hi]; exact e
    · rw [restore_out hi]
      exact h.non i (by rw [wipeE_out hi]; exact lock_non e)
theorem stores_len {pm : List Nat} : ∀ {is : List Nat} {ps : List PV} {env env' : En}, stores pm is ps env = some env' → env'.length = env.length
  | [], [], _, _, e => by cases e; rfl
  | i :: is, p :: ps, env, _, e => by
    unfold stores at e
    split at e
    · rename_i h
      rw [stores_len e]
      unfold store at h
      split at h
      · cases h
      · split at h
        · cases h
        · cases h; rw [List.length_set]
        · cases h
    · cases e
  | [], _ :: _, _, _, e => by cases e
  | _ :: _, [], _, _, e => by cases e
theorem store_get {pm : List Nat} {i j : Nat} {p : PV} {f : Bool} {env env' : En} (e : store pm i p f env = some env') (h : i ≠ j) : env'[j]? = env[j]? := by
  unfold store at e
  split at e
  · cases e
  · split at e
    · cases e
    · cases e; rw [List.getElem?_set_ne h]
    · cases e
theorem stores_get {pm : List Nat} {j : Nat} : ∀ {is : List Nat} {ps : List PV} {env env' : En}, stores pm is ps env = some env' → j ∉ is → env'[j]? = env[j]?
  | [], [], _, _, e, _ => by cases e; rfl
  | i :: is, p :: ps, env, _, e, h => by
    unfold stores at e
    simp only [List.mem_cons, not_or] at h
    split at e
    · rename_i h1
      rw [stores_get e h.2, store_get h1 fun q => h.1 q.symm]
    · cases e
  | [], _ :: _, _, _, e, _ => by cases e
  | _ :: _, [], _, _, e, _ => by cases e
theorem bind_get {pm : List Nat} {tg : Tg} {x : PV} {env env' : En} {j : Nat} (e : bindTg pm tg x env = some env') (h : j ∉ tg.slots) : env'[j]? = env[j]? := by
  cases tg with
  | one i => exact store_get e fun q => h (by simp [Tg.slots, q])
  | many is =>
    unfold bindTg at e
    simp only at e
    split at e
    · exact stores_get e h
    · cases e
theorem bind_len {pm : List Nat} {tg : Tg} {x : PV} {env env' : En} (e : bindTg pm tg x env = some env') : env'.length = env.length := by
  cases tg with
  | one i =>
    have e : store pm i x false env = some env' := e
    unfold store at e
    split at e
    · cases e
    · split at e
      · cases e
      · cases e; rw [List.length_set]
      · cases e
  | many is =>
    unfold bindTg at e
    simp only at e
    split at e
    · exact stores_len e
    · cases e
/-- a turn of a comprehension: bound, walked, wiped again -/
theorem turn_rel {env1 env2 : En} {own : List Nat} {pm : List Nat} {tg : Tg} {x : PV} {env : En} (hs : ∀ i ∈ tg.slots, i ∈ own) (hb : bindTg pm tg x (wipeE env own) = some env1) (h : EnvRel env1 env2) : EnvRel (wipeE env own) (wipeE env2 own) := by
  have l1 := bind_len hb
  refine ⟨by rw [wipeE_len, h.len, l1], fun i s e => ?_, fun i e => ?_⟩
  · obtain ⟨e0, hi⟩ := wipeE_get e
    have e1 : env1[i]? = some (some s) := by rw [bind_get hb fun q => hi (hs i q)]; exact e
    obtain ⟨s', e2, h2⟩ := h.pres i s e1
    exact ⟨s', by rw [wipeE_out hi]; exact e2, h2⟩
  · by_cases hi : i ∈ own
    · refine wipeE_in hi ?_
      have := lt_of_some e
      rw [wipeE_len] at this
      rw [h.len, l1, wipeE_len]; exact this
    · rw [wipeE_out hi]
      exact h.non i (by rw [bind_get hb fun q => hi (hs i q)]; exact e)

section
variable {M : Nat → List Md} {C : Cl}
/-- what comprehensions' turns come to -/
theorem lcGo_rel {turn : PV → En → Option (Option PV × En)} {a : En} {n : Nat} (h : ∀ x env r env', EnvRel a env → turn x env = some (r, env') → EnvRel env env') : ∀ {xs : List PV} {env : En} {ys : List PV} {env' : En}, EnvRel a env → lcGo turn xs env = some (ys, env') → EnvRel env env'
  | [], _, _, _, _, e => by cases e; exact .refl
  | x :: xs, env, _, _, ha, e => by
    unfold lcGo at e
    split at e
    · rename_i h1
      exact (h _ _ _ _ ha h1).trans (lcGo_rel (n := n) h (ha.trans (h _ _ _ _ ha h1)) e)
    · rename_i h1
      split at e
      · rename_i h2
        cases e
        exact (h _ _ _ _ ha h1).trans (lcGo_rel (n := n) h (ha.trans (h _ _ _ _ ha h1)) h2)
      · cases e
    · cases e
theorem wipe_same {a env : En} {own : List Nat} (h : EnvRel (wipeE a own) env) : wipeE env own = env := by
  apply List.ext_getElem?
  intro i
  by_cases hi : i ∈ own
  · by_cases hl : i < env.length
    · have hl2 : i < a.length := by rw [h.len, wipeE_len] at hl; exact hl
      rw [wipeE_in hi hl, h.non i (wipeE_in hi hl2)]
    · rw [List.getElem?_eq_none (by rw [wipeE_len]; omega), List.getElem?_eq_none (by omega)]
  · exact wipeE_out hi
theorem lcGo2_rel {turn : PV → En → Option (List PV × En)} {a : En} (h : ∀ x env r env', EnvRel a env → turn x env = some (r, env') → EnvRel env env') : ∀ {xs : List PV} {env : En} {ys : List PV} {env' : En}, EnvRel a env → lcGo2 turn xs env = some (ys, env') → EnvRel env env'
  | [], _, _, _, _, e => by cases e; exact .refl
  | x :: xs, env, _, _, ha, e => by
    unfold lcGo2 at e
    split at e
    · rename_i h1
      split at e
      · rename_i h2
        cases e
        exact (h _ _ _ _ ha h1).trans (lcGo2_rel h (ha.trans (h _ _ _ _ ha h1)) h2)
      · cases e
    · cases e
mutual
theorem ev_rel : ∀ (c : E) {env : En} {o : Opd} {env' : En}, ev M C c env = some (o, env') → EnvRel env env'
  | .con _, _, _, _, e => by simp only [ev] at e; cases e; exact .refl
  | .glo _ _, _, _, _, e => by simp only [ev] at e; cases e; exact .refl
  | .dnk, _, _, _, e => by simp only [ev] at e; cases e; exact .refl
  | .dnt, _, _, _, e => by simp only [ev] at e; cases e; exact .refl
  | .var i, _, _, _, e => by
    simp only [ev] at e
    split at e
    · cases e; exact .refl
    · cases e
  | .bin o a b, env, _, _, e => by
    simp only [ev] at e
    repeat' (split at e)
    all_goals first | (cases e; done) | (cases e; exact (ev_rel a (by assumption)).trans (ev_rel b (by assumption)))
  | .un o a, _, _, _, e => by
    simp only [ev] at e
    repeat' (split at e)
    all_goals first | (cases e; done) | (cases e; exact ev_rel a (by assumption))
  | .cmp o a b, env, _, _, e => by
    simp only [ev] at e
    repeat' (split at e)
    all_goals first | (cases e; done) | (cases e; exact (ev_rel a (by assumption)).trans (ev_rel b (by assumption)))
  | .idx a b, env, _, _, e => by
    simp only [ev] at e
    repeat' (split at e)
    all_goals first | (cases e; done) | (cases e; exact (ev_rel a (by assumption)).trans (ev_rel b (by assumption)))
  | .zip a b, env, _, _, e => by
    simp only [ev] at e
    repeat' (split at e)
    all_goals first | (cases e; done) | (cases e; exact (ev_rel a (by assumption)).trans (ev_rel b (by assumption)))
  | .cmp2 o p a b c, env, _, _, e => by
    simp only [ev] at e
    repeat' (split at e)
    all_goals first
      | (cases e; done)
      | (cases e; exact ((ev_rel a (by assumption)).trans (ev_rel b (by assumption))).trans (ev_rel c (by assumption)))
      | (cases e; exact (ev_rel a (by assumption)).trans (ev_rel b (by assumption)))
  | .and a b, _, _, _, e => by
    simp only [ev] at e
    repeat' (split at e)
    all_goals first | (cases e; done) | exact (ev_rel a (by assumption)).trans (ev_rel b e) | (cases e; exact ev_rel a (by assumption))
  | .or a b, _, _, _, e => by
    simp only [ev] at e
    repeat' (split at e)
    all_goals first | (cases e; done) | exact (ev_rel a (by assumption)).trans (ev_rel b e) | (cases e; exact ev_rel a (by assumption))
  | .not a, _, _, _, e => by
    simp only [ev] at e
    repeat' (split at e)
    all_goals first | (cases e; done) | (cases e; exact ev_rel a (by assumption))
  | .ite c a b, _, _, _, e => by
    simp only [ev] at e
    repeat' (split at e)
    all_goals first | (cases e; done) | exact (ev_rel c (by assumption)).trans (ev_rel a e) | exact (ev_rel c (by assumption)).trans (ev_rel b e)
  | .tup es, _, _, _, e => by
    simp only [ev] at e
    repeat' (split at e)
    all_goals first | (cases e; done) | (cases e; exact (evs_rel es (by assumption)).trans (consumes_rel (by assumption)))
  | .lst es, _, _, _, e => by
    simp only [ev] at e
    repeat' (split at e)
    all_goals first | (cases e; done) | (cases e; exact (evs_rel es (by assumption)).trans (consumes_rel (by assumption)))
  | .dsp es, _, _, _, e => by
    simp only [ev] at e
    repeat' (split at e)
    all_goals first | (cases e; done) | (cases e; exact (evs_rel es (by assumption)).trans (consumes_rel (by assumption)))
  | .slc a lo hi, _, _, _, e => by
    simp only [ev] at e
    repeat' (split at e)
    all_goals first | (cases e; done) | (cases e; exact ((ev_rel a (by assumption)).trans (evs_rel lo (by assumption))).trans (evs_rel hi (by assumption)))
  | .rev a, _, _, _, e => by
    simp only [ev] at e
    repeat' (split at e)
    all_goals first | (cases e; done) | (cases e; exact ev_rel a (by assumption))
  | .isi t a, _, _, _, e => by
    simp only [ev] at e
    repeat' (split at e)
    all_goals first | (cases e; done) | (cases e; exact ev_rel a (by assumption))
  | .rngI es, _, _, _, e => by
    simp only [ev] at e
    repeat' (split at e)
    all_goals first | (cases e; done) | (cases e; exact evs_rel es (by assumption))
  | .enum a, _, _, _, e => by
    simp only [ev] at e
    repeat' (split at e)
    all_goals first | (cases e; done) | (cases e; exact ev_rel a (by assumption))
  | .call f es, env, _, _, e => by
    simp only [ev] at e
    split at e
    · rename_i os env1 h1
      split at e
      · rename_i ps is env2 h2
        split at e
        · rename_i r k outs h3
          split at e
          · rename_i env3 h4
            cases e
            refine ((evs_rel es h1).trans (pass_rel h2)).trans (back_rel h4 fun i hi => ?_)
            exact pass_keeps h2 i hi
          · cases e
        · cases e
      · cases e
    · cases e
  | .bi b es, _, _, _, e => by
    simp only [ev] at e
    repeat' (split at e)
    all_goals first | (cases e; done) | (cases e; exact evs_rel es (by assumption))
  | .met m a es, _, _, _, e => by
    simp only [ev] at e
    repeat' (split at e)
    all_goals first | (cases e; done) | (cases e; exact (ev_rel a (by assumption)).trans (evs_rel es (by assumption)))
  | .mm m i es, _, _, _, e => by
    simp only [ev] at e
    repeat' (split at e)
    all_goals first | (cases e; done) | (cases e; exact ((evs_rel es (by assumption)).trans (consumes_rel (by assumption))).trans (EnvRel.setFz (by assumption) (.inl rfl)))
  | .lc tg it ifs elt, env, _, _, e => by
    simp only [ev] at e
    split at e
    · rename_i x env1 h1
      split at e
      · rename_i xs o h2
        split at e
        · rename_i ys env2 h3
          split at e
          · cases e
            refine (ev_rel it h1).trans (loop_rel (lcGo_rel (a := wipeE (lock env1 o) tg.slots) (n := 0) (fun x env r env' ha ht => ?_) .refl h3))
            have hw := wipe_same ha
            have hw2 := ha
            split at ht
            · rename_i env3 hb
              rw [← hw] at hb ⊢
              split at ht
              · rename_i env4 h4
                split at ht
                · rename_i y env5 h5
                  split at ht
                  · rename_i y2 env6 h6
                    cases ht
                    exact turn_rel (fun i h => h) hb (((evIfs_rel ifs h4).trans (ev_rel elt h5)).trans (consume_rel h6))
                  · cases ht
                · cases ht
              · rename_i env4 h4
                cases ht
                exact turn_rel (fun i h => h) hb (evIfs_rel ifs h4)
              · cases ht
            · cases ht
          · cases e
        · cases e
      · cases e
    · cases e
  | .lc2 tg it ifs tg1 it1 ifs1 elt, env, _, _, e => by
    simp only [ev] at e
    split at e
    · rename_i x env1 h1
      split at e
      · rename_i xs o h2
        split at e
        · rename_i ys env2 h3
          split at e
          · cases e
            refine (ev_rel it h1).trans (loop_rel (lcGo2_rel (a := wipeE (lock env1 o) (tg.slots ++ tg1.slots)) (fun x env r env' ha ht => ?_) .refl h3))
            have hw := wipe_same ha
            split at ht
            · rename_i env3 hb
              rw [← hw] at hb ⊢
              split at ht
              · rename_i env4 h4
                split at ht
                · rename_i x1 env5 h5
                  split at ht
                  · rename_i zs o1 h6
                    split at ht
                    · rename_i ys2 env6 h7
                      cases ht
                      refine turn_rel (fun i h => List.mem_append_left _ h) hb (((evIfs_rel ifs h4).trans (ev_rel it1 h5)).trans (loop_rel (lcGo_rel (a := wipeE (lock env5 o1) tg1.slots) (n := 0) (fun x env r env' ha ht => ?_) .refl h7)))
                      have hw := wipe_same ha
                      split at ht
                      · rename_i env3 hb
                        rw [← hw] at hb ⊢
                        split at ht
                        · rename_i env4 h4
                          split at ht
                          · rename_i y env5 h5
                            split at ht
                            · rename_i y2 env6 h6
                              cases ht
                              exact turn_rel (fun i h => h) hb (((evIfs_rel ifs1 h4).trans (ev_rel elt h5)).trans (consume_rel h6))
                            · cases ht
                          · cases ht
                        · rename_i env4 h4
                          cases ht
                          exact turn_rel (fun i h => h) hb (evIfs_rel ifs1 h4)
                        · cases ht
                      · cases ht
                    · cases ht
                  · cases ht
                · cases ht
              · rename_i env4 h4
                cases ht
                exact turn_rel (fun i h => List.mem_append_left _ h) hb (evIfs_rel ifs h4)
              · cases ht
            · cases ht
          · cases e
        · cases e
      · cases e
    · cases e
theorem evs_rel : ∀ (cs : List E) {env : En} {os : List Opd} {env' : En}, evs M C cs env = some (os, env') → EnvRel env env'
  | [], _, _, _, e => by simp only [evs] at e; cases e; exact .refl
  | c :: cs, _, _, _, e => by
    simp only [evs] at e
    repeat' (split at e)
    all_goals first | (cases e; done) | (cases e; exact (ev_rel c (by assumption)).trans (evs_rel cs (by assumption)))
theorem evIfs_rel : ∀ (cs : List E) {env : En} {b : Bool} {env' : En}, evIfs M C cs env = some (b, env') → EnvRel env env'
  | [], _, _, _, e => by simp only [evIfs] at e; cases e; exact .refl
  | c :: cs, _, _, _, e => by
    simp only [evIfs] at e
    repeat' (split at e)
    all_goals first | (cases e; done) | exact (ev_rel c (by assumption)).trans (evIfs_rel cs e) | (cases e; exact ev_rel c (by assumption))
end
end
end L2.Pz
set_option Elab.async false
set_option linter.all false
set_option maxRecDepth 100000
set_option maxHeartbeats 4000000
namespace L2.Pz
set_option autoImplicit false
open PySem PySem.Spec PyProof.Rows L2

/-! ## Pz7: arguments handed over and taken back -/
/-- the slots whose objects are lent, by the modes -/
inductive Lnk (σ : St) : List Md → List V → List Nat → Prop
  | nil : Lnk σ [] [] []
  | val {ms : List Md} {v : V} {vs : List V} {is : List Nat} : Lnk σ ms vs is → Lnk σ (.val :: ms) (v :: vs) is
  | ro {ms : List Md} {v : V} {vs : List V} {is : List Nat} : Lnk σ ms vs is → Lnk σ (.ro :: ms) (v :: vs) is
  | lend {ms : List Md} {a : Addr} {vs : List V} {is : List Nat} {i : Nat} : σ[i]? = some (some (.ref a)) → i ∉ is → Lnk σ ms vs is → Lnk σ (.mu :: ms) (.ref a :: vs) (i :: is)
def endE : List Md → List PV → En
  | .mu :: ms, p :: ps => some ⟨p, .own⟩ :: endE ms ps
  | .mu :: ms, [] => none :: endE ms []
  | .val :: ms, ps => none :: endE ms ps
  | .ro :: ms, ps => none :: endE ms ps
  | [], _ => []
section
variable {g : Gw} {F F' F0 : Ad} {H H' H0 : Hp} {σ : St} {env env' : En} {O0 : Ad}
theorem starts_get : ∀ {ms : List Md} {ps : List PV} {k : Nat} {s : Slot}, (starts ms ps)[k]? = some (some s) → ∃ m, ms[k]? = some m ∧ ps[k]? = some s.v ∧ s.k = kdOf m
  | [], ps, k, s, e => by cases ps <;> simp [starts] at e
  | m :: ms, [], k, s, e => by simp [starts] at e
  | m :: ms, p :: ps, 0, s, e => by
    simp only [starts, List.getElem?_cons_zero, Option.some.injEq] at e
    subst e
    exact ⟨m, rfl, rfl, rfl⟩
  | m :: ms, p :: ps, k + 1, s, e => by
    simp only [starts, List.getElem?_cons_succ] at e
    exact starts_get (k := k) e
theorem Lnk.own : ∀ {ms : List Md} {vs : List V} {is : List Nat} {ps : List PV} {a : Addr}, Lnk σ ms vs is → Own (vs.map some) (starts ms ps) a → ∃ i ∈ is, σ[i]? = some (some (.ref a)) := by
  intro ms vs is ps a h ⟨k, x, e, es⟩
  obtain ⟨m, em, epk, hk⟩ := starts_get e
  have hm : m = .mu := by
    cases m <;> first | rfl | cases hk
  subst hm
  clear e hk epk
  induction h generalizing k with
  | nil => cases em
  | val _ ih =>
    cases k with
    | zero => cases em
    | succ k => exact ih k es em
  | ro _ ih =>
    cases k with
    | zero => cases em
    | succ k => exact ih k es em
  | lend hs _ _ ih =>
    cases k with
    | zero =>
      simp at es
      subst es
      exact ⟨_, List.mem_cons_self .., hs⟩
    | succ k =>
      obtain ⟨i, hi, e⟩ := ih k es em
      exact ⟨i, List.mem_cons_of_mem _ hi, e⟩
theorem Lnk.back : ∀ {ms : List Md} {vs : List V} {is : List Nat} {outs : List PV} {env env' : En}, Lnk σ ms vs is → Pz.back is outs env = some env' → (∀ i ∈ is, i < env.length) →
    (∀ j, j ∉ is → env'[j]? = env[j]?) ∧ ∀ j ∈ is, ∃ (out : PV) (a : Addr) (k : Nat), env'[j]? = some (some ⟨out, .own⟩) ∧ σ[j]? = some (some (.ref a)) ∧ (endE ms outs)[k]? = some (some ⟨out, .own⟩) ∧ (vs.map some)[k]? = some (some (V.ref a)) := by
  intro ms vs is outs env env' h
  induction h generalizing outs env with
  | nil =>
    intro e _
    cases outs with
    | nil => cases e; exact ⟨fun _ _ => rfl, fun j h => by cases h⟩
    | cons _ _ => cases e
  | val _ ih =>
    intro e hl
    obtain ⟨h1, h2⟩ := ih e hl
    exact ⟨h1, fun j hj => by
      obtain ⟨out, a, k, q1, q2, q3, q4⟩ := h2 j hj
      exact ⟨out, a, k + 1, q1, q2, by cases outs <;> exact q3, q4⟩⟩
  | ro _ ih =>
    intro e hl
    obtain ⟨h1, h2⟩ := ih e hl
    exact ⟨h1, fun j hj => by
      obtain ⟨out, a, k, q1, q2, q3, q4⟩ := h2 j hj
      exact ⟨out, a, k + 1, q1, q2, by cases outs <;> exact q3, q4⟩⟩
  | @lend ms a vs is i hs hn _ ih =>
    intro e hl
    cases outs with
    | nil => cases e
    | cons p ps =>
      have e : Pz.back is ps (env.set i (some ⟨p, .own⟩)) = some env' := e
      obtain ⟨h1, h2⟩ := ih e fun j hj => by rw [List.length_set]; exact hl j (List.mem_cons_of_mem _ hj)
      refine ⟨fun j hj => ?_, fun j hj => ?_⟩
      · simp only [List.mem_cons, not_or] at hj
        rw [h1 j hj.2, List.getElem?_set_ne fun q => hj.1 q.symm]
      · rcases List.mem_cons.mp hj with rfl | hj
        · exact ⟨p, a, 0, by rw [h1 j hn, List.getElem?_set_self (hl j (List.mem_cons_self ..))], hs, rfl, rfl⟩
        · obtain ⟨out, b, k, q1, q2, q3, q4⟩ := h2 j hj
          exact ⟨out, b, k + 1, q1, q2, q3, q4⟩
theorem Rep.nil (hd : ∀ a, F a → H a ≠ none) : Rep g F H [] [] := ⟨rfl, fun i s e => by simp at e, fun i j x s a _ e => by simp at e, hd⟩
/-- one slot more in front -/
theorem Rep.consS {v : V} {s : Slot} (R : Rep g F H σ env) (h : RepS g F H s v) (h1 : s.k.ex = true → ∀ a, v = .ref a → Away g F H σ env a)
    (h2 : s.k ≠ .fz → ∀ (j : Nat) (x : Slot) (a : Addr), env[j]? = some (some x) → x.k.ex = true → σ[j]? = some (some (.ref a)) → v = .ref a → RepV g F H s.v (.ref a)) : Rep g F H (some v :: σ) (some s :: env) := by
  refine ⟨by simp [R.len], fun i t e => ?_, fun i j x t a hij e1 k1 e2 k2 es ej => ?_, R.dom⟩
  · cases i with
    | zero => simp at e; subst e; exact ⟨v, rfl, h⟩
    | succ i => exact R.slot i t e
  · cases i with
    | zero =>
      simp at e1 es
      subst e1
      cases j with
      | zero => exact (hij rfl).elim
      | succ j => exact h1 k1 a es j t e2 k2 ej
    | succ i =>
      cases j with
      | zero =>
        simp at e2 ej
        subst e2
        exact h2 k2 i x a e1 k1 es ej
      | succ j => exact R.sep i j x t a (fun q => hij (by rw [q])) e1 k1 e2 k2 es ej
theorem held_alias {N : Ad} {o : Opd} {v : V} {p q : PV} {i : Nat} {a : Addr} (R : Rep g F H σ env) (h : HeldO g F H σ env N o v) (e : deref env o = some p) (ei : env[i]? = some (some ⟨q, .own⟩)) (es : σ[i]? = some (some (.ref a))) (ev : v = .ref a) (n : o.is i = false) : RepV g F H p v := by
  cases o with
  | wk _ _ => cases e
  | vl p' f =>
    cases e
    cases f with
    | false => exact h
    | true =>
      obtain ⟨b, rfl, nf, c, _, aw⟩ := h
      cases ev
      exact (nf (by
        obtain ⟨b, eb, nb, c'⟩ := R.exc ei rfl
        rw [es] at eb; cases eb
        exact c'.inF (aw i _ ei (fun h => nomatch h) es))).elim
  | sl j =>
    obtain ⟨ej, s, esj⟩ := h
    have hij : i ≠ j := fun z => by subst z; simp [Opd.is] at n
    simp only [deref, esj] at e
    cases e
    subst ev
    obtain ⟨w, ew, r⟩ := R.slot j s esj
    rw [ej] at ew; cases ew
    cases hk : s.k with
    | fz => unfold RepS at r; rw [hk] at r; exact r
    | own => exact R.sep i j _ s a hij ei rfl esj (by rw [hk]; exact fun h => nomatch h) es ej
    | ro => exact R.sep i j _ s a hij ei rfl esj (by rw [hk]; exact fun h => nomatch h) es ej
    | lk => exact R.sep i j _ s a hij ei rfl esj (by rw [hk]; exact fun h => nomatch h) es ej
theorem Away.consS {a : Addr} {v : V} {s : Slot} (aw : Away g F H σ env a) (h : s.k ≠ .fz → v = .ref a → RepV g F H s.v (.ref a)) : Away g F H (some v :: σ) (some s :: env) a := fun i t e k es => by
  cases i with
  | zero => simp at e es; subst e; exact h k es
  | succ i => exact aw i t e k es
/-- what is read stays through a freezing -/
theorem Peek.mono {p : PV} {v : V} (h : Peek g F H p v) (m : ∀ a, F a → F' a) : Peek g F' H p v := by
  rcases h with h | ⟨a, e, c⟩
  · exact .inl (h.mono m fun _ _ _ e => e)
  · exact .inr ⟨a, e, c.mono m (fun _ _ _ e => e) fun _ e => e⟩
/-- the arguments are handed over -/
theorem pass_ok : ∀ {ms : List Md} {os : List Opd} {vs : List V} {ps : List PV} {is : List Nat} {F : Ad} {env env' : En}, Rep g F H σ env → Ext F0 H0 O0 F H (Own σ env) → HeldL g F H σ env (New H0 O0) os vs → pass ms os env = some (ps, is, env') →
    ∃ F', (∀ a, F a → F' a) ∧ Ext F0 H0 O0 F' H (Own σ env') ∧ Rep g F' H σ env' ∧ Rep g F' H (vs.map some) (starts ms ps) ∧ Lnk σ ms vs is ∧ vs.length = ps.length ∧ ps.length = ms.length ∧
      ∀ (i : Nat) (q : PV) (a : Addr), env[i]? = some (some ⟨q, .own⟩) → σ[i]? = some (some (.ref a)) → ¬ os.any (Opd.is i) = true → Away g F' H (vs.map some) (starts ms ps) a
  | [], [], _, _, _, F, env, _, R, x, .nil, e => by
    cases e
    exact ⟨F, fun _ h => h, x, R, .nil R.dom, .nil, rfl, rfl, fun _ _ _ _ _ _ i s e => by simp [starts] at e⟩
  | .val :: ms, o :: os, _, _, _, F, env, _, R, x, .cons (v := v) (vs := vs) a b c, e => by
    unfold pass at e
    split at e
    · rename_i p env1 h1
      split at e
      · rename_i ps is env2 h2
        cases e
        obtain ⟨F1, C, r⟩ := consume_ok R x a h1
        obtain ⟨F2, m2, x2, R2, S2, L2, l1, l2, Z⟩ := pass_ok C.rep C.ext (C.heldL R c b) h2
        refine ⟨F2, fun a h => m2 a (C.mono a h), x2, R2, ?_, .val L2, by simp [l1], by simp [l2], fun i q a ei es n => ?_⟩
        · exact S2.consS (s := ⟨p, .fz⟩) (r.mono m2 fun _ _ _ e => e) (fun h => by cases h) fun h => (h rfl).elim
        · simp only [List.any_cons, Bool.or_eq_true, not_or, Bool.not_eq_true] at n
          exact (Z i q a (consume_other h1 ei n.1) es (by rw [n.2]; exact Bool.false_ne_true)).consS (s := ⟨p, .fz⟩) fun h => (h rfl).elim
      · cases e
    · cases e
  | .ro :: ms, o :: os, _, _, _, F, env, _, R, x, .cons (v := v) (vs := vs) a b c, e => by
    unfold pass at e
    split at e
    · rename_i p h1
      split at e
      · rename_i ps is env2 h2
        split at e
        · cases e
        · rename_i hn
          cases e
          obtain ⟨F2, m2, x2, R2, S2, L2, l1, l2, Z⟩ := pass_ok R x c h2
          have pk := (a.peek R h1).mono (F' := F2) m2
          refine ⟨F2, m2, x2, R2, ?_, .ro L2, by simp [l1], by simp [l2], fun i q a' ei es n => ?_⟩
          · refine S2.consS (s := ⟨p, .ro⟩) pk (fun h => by cases h) fun _ j y a' ej kj esj ev => ?_
            have oj : Own (vs.map some) (starts ms ps) a' := by
              obtain ⟨m, em, _, hk⟩ := starts_get ej
              obtain ⟨yv, yk⟩ := y
              cases m with
              | val => simp only [kdOf] at hk; subst hk; cases kj
              | ro => simp only [kdOf] at hk; subst hk; cases kj
              | mu => simp only [kdOf] at hk; subst hk; exact ⟨j, yv, ej, esj⟩
            obtain ⟨i, hi, es⟩ := L2.own oj
            obtain ⟨⟨q, ei⟩, _⟩ := pass_own h2 i hi
            have ni : o.is i = false := by
              cases z : o.is i with
              | false => rfl
              | true => exact (hn (List.any_eq_true.mpr ⟨i, hi, z⟩)).elim
            have r := held_alias R a h1 ei es ev ni
            rw [ev] at r
            exact r.mono m2 fun _ _ _ e => e
          · simp only [List.any_cons, Bool.or_eq_true, not_or, Bool.not_eq_true] at n
            refine (Z i q a' ei es (by rw [n.2]; exact Bool.false_ne_true)).consS (s := ⟨p, .ro⟩) fun _ ev => ?_
            have r := held_alias R a h1 ei es ev n.1
            rw [ev] at r
            exact r.mono m2 fun _ _ _ e => e
      · cases e
    · cases e
  | .mu :: ms, .sl i :: os, _, _, _, F, env, _, R, x, .cons (v := v) (vs := vs) a b c, e => by
    unfold pass at e
    split at e
    · rename_i p h1
      split at e
      · rename_i ps is env2 h2
        split at e
        · cases e
        · rename_i hn
          cases e
          obtain ⟨F2, m2, x2, R2, S2, L2, l1, l2, Z⟩ := pass_ok R x c h2
          obtain ⟨es, _⟩ := a
          obtain ⟨b', eb, nb, cb⟩ := R.exc h1 rfl
          rw [es] at eb; cases eb
          have hi : i ∉ is := fun hi => by
            obtain ⟨_, m⟩ := pass_own h2 i hi
            exact hn (List.any_eq_true.mpr ⟨_, m, by simp [Opd.is]⟩)
          have e2 := pass_other h2 h1 hn
          obtain ⟨b2, eb2, nb2, cb2⟩ := R2.exc e2 rfl
          rw [es] at eb2; cases eb2
          have aw := Z i p b' h1 es hn
          refine ⟨F2, m2, x2, R2, ?_, .lend es hi L2, by simp [l1], by simp [l2], fun j q a' ej esj n => ?_⟩
          · refine S2.consS (s := ⟨p, .own⟩) ⟨b', rfl, nb2, cb2⟩ (fun _ a' ea => by cases ea; exact aw) fun _ j y a' ej kj esj ev => ?_
            cases ev
            have oj : Own (vs.map some) (starts ms ps) b' := by
              obtain ⟨m, em, _, hk⟩ := starts_get ej
              obtain ⟨yv, yk⟩ := y
              cases m with
              | val => simp only [kdOf] at hk; subst hk; cases kj
              | ro => simp only [kdOf] at hk; subst hk; cases kj
              | mu => simp only [kdOf] at hk; subst hk; exact ⟨j, yv, ej, esj⟩
            have r := aw j y ej (by
              intro z; rw [z] at kj; cases kj) esj
            obtain ⟨b3, eb3, nb3, cb3⟩ := S2.exc ej kj
            rw [esj] at eb3; cases eb3
            exact (nb3 (cb3.inF r)).elim
          · simp only [List.any_cons, Bool.or_eq_true, not_or, Bool.not_eq_true] at n
            refine (Z j q a' ej esj (by rw [n.2]; exact Bool.false_ne_true)).consS (s := ⟨p, .own⟩) fun _ ev => ?_
            cases ev
            have hji : j ≠ i := fun z => by subst z; simp [Opd.is] at n
            exact (R.sep j i _ _ _ hji ej rfl h1 (fun h => nomatch h) esj es).mono m2 fun _ _ _ e => e
      · cases e
    · cases e
  | .mu :: ms, .vl _ _ :: os, _, _, _, _, _, _, _, _, _, e => by cases e
  | .mu :: ms, .wk _ _ :: os, _, _, _, _, _, _, _, _, _, e => by cases e
  | [], _ :: _, _, _, _, _, _, _, _, _, _, e => by cases e
  | .val :: _, [], _, _, _, _, _, _, _, _, _, e => by cases e
  | .ro :: _, [], _, _, _, _, _, _, _, _, _, e => by cases e
  | .mu :: _, [], _, _, _, _, _, _, _, _, _, e => by cases e
end
end L2.Pz
set_option Elab.async false
set_option linter.all false
set_option maxRecDepth 100000
set_option maxHeartbeats 4000000
namespace L2.Pz
set_option autoImplicit false
open PySem PySem.Spec PyProof.Rows L2

/-! ## Pz8: a call, from the caller -/
section
variable {g : Gw} {F F' : Ad} {H H' : Hp} {σ : St} {env env' : En}
/-- behind a call -/
theorem call_ok {ms : List Md} {vs : List V} {ps outs : List PV} {is : List Nat} {r : PV} {k : Bool} {v : V} (R : Rep g F H σ env) (S : Rep g F H (vs.map some) (starts ms ps)) (L : Lnk σ ms vs is) (own : ∀ i ∈ is, ∃ p, env[i]? = some (some ⟨p, .own⟩))
    (x : Ext F H (Own (vs.map some) (starts ms ps)) F' H' (Own (vs.map some) (endE ms outs))) (R' : Rep g F' H' (vs.map some) (endE ms outs))
    (h : HeldO g F' H' (vs.map some) (endE ms outs) (New H (Own (vs.map some) (starts ms ps))) (.vl r k) v) (b : back is outs env = some env') :
    Ext F H (Own σ env) F' H' (Own σ env') ∧ Rep g F' H' σ env' ∧ HeldO g F' H' σ env' (New H (Own σ env)) (.vl r k) v := by
  obtain ⟨b1, b2⟩ := L.back b fun i hi => lt_of_some (own i hi).choose_spec
  have sub : ∀ a, Own (vs.map some) (starts ms ps) a → Own σ env a := fun a h => by
    obtain ⟨i, hi, es⟩ := L.own h
    obtain ⟨p, ei⟩ := own i hi
    exact ⟨i, p, ei, es⟩
  have nF : ∀ a, Own (vs.map some) (starts ms ps) a → ¬ F a := fun a h => R.ownF (sub a h)
  have sub2 : ∀ a, Own σ env' a → Own σ env a := fun a ⟨j, q, ej, es⟩ => by
    by_cases hj : j ∈ is
    · obtain ⟨p, ei⟩ := own j hj
      exact ⟨j, p, ei, es⟩
    · rw [b1 j hj] at ej
      exact ⟨j, q, ej, es⟩
  have up : ∀ {q : PV} {w : V}, RepV g F H q w → RepV g F' H' q w := fun h => h.ext x nF
  -- what stands in a slot that was not lent, at a lent address
  have aliasO : ∀ (j : Nat) (s : Slot) (a : Addr), j ∉ is → env[j]? = some (some s) → s.k ≠ .fz → σ[j]? = some (some (.ref a)) → Own (vs.map some) (starts ms ps) a → RepV g F H s.v (.ref a) := fun j s a hj ej hk es ow => by
    obtain ⟨i, hi, ei⟩ := L.own ow
    obtain ⟨p, epi⟩ := own i hi
    exact R.sep i j _ s a (fun q => hj (q ▸ hi)) epi rfl ej hk ei es
  have upC : ∀ (j : Nat) (s : Slot) (a : Addr), j ∉ is → env[j]? = some (some s) → s.k ≠ .fz → σ[j]? = some (some (.ref a)) → RepC g F H a s.v → ¬ F a → RepC g F' H' a s.v ∧ ¬ F' a := fun j s a hj ej hk es c nf => by
    have no : ¬ Own (vs.map some) (starts ms ps) a := fun ow => nf (c.inF (aliasO j s a hj ej hk es ow))
    refine ⟨c.ext x nF no, fun hf => ?_⟩
    rcases x.newF a hf with q | q | q
    · exact nf q
    · exact no q
    · exact c.dom q
  refine ⟨⟨fun a o e n => x.keep a o e fun q => n (sub a q), x.dom, x.mono, fun a q => (x.newF a q).imp id fun z => z.imp (sub a) id, fun a q => .inl (sub2 a q)⟩, ⟨?_, fun j s ej => ?_, fun i j y s a hij ei ki ej kj es ejs => ?_, R'.dom⟩, ?_⟩
  · rw [R.len]
    have : ∀ {is : List Nat} {ps : List PV} {e e' : En}, back is ps e = some e' → e'.length = e.length := by
      intro is
      induction is with
      | nil => intro ps e e' h; cases ps <;> cases h; rfl
      | cons i is ih =>
        intro ps e e' h
        cases ps with
        | nil => cases h
        | cons p ps =>
          have h : back is ps (e.set i (some ⟨p, .own⟩)) = some e' := h
          rw [ih h, List.length_set]
    exact (this b).symm
  · by_cases hj : j ∈ is
    · obtain ⟨out, a, kk, q1, q2, q3, q4⟩ := b2 j hj
      rw [q1] at ej; cases ej
      obtain ⟨w, ew, rr⟩ := R'.slot kk _ q3
      rw [q4] at ew; cases ew
      exact ⟨_, q2, rr⟩
    · rw [b1 j hj] at ej
      obtain ⟨w, ew, rr⟩ := R.slot j s ej
      refine ⟨w, ew, ?_⟩
      obtain ⟨q, kd⟩ := s
      cases kd with
      | fz => exact up rr
      | own =>
        obtain ⟨a, rfl, nf, c⟩ := rr
        obtain ⟨c', nf'⟩ := upC j _ a hj ej (fun h => nomatch h) ew c nf
        exact ⟨a, rfl, nf', c'⟩
      | lk =>
        obtain ⟨a, rfl, nf, c⟩ := rr
        obtain ⟨c', nf'⟩ := upC j _ a hj ej (fun h => nomatch h) ew c nf
        exact ⟨a, rfl, nf', c'⟩
      | ro =>
        rcases rr with rr | ⟨a, rfl, c⟩
        · exact .inl (up rr)
        · by_cases ow : Own (vs.map some) (starts ms ps) a
          · exact .inl (up (aliasO j _ a hj ej (fun h => nomatch h) ew ow))
          · exact .inr ⟨a, rfl, c.ext x nF ow⟩
  · -- apart
    by_cases hi : i ∈ is
    · obtain ⟨out, a1, k1, q1, q2, q3, q4⟩ := b2 i hi
      rw [es] at q2; cases q2
      by_cases hj : j ∈ is
      · obtain ⟨p1, e1⟩ := own i hi
        obtain ⟨p2, e2⟩ := own j hj
        have r1 := R.sep i j _ _ a hij e1 rfl e2 (fun h => nomatch h) es ejs
        obtain ⟨c1, ec, nc, cc⟩ := R.exc e2 rfl
        rw [ejs] at ec; cases ec
        exact (nc (cc.inF r1)).elim
      · rw [b1 j hj] at ej
        obtain ⟨p1, e1⟩ := own i hi
        exact up (R.sep i j _ s a hij e1 rfl ej kj es ejs)
    · rw [b1 i hi] at ei
      by_cases hj : j ∈ is
      · obtain ⟨p2, e2⟩ := own j hj
        have r1 := R.sep i j y _ a hij ei ki e2 (fun h => nomatch h) es ejs
        obtain ⟨c1, ec, nc, cc⟩ := R.exc e2 rfl
        rw [ejs] at ec; cases ec
        exact (nc (cc.inF r1)).elim
      · rw [b1 j hj] at ej
        exact up (R.sep i j y s a hij ei ki ej kj es ejs)
  · cases k with
    | false => exact h
    | true =>
      obtain ⟨a, rfl, nf, c, na, aw⟩ := h
      refine ⟨a, rfl, nf, c, na.imp (sub a) id, fun j s ej kj es => ?_⟩
      by_cases hj : j ∈ is
      · obtain ⟨out, a1, k1, q1, q2, q3, q4⟩ := b2 j hj
        rw [q1] at ej; cases ej
        rw [es] at q2; cases q2
        exact aw k1 _ q3 kj q4
      · rw [b1 j hj] at ej
        rcases na with na | na
        · exact up (aliasO j s a hj ej kj es na)
        · obtain ⟨w, ew, rr⟩ := R.slot j s ej
          rw [es] at ew; cases ew
          obtain ⟨q, kd⟩ := s
          cases kd with
          | fz => exact (kj rfl).elim
          | own => obtain ⟨_, e, _, c⟩ := rr; cases e; exact (c.dom na).elim
          | lk => obtain ⟨_, e, _, c⟩ := rr; cases e; exact (c.dom na).elim
          | ro =>
            rcases rr with rr | ⟨_, e, c⟩
            · exact up rr
            · cases e; exact (c.dom na).elim
end

/-! ### what a def promises, by its pure meaning -/
def spC (g : Gw) (M : Nat → List Md) (C : Cl) (f : Nat) : Sp := fun vs H Q _ => ∃ F ps r outs, vs.length = ps.length ∧ ps.length = (M f).length ∧ Rep g F H (vs.map some) (starts (M f) ps) ∧ C f ps = some (r, outs) ∧
  ∀ v F' H', Ext F H (Own (vs.map some) (starts (M f) ps)) F' H' (Own (vs.map some) (endE (M f) outs)) → Rep g F' H' (vs.map some) (endE (M f) outs) → HeldO g F' H' (vs.map some) (endE (M f) outs) (New H (Own (vs.map some) (starts (M f) ps))) (.vl r.1 r.2) v → Q v H'
/-- the names of the module: its defs by number, built-ins that it leaves, constants -/
structure Nf where
  fn : List Str
  free : List Str
  cst : List (Str × PV)
/-- where code stands -/
structure CxOk (g : Gw) (M : Nat → List Md) (C : Cl) (d : Nat) (N : List Str) (nf : Nf) (X : Cx) : Prop where
  hK : X.K = g.K
  hw : X.w = g.w
  hN : X.N = N
  calm : X.calm = true
  nd : N.Nodup
  room : Room d X.A
  xe : X.xe = fun _ _ => False
  free : ∀ x ∈ nf.free, X.mg x = none
  cst : ∀ q ∈ nf.cst, ∃ u v, X.mg q.1 = some u ∧ RelV v u ∧ ∀ F H, RepV g F H q.2 v
  fn : ∀ (i : Nat) (x : Str), nf.fn[i]? = some x → ∃ fa fd ps, X.mg x = some (.ref fa) ∧ PySem.W.keepIn X.K (.ref fa) = true ∧ Binds X.K fd ps [] ∧ FnOk X.prog X.w X.K X.mg X.base CX0 d fa fd ps (spC g M C i)
end L2.Pz
set_option Elab.async false
set_option linter.all false
set_option maxRecDepth 100000
set_option maxHeartbeats 4000000
namespace L2.Pz
set_option autoImplicit false
open PySem PySem.Spec PyProof.Rows L2

/-! ## Pz9: readings by the pure meaning -/
theorem peI {X : Cx} {e : Expr} {t t' : TE} (h : PE X e t) (f : ∀ σ H Q, t' σ H Q → t σ H Q) : PE X e t' := ⟨fun pins s σ H Q I q => h.run pins s σ H Q I (f σ H Q q)⟩
theorem ptI {X : Cx} {e : Expr} {t t' : TT} (h : PT X e t) (f : ∀ σ H Q, t' σ H Q → t σ H Q) : PT X e t' := ⟨fun pins s σ H Q I q => h.run pins s σ H Q I (f σ H Q q)⟩
theorem pwI {X : Cx} {e : Expr} {t t' : TT} (h : PW X e t) (f : ∀ σ H Q, t' σ H Q → t σ H Q) : PW X e t' := ⟨fun w pins s σ H Q I q => h.run w pins s σ H Q I (f σ H Q q)⟩
theorem paI {X : Cx} {e : List Expr} {t t' : TA} (h : PA X e t) (f : ∀ σ H Q, t' σ H Q → t σ H Q) : PA X e t' := ⟨fun p pins s σ H Q I q => h.run p pins s σ H Q I (f σ H Q q)⟩
section
variable (g : Gw) (M : Nat → List Md) (C : Cl)
/-- what is wanted behind an expression -/
def Fin (σ : St) (F : Ad) (H : Hp) (env : En) (o : Opd) (env' : En) (Q : VK) : Prop :=
  ∀ v F' H', Ext F H (Own σ env) F' H' (Own σ env') → Rep g F' H' σ env' → HeldO g F' H' σ env' (New H (Own σ env)) o v → Q v H'
def FinT (σ : St) (F : Ad) (H : Hp) (env : En) (env' : En) (Q : Hp → Prop) : Prop :=
  ∀ F' H', Ext F H (Own σ env) F' H' (Own σ env') → Rep g F' H' σ env' → Q H'
def FinL (σ : St) (F : Ad) (H : Hp) (env : En) (os : List Opd) (env' : En) (Q : List V → Hp → Prop) : Prop :=
  ∀ vs F' H', Ext F H (Own σ env) F' H' (Own σ env') → Rep g F' H' σ env' → HeldL g F' H' σ env' (New H (Own σ env)) os vs → Q vs H'
def Opd.ok : Opd → Bool
  | .wk _ _ => false
  | _ => true
def tEv (c : E) : TE := fun σ H Q => ∃ F env o env', Rep g F H σ env ∧ ev M C c env = some (o, env') ∧ o.ok = true ∧ Fin g σ F H env o env' Q
def tTs (c : E) : TT := fun σ H Q => ∃ F env o env' k, Rep g F H σ env ∧ ev M C c env = some (o, env') ∧ deref env' o = some (.bl k) ∧ FinT g σ F H env env' (Q k)
def tEs (cs : List E) : TA := fun σ H Q => ∃ F env os env', Rep g F H σ env ∧ evs M C cs env = some (os, env') ∧ os.all Opd.ok = true ∧ FinL g σ F H env os env' Q
end
section
variable {g : Gw} {M : Nat → List Md} {C : Cl} {σ : St} {F F1 F' : Ad} {H H1 H' : Hp} {env env1 env' : En} {o x y : Opd} {Q : VK} {v : V} {N N' : Ad}
theorem HeldO.wid (h : HeldO g F H σ env N o v) (hN : ∀ a, N a → N' a) : HeldO g F H σ env N' o v := by
  cases o with
  | sl i => exact h
  | wk _ _ => exact h
  | vl p f =>
    cases f with
    | false => exact h
    | true => obtain ⟨a, e, nf, c, na, aw⟩ := h; exact ⟨a, e, nf, c, hN a na, aw⟩
theorem HeldL.wid (hN : ∀ a, N a → N' a) : ∀ {os : List Opd} {vs : List V}, HeldL g F H σ env N os vs → HeldL g F H σ env N' os vs
  | _, _, .nil => .nil
  | _, _, .cons a b c => .cons (a.wid hN) b (c.wid hN)
theorem Ext.new (x : Ext F H N F1 H1 N') : ∀ a, New H1 N' a → New H N a := fun a h => by
  rcases h with h | h
  · exact x.newO a h
  · exact .inr (x.dom a h)
theorem Ext.tr {O O1 O2 : Ad} (a : Ext F H O F1 H1 O1) (b : Ext F1 H1 O1 F' H' O2) : Ext F H O F' H' O2 where
  keep := fun x o e n => b.keep x o (a.keep x o e n) fun q => (a.newO x q).elim n fun z => by rw [e] at z; cases z
  dom := fun x e => a.dom x (b.dom x e)
  mono := fun x h => b.mono x (a.mono x h)
  newF := fun x h => by
    rcases b.newF x h with h | h | h
    · exact a.newF x h
    · exact .inr (a.newO x h)
    · exact .inr (.inr (a.dom x h))
  newO := fun x h => by
    rcases b.newO x h with h | h
    · exact a.newO x h
    · exact .inr (a.dom x h)
/-- one step more ahead -/
theorem Fin.pre (h : Fin g σ F H env o env' Q) (x : Ext F H (Own σ env) F1 H1 (Own σ env1)) : Fin g σ F1 H1 env1 o env' Q := fun v F' H' x' R' h' => h v F' H' (x.tr x') R' (h'.wid x.new)
theorem FinT.pre {Q : Hp → Prop} (h : FinT g σ F H env env' Q) (x : Ext F H (Own σ env) F1 H1 (Own σ env1)) : FinT g σ F1 H1 env1 env' Q := fun F' H' x' R' => h F' H' (x.tr x') R'
/-- a value made last -/
theorem Fin.out {r : PV} {k : Bool} (h : Fin g σ F H env (.vl r k) env' Q) (x : Ext F H (Own σ env) F1 H1 (Own σ env')) (R : Rep g F1 H1 σ env') : Out g F1 H1 (r, k) Q := fun v F' H' a =>
  h v F' H' (x.tr (a.ext _)) (a.rep R) ((a.held (O := Own σ env') R).wid fun b hb => x.new b hb)
/-- a value that is there -/
theorem Fin.val {r : PV} (h : Fin g σ F H env (.vl r false) env' Q) (x : Ext F H (Own σ env) F1 H1 (Own σ env')) (R : Rep g F1 H1 σ env') (hv : RepV g F1 H1 r v) : Q v H1 := h v F1 H1 x R hv
theorem PeekL.of {p : PV} {v : V} (h : Peek g F H p v) : PeekL g F H [p] [v] := .cons h .nil
/-- two operands, one behind the other -/
theorem ok_d {p : PV} (h : deref env x = some p) : x.ok = true := by
  cases x <;> first | rfl | cases h
theorem ok_ds : ∀ {os : List Opd} {ps : List PV}, derefs env os = some ps → os.all Opd.ok = true
  | [], _, _ => rfl
  | o :: os, _, h => by
    unfold derefs at h
    split at h
    · rename_i h1 h2; rw [List.all_cons, ok_d h1, ok_ds h2]; rfl
    · cases h
theorem ok_c {p : PV} (h : consume env x = some (p, env')) : x.ok = true := by
  cases x <;> first | rfl | cases h
theorem ok_cs : ∀ {os : List Opd} {ps : List PV} {env env' : En}, consumes env os = some (ps, env') → os.all Opd.ok = true
  | [], _, _, _, _ => rfl
  | o :: os, _, _, _, h => by
    unfold consumes at h
    split at h
    · rename_i h1
      split at h
      · rename_i h2; rw [List.all_cons, ok_c h1, ok_cs h2]; rfl
      · cases h
    · cases h
theorem ok_ps : ∀ {ms : List Md} {os : List Opd} {ps : List PV} {is : List Nat} {env env' : En}, pass ms os env = some (ps, is, env') → os.all Opd.ok = true
  | [], [], _, _, _, _, _ => rfl
  | .val :: ms, o :: os, _, _, _, _, h => by
    unfold pass at h
    split at h
    · rename_i h1
      split at h
      · rename_i h2; rw [List.all_cons, ok_c h1, ok_ps h2]; rfl
      · cases h
    · cases h
  | .ro :: ms, o :: os, _, _, _, _, h => by
    unfold pass at h
    split at h
    · rename_i h1
      split at h
      · rename_i h2; rw [List.all_cons, ok_d h1, ok_ps h2]; rfl
      · cases h
    · cases h
  | .mu :: ms, .sl i :: os, _, _, _, _, h => by
    unfold pass at h
    split at h
    · split at h
      · rename_i h2; rw [List.all_cons, ok_ps h2]; rfl
      · cases h
    · cases h
  | .mu :: ms, .vl _ _ :: os, _, _, _, _, e => by cases e
  | .mu :: ms, .wk _ _ :: os, _, _, _, _, e => by cases e
  | [], _ :: _, _, _, _, _, e => by cases e
  | .val :: _, [], _, _, _, _, e => by cases e
  | .ro :: _, [], _, _, _, _, e => by cases e
  | .mu :: _, [], _, _, _, _, e => by cases e
theorem two_ev {a b : E} {K : V → V → Hp → Prop} (R : Rep g F H σ env) (ea : ev M C a env = some (x, env1)) (eb : ev M C b env1 = some (y, env')) (kx : x.ok = true) (ky : y.ok = true)
    (h : ∀ v w F' H', Ext F H (Own σ env) F' H' (Own σ env') → Rep g F' H' σ env' → HeldO g F' H' σ env' (New H (Own σ env)) x v → HeldO g F' H' σ env' (New H (Own σ env)) y w → K v w H') :
    tEv g M C a σ H fun v H1 => tEv g M C b σ H1 fun w H2 => K v w H2 :=
  ⟨F, env, x, env1, R, ea, kx, fun v F1 H1 x1 R1 h1 => ⟨F1, env1, y, env', R1, eb, ky, fun w F2 H2 x2 R2 h2 =>
    h v w F2 H2 (x1.tr x2) R2 (h1.ext R1 x2 (ev_rel b eb) fun _ z => z) (h2.wid x1.new)⟩⟩
theorem two_op {a b : E} {f : PV → PV → Option Rv} {p q r : PV} {k : Bool} (R : Rep g F H σ env) (ea : ev M C a env = some (x, env1)) (eb : ev M C b env1 = some (y, env'))
    (dx : deref env' x = some p) (dy : deref env' y = some q) (e : f p q = some (r, k)) (fin : Fin g σ F H env (.vl r k) env' Q) : tOp (r2 g f) (tEv g M C a) (tEv g M C b) σ H Q :=
  two_ev R ea eb (ok_d dx) (ok_d dy) fun v w F' H' x' R' h1 h2 => ⟨F', p, q, (r, k), R'.dom, h1.peek R' dx, h2.peek R' dy, e, fin.out x' R'⟩
theorem one_op {a : E} {f : PV → Option Rv} {p r : PV} {k : Bool} (R : Rep g F H σ env) (ea : ev M C a env = some (x, env')) (dx : deref env' x = some p) (e : f p = some (r, k)) (fin : Fin g σ F H env (.vl r k) env' Q) :
    tUn (r1 g f) (tEv g M C a) σ H Q := ⟨F, env, x, env', R, ea, ok_d dx, fun v F' H' x' R' h => ⟨F', p, (r, k), R'.dom, h.peek R' dx, e, fin.out x' R'⟩⟩
/-- operands in a row -/
theorem tEs_cons {c : E} {cs : List E} {Q : List V → Hp → Prop} (h : tEs g M C (c :: cs) σ H Q) : tCons (tEv g M C c) (tEs g M C cs) σ H Q := by
  obtain ⟨F, env, os, env', R, e, ko, k⟩ := h
  simp only [evs] at e
  split at e
  · rename_i o env1 h1
    split at e
    · rename_i os1 env2 h2
      cases e
      rw [List.all_cons, Bool.and_eq_true] at ko
      refine ⟨F, env, o, env1, R, h1, ko.1, fun v F1 H1 x1 R1 a1 => ⟨F1, env1, _, _, R1, h2, ko.2, fun vs F2 H2 x2 R2 a2 => ?_⟩⟩
      refine k (v :: vs) F2 H2 (x1.tr x2) R2 (.cons (a1.ext R1 x2 (evs_rel cs h2) fun _ z => z) (fun hf kk o' eo hf' ev => ?_) (a2.wid x1.new))
      obtain ⟨a, rfl, nf, hd, _, aw⟩ := a1.fresh hf
      obtain ⟨w, ew, hw⟩ := a2.get eo
      rw [ev] at ew; cases ew
      obtain ⟨b, eb, _, _, nb, _⟩ := hw.fresh hf'
      cases eb
      rcases nb with nb | nb
      · exact aw.notOwn R1 nf nb
      · exact hd nb
    · cases e
  · cases e
theorem tEs_nil {Q : List V → Hp → Prop} (h : tEs g M C [] σ H Q) : tNil σ H Q := by
  obtain ⟨F, env, os, env', R, e, ko, k⟩ := h
  simp only [evs] at e
  cases e
  exact k [] F H .refl R .nil
end
end L2.Pz
set_option Elab.async false
set_option linter.all false
set_option maxRecDepth 100000
set_option maxHeartbeats 4000000
namespace HT
open PySem PySem.Spec PySem.Calls PyProof.Rows
section
variable {prog : Program} {w : World} {A : Around} {E : Value → Shared → Prop} {s : Shared}
theorem places_back (n : Nat) : Builtin.Slice.slicePlaces ((n : Int) - 1) (-1) (-1) = n := by
  unfold Builtin.Slice.slicePlaces
  have h1 : ¬ ((-1 : Int) > 0) := by omega
  simp only [h1, if_false]
  by_cases h : (n : Int) - 1 > -1
  · simp only [h, if_true]
    have : ((n : Int) - 1 - (-1) - 1) / (- (-1)) = (n : Int) - 1 := by
      rw [show (- (-1) : Int) = 1 by omega, Int.ediv_one]; omega
    omega
  · simp only [h, if_false]
    omega
theorem sliceApplied_back {sl : Addr} {vs : Value} {n : Nat} {Q : Int × Int × Nat → Shared → Prop} (hs : s.heap.IsSliceOf sl .none .none vs) (ps : IsPart vs (some (-1)))
    (h : Q ((n : Int) - 1, -1, n) s) : wpAny (model prog w) A (Builtin.Slice.sliceApplied (.ref sl) (pure (n : Int))) Q E s := by
  obtain ⟨os, hos, hcs, hds⟩ := id hs
  unfold Builtin.Slice.sliceApplied Builtin.Slice.sliceFields
  refine wpAny_bind (wpAny_bind (wpAny_field hos hds (x := .none) rfl (wpAny_bind (wpAny_field hos hds (x := .none) rfl (wpAny_bind (wpAny_field hos hds (x := vs) rfl (wpAny_pure ?_)))))))
  refine wpAny_bind (slicePart_ ps ?_)
  show wpAny _ _ (if ((-1 : Int) == 0) = true then _ else _) _ _ s
  rw [if_neg (by decide)]
  refine wpAny_bind (slicePart_none (wpAny_bind (slicePart_none (wpAny_bind (wpAny_pure ?_)))))
  show wpAny _ _ (pure ((n : Int) - 1, (-1 : Int), Builtin.Slice.slicePlaces ((n : Int) - 1) (-1) (-1))) _ _ s
  rw [places_back]
  exact wpAny_pure h
theorem fm_congr {α β : Type} {f g : α → Option β} : ∀ {l : List α}, (∀ x ∈ l, f x = g x) → l.filterMap f = l.filterMap g
  | [], _ => rfl
  | x :: l, h => by rw [List.filterMap_cons, List.filterMap_cons, h x (List.mem_cons_self ..), fm_congr fun y hy => h y (List.mem_cons_of_mem _ hy)]
theorem pick_back (xs : Array Value) : ((List.range xs.size).filterMap fun (m : Nat) => xs[((xs.size : Int) - 1 + (m : Int) * (-1)).toNat]?).toArray = xs.toList.reverse.toArray := by
  congr 1
  have e : (List.range xs.size).filterMap (fun (m : Nat) => xs[((xs.size : Int) - 1 + (m : Int) * (-1)).toNat]?) = (List.range xs.size).filterMap fun m => xs.toList.reverse[m]? := by
    refine fm_congr fun m hm => ?_
    have hm := List.mem_range.mp hm
    have : ((xs.size : Int) - 1 + (m : Int) * (-1)).toNat = xs.size - 1 - m := by omega
    rw [this, List.getElem?_reverse (by simpa using hm)]
    simp
  rw [e]
  have k : ∀ (l : List Value) (n : Nat), n = l.length → (List.range n).filterMap (fun m => l[m]?) = l := by
    intro l n hn
    subst hn
    apply List.ext_getElem?
    intro i
    have : (List.range l.length).filterMap (fun m => l[m]?) = (List.range l.length).attach.map (fun m => l[m.1]'(List.mem_range.mp m.2)) := by
      have h2 : (List.range l.length).filterMap (fun m => l[m]?) = (List.range l.length).attach.filterMap (fun m => l[m.1]?) := by
        conv => lhs; rw [← List.attach_map_subtype_val (List.range l.length)]
        rw [List.filterMap_map]; rfl
      rw [h2]
      have h3 : (fun m : { x // x ∈ List.range l.length } => l[m.1]?) = fun m => some (l[m.1]'(List.mem_range.mp m.2)) := by
        funext m
        rw [List.getElem?_eq_getElem (List.mem_range.mp m.2)]
      rw [h3, List.filterMap_eq_map']
    rw [this, List.getElem?_map]
    by_cases hi : i < l.length
    · rw [List.getElem?_eq_getElem (by simpa using hi), List.getElem?_eq_getElem hi]
      simp
    · rw [List.getElem?_eq_none (by simpa using hi), List.getElem?_eq_none (by omega)]; rfl
  exact k _ _ (by simp)
theorem getItem_tuple_rev {t sl : Addr} {items : Array Value} {vs : Value} {Q : Value → Shared → Prop} (ht : IsTup s.heap t items) (hs : s.heap.IsSliceOf sl .none .none vs) (ps : IsPart vs (some (-1)))
    (h : Q (.ref s.heap.objs.size) { s with heap := s.heap.push { cls := .type "tuple", data := .seq items.toList.reverse.toArray } })
    (hsz : items.size ≤ sizeLine) : wpAny (model prog w) A (getItem (.ref t) (.ref sl)) Q E s := by
  have htake : sizeOk (.seq items.toList.reverse.toArray) := by
    show items.toList.reverse.toArray.size ≤ sizeLine
    rw [List.size_toArray, List.length_reverse, Array.length_toList]
    exact hsz
  obtain ⟨os, hos, hcs, hds⟩ := id hs
  have hTs : s.TypeIs (.ref sl) "slice" := ⟨os, hos, hcs⟩
  unfold getItem
  try with_reducible refine wpAny_holding ?_
  first | refine wpAny_bind (wpAny_pure ?_) | skip
  refine wpAny_bind (wpAny_sequenceKey ht.typeIs (by decide) ?_)
  refine wpAny_bind (wpAny_callSpecial?_slot (name := Str.ofString "__getitem__") ht.typeIs PyProof.Rows.slot_tuple_getitem
    (wpAny_call_entry PyProof.Rows.slot_tuple_getitem ht.typeIs entry_tuple_getitem ?_ (args_tuple_getitem _ _)))
  show wpAny _ _ (Builtin.Tuple.tupleItemsOf (.ref t) >>= _) _ _ s
  refine wpAny_bind (tupleItemsOf_ ht ?_)
  refine wpAny_bind (wpAny_typeOf hTs ?_)
  rw [if_pos (by decide)]
  refine wpAny_bind (sliceApplied_back hs ps ?_)
  have hno : ¬ ((((items.size : Int) - 1) == 0 && (-1 : Int) == 1 && items.size == items.size) = true) := by
    intro q
    rw [Bool.and_eq_true, Bool.and_eq_true] at q
    exact absurd q.1.2 (by decide)
  show wpAny _ _ (if (((items.size : Int) - 1) == 0 && (-1 : Int) == 1 && items.size == items.size) = true then _ else _) _ _ s
  rw [if_neg hno, pick_back]
  first
    | exact wpAny_bind (m := Builtin.Tuple.tupleExact _) (wpAny_newObj_type (wpAny_pure ⟨_, rfl, wpAny_pure h⟩) htake)
    | exact wpAny_bind (m := Builtin.Tuple.tupleExact _) (wpAny_newObj_type (wpAny_bind (wpAny_pure (wpAny_pure ⟨_, rfl, wpAny_pure h⟩))) htake)
    | exact wpAny_bind (wpAny_bind (m := Builtin.Tuple.tupleExact _) (wpAny_newObj_type (wpAny_pure (wpAny_pure ⟨_, rfl, wpAny_pure h⟩)) htake))
    | exact wpAny_bind (wpAny_bind (m := Builtin.Tuple.tupleExact _) (wpAny_newObj_type (wpAny_pure ⟨_, rfl, wpAny_pure h⟩) htake))
end
section
variable {prog : Program} {w : World} {A : Around} {E : Value → Shared → Prop} {s : Shared}
theorem draw_list {it t : Addr} {items : Array Value} (hne : t ≠ it) : ∀ (n i : Nat) (s : Shared) (Q : List Value → Shared → Prop), s.heap.IsListIter it t i → s.heap.IsList t items → i + n ≤ items.size →
    (∀ h' : Heap, h'.IsListIter it t (i + n) → Heap.SameBut it s.heap h' → Q ((items.toList.drop i).take n) { s with heap := h' }) → wpAny (model prog w) A (draw (.ref it) n) Q E s
  | 0, i, s, Q, hit, _, _, hQ => by
    show wpAny _ _ (pure []) Q E s
    exact wpAny_pure (by simpa using hQ s.heap hit (Heap.SameBut.refl ..))
  | n + 1, i, s, Q, hit, ht, hle, hQ => by
    have hlt : i < items.size := by omega
    show wpAny _ _ (pyNext (.ref it) >>= _) Q E s
    refine wpAny_bind (wpAny_pyNext_list_item hit ht (x := items[i]) (by simp [hlt]) fun h₁ hit₁ hs₁ => ?_)
    refine wpAny_bind (wpAny_holding (draw_list hne n (i + 1) _ _ hit₁ (ht.extBut hs₁.extBut hne) (by omega) fun h₂ hit₂ hs₂ => wpAny_pure ?_))
    have hd : items.toList.drop i = items[i] :: items.toList.drop (i + 1) := by simp [List.drop_eq_getElem_cons, hlt]
    have := hQ h₂ (by rw [show i + (n + 1) = i + 1 + n by omega]; exact hit₂) (hs₁.trans hs₂)
    rw [hd, List.take_succ_cons] at this
    exact this
theorem unpackItems_list {t : Addr} {items : Array Value} {Q : List Value → Shared → Prop} (hh : A.handled = none) (ht : s.heap.IsList t items)
    (hQ : ∀ h', Heap.ExtBut s.heap.objs.size s.heap h' → Q items.toList { s with heap := h' }) : wpAny (model prog w) A (unpackItems (.ref t) items.size none) Q E s := by
  have hlt : t ≠ s.heap.objs.size := by obtain ⟨o, ho, _⟩ := ht; exact Nat.ne_of_lt (Heap.lt_size ho)
  unfold unpackItems
  refine wpAny_bind ?_
  · unfold notIterableAtAll
    refine wpAny_bind (wpAny_specialOf ht.typeIs PySem.slot_list_iter.lookup ?_)
    refine wpAny_pure ?_
    simp only [Bool.false_eq_true, if_false]
    refine wpAny_bind (wpAny_holding (wpAny_pyIter_list ht ?_))
    refine wpAny_bind (wpAny_holding (draw_list hlt items.size 0 _ _ ⟨_, Heap.get?_push_size _ rfl, rfl, rfl⟩ (ht.push _) (by omega) fun h₁ hit₁ hs₁ => ?_))
    have hall : List.take items.size (List.drop 0 items.toList) = items.toList := by
      rw [List.drop_zero]; exact List.take_of_length_le (by simp)
    rw [hall]
    rw [if_neg (by simp)]
    have ht₁ : h₁.IsList t items := (ht.push _).extBut hs₁.extBut hlt
    refine wpAny_bind (wpAny_holding (wpAny_pyNext_list_end hh hit₁ ht₁ (by simp) fun h₂ he₂ => ?_))
    simp only [Option.isSome_none, Bool.false_eq_true, if_false]
    refine wpAny_pure (hQ h₂ fun b o hb e => he₂ b o hb (hs₁.extBut b o hb (Heap.get?_push_of_some _ e)))
theorem assign_Tuple_list {env : Env} {elts : List Expr} {x1} {pos : Pos} {t : Addr} {items : Array Value} {Q : Unit → Shared → Prop} (hh : A.handled = none) (ht : s.heap.IsList t items)
    (hn : (assignEach elts env).length = items.size) (hstar : (assignEach elts env).findIdx? (·.1) = none)
    (h : ∀ h', Heap.ExtBut s.heap.objs.size s.heap h' → wpAny (model prog w) A (assignInOrder ((assignEach elts env).map (·.2)) items.toList) Q E { s with heap := h' }) :
    wpAny (model prog w) A (assign (.Tuple elts x1 pos) env (.ref t)) Q E s := by
  rw [assign_Tuple]
  refine wpAny_bind (wpAny_standAt ?_)
  unfold unpack
  rw [hn, hstar]
  exact wpAny_bind (wpAny_holding (unpackItems_list hh ht h))
end
end HT
namespace L2
open PySem PySem.Spec PySem.Calls PyProof.Rows
section
variable {X : Cx}
def tRevLT (K : PySem.W.Frag) (te : TE) : TE := fun σ H Q => te σ H fun x H1 => (∃ a xs, x = .ref a ∧ SqL K H1 a xs ∧ ∀ p, H1 p = none → Q (.ref p) (upd H1 p (.lst xs.reverse))) ∨ ∃ a xs, x = .ref a ∧ SqT K H1 a xs ∧ ∀ p, H1 p = none → Q (.ref p) (upd H1 p (.tup xs.reverse))
theorem pe_revLT {e : Expr} {te : TE} {k : Nat} {p1 p2 p3 pos : Pos} (he : PE X e te) : PE X (.Subscript e (.Slice none none (some (.UnaryOp .USub (.Constant (.int 1) k p1) p2)) p3) pos) (tRevLT X.K te) := by
  refine ⟨fun pins s σ H Q I h => ?_⟩
  refine Subscript_ (thn (he.run pins s σ H _ I h) fun v s1 ⟨x, H1, I1, r1, q1⟩ => ?_)
  have hst : PO X (some (.UnaryOp .USub (.Constant (.int 1) k p1) p2)) (tPart (tUn (rU fun i => .int (-i)) (tC (.int 1)))) := po_some (pe_un un_neg pe_int)
  rcases q1 with q1 | q1
  · obtain ⟨a, xs, ex, hx, q⟩ := q1
    subst ex
    cases r1
    refine wpAny_Slice (thn (po_none.run pins s1 σ H1 (fun o H2 => o = none ∧ H2 = H1) I1 ⟨rfl, rfl⟩) fun vl s2 ⟨l, H2, I2, pl, el, e2⟩ => ?_)
    subst el e2
    refine thn (po_none.run pins s2 σ H2 (fun o H3 => o = none ∧ H3 = H2) I2 ⟨rfl, rfl⟩) fun vu s3 ⟨u, H3, I3, pu, eu, e3⟩ => ?_
    subst eu e3
    refine thn (hst.run pins s3 σ H3 (fun o H4 => o = some (-1) ∧ H4 = H3) I3 ⟨1, rfl, -1, rfl, rfl, rfl⟩) fun vs s4 ⟨o, H4, I4, ps, eo, e4⟩ => ?_
    subst eo e4
    have I5 : Inv X pins σ H4 { s4 with heap := s4.heap.push { cls := .type "slice", data := .fields #[vl, vu, vs] } } := I4.kept (t' := s4.toks) fun b ob q => Heap.get?_push_of_some _ q
    obtain ⟨its, r, ht, hz⟩ := I5.list hx
    have hlen := r.length
    show wpAny (model X.prog X.w) X.A (subscriptTail e (.Slice none none (some (.UnaryOp .USub (.Constant (.int 1) k p1) p2)) p3) (.ref a) (.ref s4.heap.objs.size)) (EP X pins σ Q) X.xe { s4 with heap := s4.heap.push { cls := .type "slice", data := .fields #[vl, vu, vs] } }
    refine tail_any (ops := [.ref a, .ref s4.heap.objs.size]) ht.isList.typeIs (PySem.slot_list_getitem.lookup) ?_ (by with_unfolding_all rfl)
    refine wpAny_getItem_list_slice ht.isList (Heap.IsSliceOf.new _ vl vu vs) pl pu ps (by decide) ?_ (by rw [List.size_toArray]; omega)
    rw [PySem.W.krv_pick]
    refine ⟨.ref _, _, I5.laid (t' := s4.toks) (o := .lst xs.reverse) (fun b ob q => Heap.get?_push_of_some _ q) (Nat.le_refl _) ?_, rfl, q _ (I5.hok.fresh (Nat.le_refl _))⟩
    exact ⟨by rw [List.length_reverse]; exact hz, _, 0, r.reverse, Heap.get?_push_size _ rfl⟩
  · obtain ⟨a, xs, ex, hx, q⟩ := q1
    subst ex
    cases r1
    refine wpAny_Slice (thn (po_none.run pins s1 σ H1 (fun o H2 => o = none ∧ H2 = H1) I1 ⟨rfl, rfl⟩) fun vl s2 ⟨l, H2, I2, pl, el, e2⟩ => ?_)
    subst el e2
    refine thn (po_none.run pins s2 σ H2 (fun o H3 => o = none ∧ H3 = H2) I2 ⟨rfl, rfl⟩) fun vu s3 ⟨u, H3, I3, pu, eu, e3⟩ => ?_
    subst eu e3
    refine thn (hst.run pins s3 σ H3 (fun o H4 => o = some (-1) ∧ H4 = H3) I3 ⟨1, rfl, -1, rfl, rfl, rfl⟩) fun vs s4 ⟨o, H4, I4, ps, eo, e4⟩ => ?_
    subst eo e4
    cases pl
    cases pu
    have I5 : Inv X pins σ H4 { s4 with heap := s4.heap.push { cls := .type "slice", data := .fields #[.none, .none, vs] } } := I4.kept (t' := s4.toks) fun b ob q => Heap.get?_push_of_some _ q
    obtain ⟨its, r, ht, hz⟩ := I5.tuple hx
    have hlen := r.length
    show wpAny (model X.prog X.w) X.A (subscriptTail e (.Slice none none (some (.UnaryOp .USub (.Constant (.int 1) k p1) p2)) p3) (.ref a) (.ref s4.heap.objs.size)) (EP X pins σ Q) X.xe { s4 with heap := s4.heap.push { cls := .type "slice", data := .fields #[.none, .none, vs] } }
    refine tail_any (ops := [.ref a, .ref s4.heap.objs.size]) ht.typeIs (slot_tuple_getitem.lookup) ?_ (by with_unfolding_all rfl)
    refine HT.getItem_tuple_rev ht (Heap.IsSliceOf.new _ .none .none vs) ps ?_ (by rw [List.size_toArray]; omega)
    refine ⟨.ref _, _, I5.laid (t' := s4.toks) (o := .tup xs.reverse) (fun b ob q => Heap.get?_push_of_some _ q) (Nat.le_refl _) ?_, rfl, q _ (I5.hok.fresh (Nat.le_refl _))⟩
    exact ⟨by rw [List.length_reverse]; exact hz, _, r.reverse, IsTup.new _ _⟩
/-- a, b, .. = x, y, ..: stored from the left; the tuple itself is not tracked -/
def tParN (n : Nat) (ta : TA) (t : TGs) : TS := fun D σ H => ta σ H fun vs H1 => vs.length = n ∧ t vs σ H1 D.nx
theorem ps_parN {ts es : List Expr} {ta : TA} {t : TGs} {n : Nat} {pt pos : Pos} {kt k2 pt2} (hc : X.calm = true) (hz : n ≤ 1000) (hg : PGs X ts t) (hn : (assignEach ts X.env).length = n) (hst : (assignEach ts X.env).findIdx? (·.1) = none) (ha : PA X es ta)
    (hw : swappedStores [.Tuple ts kt pt] (.Tuple es k2 pt2) X.env = pure none)
    (hs : swapsWithSole [.Tuple ts kt pt] (.Tuple es k2 pt2) pos.line X.env = pure false) :
    PS X (.Assign [.Tuple ts kt pt] (.Tuple es k2 pt2) pos) (tParN n ta t) := by
  refine ⟨fun pins s σ H D I h => ?_⟩
  refine wpAny_Assign_stores (Tuple_ (thn (ha.run _ pins s σ H _ I h) fun us s1 ⟨vs, H1, I1, r1, q1⟩ => ?_)) hs hw
  obtain ⟨e1, q1⟩ := q1
  have hl := r1.length
  refine wpAny_newObj_type ?_ (by show us.toArray.size ≤ sizeLine; rw [List.size_toArray]; unfold sizeLine; omega)
  have I2 : Inv X pins σ H1 { s1 with heap := s1.heap.push { cls := .type "tuple", data := .seq us.toArray } } := I1.kept (t' := s1.toks) fun b o e => Heap.get?_push_of_some _ e
  show wpAny (model X.prog X.w) X.A (assign (.Tuple ts kt pt) X.env (.ref s1.heap.objs.size)) _ _ _
  refine assign_Tuple_tuple (I.ok.hd hc) (IsTup.new s1.heap _) (by rw [hn, List.size_toArray]; omega) hst fun h' hx' => ?_
  have I3 := I2.kept (h' := h') (t' := s1.toks) fun b o e => hx' b o (Nat.ne_of_lt (Heap.lt_size e)) e
  exact thn (hg.run pins _ σ H1 vs _ D.nx I3 (by simpa using r1) q1) fun _ s3 q => q
/-- (a, b, ..) = a list of that length -/
def gTupL (K : PySem.W.Frag) (n : Nat) (t : TGs) : TG := fun v σ H Q => ∃ a xs, v = .ref a ∧ SqL K H a xs ∧ xs.length = n ∧ t xs σ H Q
theorem pg_tupL {es : List Expr} {k : Nat} {pos : Pos} {t : TGs} {n : Nat} (hc : X.calm = true) (h : PGs X es t)
    (hn : (assignEach es X.env).length = n) (hst : (assignEach es X.env).findIdx? (·.1) = none) : PG X (.Tuple es k pos) (gTupL X.K n t) := by
  refine ⟨fun pins s σ H v u Q I r hw => ?_⟩
  obtain ⟨a, xs, e1, hq, hl, hw⟩ := hw
  subst e1
  cases r
  obtain ⟨its, rv, ht, hz⟩ := I.list hq
  refine HT.assign_Tuple_list (I.ok.hd hc) ht.isList (by simp [hn, ← hl, rv.length]) hst fun h' hx => ?_
  have I1 : Inv X pins σ H { s with heap := h' } := I.kept (t' := s.toks) fun b o e => hx b o (Nat.ne_of_lt (Heap.lt_size e)) e
  exact h.run pins _ σ H xs _ Q I1 (by simpa using rv) hw
end
end L2
set_option Elab.async false
set_option linter.all false
set_option maxRecDepth 100000
set_option maxHeartbeats 4000000
/-! Pz9q: enumerate of a tuple -/
namespace HT
open PySem PySem.Spec PySem.Calls PyProof.Rows
open Sem (wp)
open AutoSeq1 (wpAny_loadPart')
theorem meets_enumT (l : Addr) (items : Array Value) (n : Nat) (dct : Option Addr) (sl : Array (Option Value)) :
    Meets (Builtin.«enumerate.__new__» ⟨[.type "enumerate", .ref l], []⟩) (fun _ R s => s.heap.get? l = some { cls := .type "tuple", dict := dct, data := .seq items n, slots := sl } ∧
      R (.ok (.ret (.ref (s.heap.push { cls := .type "tuple_iterator", data := .fields #[.ref l, .int 0 0] }).objs.size)))
        { s with heap := (s.heap.push { cls := .type "tuple_iterator", data := .fields #[.ref l, .int 0 0] }).push { cls := .type "enumerate", data := .fields #[.none, .bool false, .ref s.heap.objs.size, rawInt 0, .none, .none] } }) :=
  .of_wp fun prog w A R s h => by
    obtain ⟨hp, g, d, tk, os⟩ := s; obtain ⟨hl, h⟩ := h
    have hsub := sub_enumerate
    have hL : Heap.IsTuple (Shared.heap ⟨hp, g, d, tk, os⟩) l items := ⟨_, hl, rfl, n, rfl⟩
    wp_walk using wpAny_loadPart' hl
    refine wpAny_stack_any fun st => wpAny_pure ?_
    split
    · rename_i c _ _ _ _ _
      cases (c == Value.type "enumerate")
      · wp_walk using wpAny_loadPart' hl, wpAny_pyIter_tuple hL
        exact ⟨_, rfl, h⟩
      · wp_walk using wpAny_loadPart' hl, wpAny_pyIter_tuple hL
        exact ⟨_, rfl, h⟩
    · wp_walk using wpAny_loadPart' hl, wpAny_pyIter_tuple hL
      exact ⟨_, rfl, h⟩
section
variable {prog : Program} {w : World} {A : Around} {E : Value → Shared → Prop} {s : Shared}
theorem call_enumT {l : Addr} {items : Array Value} {Q : Value → Shared → Prop} (hL : s.heap.IsTuple l items)
    (h : ∀ h', IsEnum h' (s.heap.objs.size + 1) s.heap.objs.size 0 .none → h'.IsTupleIter s.heap.objs.size l 0 → h'.objs.size = s.heap.objs.size + 2 →
      (∀ b o, s.heap.get? b = some o → h'.get? b = some o) → Q (.ref (s.heap.objs.size + 1)) { s with heap := h' }) :
    wpAny (model prog w) A (call (.type "enumerate") [.ref l]) Q E s := by
  obtain ⟨⟨c, dct, dt, sl⟩, hl, hc, n, hd⟩ := hL
  replace hc : c = .type "tuple" := hc
  replace hd : dt = .seq items n := hd
  subst hc hd
  refine callType_new F.called_enumerate (by decide) (F.typeCall_enumerate_1 _) (F.newCall_enumerate_1 _) (fun obj => F.args_object_init_2 obj _) F.entry_enumerate_new
    (meets_enumT l items n dct sl) ⟨hl, ?_⟩
  have hz : (s.heap.push { cls := .type "tuple_iterator", data := .fields #[.ref l, .int 0 0] }).objs.size = s.heap.objs.size + 1 := Heap.size_push ..
  show _ ∧ _
  rw [hz]
  have he : IsEnum ((s.heap.push { cls := .type "tuple_iterator", data := .fields #[.ref l, .int 0 0] }).push
      { cls := .type "enumerate", data := .fields #[.none, .bool false, .ref s.heap.objs.size, rawInt 0, .none, .none] }) (s.heap.objs.size + 1) s.heap.objs.size 0 .none := by
    have := Heap.get?_push_size (s.heap.push { cls := .type "tuple_iterator", data := .fields #[.ref l, .int 0 0] })
      (o := { cls := .type "enumerate", data := .fields #[.none, .bool false, .ref s.heap.objs.size, rawInt 0, .none, .none] }) rfl
    rw [hz] at this; exact this
  refine ⟨⟨_, he, rfl⟩, h _ he ⟨_, Heap.get?_push_of_some _ (Heap.get?_push_size _ rfl), rfl, rfl⟩ (by rw [Heap.size_push, hz]) fun b o x => Heap.get?_push_of_some _ (Heap.get?_push_of_some _ x)⟩
theorem enumT_end {e it t : Addr} {k : Nat} {items : Array Value} {i : Int} {old : Value} {Q : Option Value → Shared → Prop} (hh : A.handled = none)
    (he : IsEnum s.heap e it i old) (hit : s.heap.IsTupleIter it t k) (ht : s.heap.IsTuple t items) (hx : items[k]? = none)
    (hQ : ∀ h', Heap.ExtBut it s.heap h' → Q none { s with heap := h' }) : wpAny (model prog w) A (pyNext (.ref e)) Q E s := by
  have hT : s.TypeIs (.ref e) "enumerate" := ⟨_, he, rfl⟩
  unfold pyNext
  refine wpAny_bind (wpAny_attempt (wpAny_callSpecial?_slot (name := Str.ofString "__next__") hT F.slot_enumerate_next
    (wpAny_call_entry F.slot_enumerate_next hT F.entry_enumerate_next ?_ (F.args_enumerate_next_1 _))))
  show wpAny _ _ (field (.ref e) 2 >>= _) _ _ _
  refine wpAny_bind (wpAny_field he rfl (x := .ref it) rfl ?_)
  refine wpAny_bind (wpAny_nextOf_tuple_end (A := A.in1) hh hit ht hx fun h' x he' hx' => ?_)
  obtain ⟨o, ho, hc⟩ := hx'
  refine wpAny_bind (wpAny_isInstance (T := "StopIteration") (b := true) ⟨o, ho, hc⟩ isSubtype_stop ?_)
  exact wpAny_pure (hQ _ he')
end
end HT
namespace L2
open PySem PySem.Spec PySem.Calls PyProof.Rows
/-- the tuple at a, each item in a new pair -/
def IteT (K : PySem.W.Frag) (a : Addr) : It :=
  ⟨fun i H => ∃ (xs : List V) (x : V), SqT K H a xs ∧ xs[i]? = some x, fun i H v H' => ∃ T x, v = .ref T ∧ H T = none ∧ H' = upd H T (.tup [.int (i : Nat), x]) ∧ ∀ xs, SqT K H a xs → xs[i]? = some x, fun i H => ∃ xs : List V, SqT K H a xs ∧ xs.length ≤ i⟩
theorem turn_enumT {P : Program} {w : World} {K : PySem.W.Frag} {elts : List Expr} {kk : Nat} {tpos : Pos} (a e it : Addr) (hae : a ≠ it) (hea : e ≠ a) :
    Turn P w K (.Tuple elts kk tpos) (IteT K a) [e, it] e (fun i h => (∃ old, IsEnum h e it ((i : Nat) : Int) old) ∧ h.IsTupleIter it a i ∧ e ≠ it) where
  mem := by simp
  obj := fun i h st b hb => by
    obtain ⟨⟨old, he⟩, ⟨o, ho, hc, hd⟩, _⟩ := st
    have e' : b = e ∨ b = it := by simpa using hb
    rcases e' with z | z
    · rw [z]; exact ⟨_, he, fun v q => nomatch q⟩
    · rw [z]; exact ⟨o, ho, fun v q => by rw [hd] at q; cases q⟩
  keep := fun i h h' st k => let ⟨⟨old, he⟩, hi, hne⟩ := st; ⟨⟨old, k e (by simp) _ he⟩, hi.at fun o q => k it (by simp) o q, hne⟩
  item := by
    intro X hP hw hK hc i pins s σ H E I hf st hg
    subst hP hw hK
    obtain ⟨⟨old, he⟩, hit, hne⟩ := st
    obtain ⟨xs, x, hq, hx⟩ := hg
    obtain ⟨its, rv, p, hz⟩ := I.tuple hq
    obtain ⟨u, hu, ru⟩ := rv.get hx
    have hel : e < s.heap.objs.size := Heap.lt_size he
    have hil : it < s.heap.objs.size := by obtain ⟨_, q, _⟩ := hit; exact Heap.lt_size q
    have hlt : i < its.toArray.size := by
      rw [List.size_toArray]
      exact (List.getElem?_eq_some_iff.mp hu).1
    refine wpAny_pyNext_enum_itemD (Draws.tuple (prog := X.prog) (w := X.w) (A := X.A.in1) (I.ok.hd hc) it a hae its.toArray) he ⟨hit, p⟩ hlt hne (by simp [hne, hea]) fun y h' tk hy ho hst hT hsz hk => ?_
    have hy : y = u := by
      have : its.toArray[i]? = some u := by simpa using hu
      rw [this] at hy
      exact (Option.some.inj hy).symm
    subst hy
    obtain ⟨hit', _⟩ := hst
    refine ⟨_, rfl, wpAny_letOwnedTupleGo_enum (s := { s with heap := h', toks := tk + 1 }) ho fun h'' he' sb => ?_⟩
    have hT2 : h''.get? s.heap.objs.size = some { cls := .type "tuple", data := .seq #[.int i tk, y] } := (sb.2 _ (Nat.ne_of_gt hel)).trans hT
    have new : ObjOk X.prog X.w (upd H s.heap.objs.size (.tup [.int (i : Nat), x])) h'' s.heap.objs.size (.tup [.int (i : Nat), x]) :=
      ⟨by show 2 ≤ sizeLine; decide, [.int i tk, y], .cons ⟨_, rfl⟩ (.cons ru .nil), ⟨_, hT2, rfl, _, rfl⟩⟩
    have I1 : Inv X pins σ (upd H s.heap.objs.size (.tup [.int (i : Nat), x])) { s with heap := h'', toks := tk + 1 } :=
      I.turnedNew (ch := [e, it]) (fun b ob hb q => (sb.2 b (fun z => hb (by simp [z]))).trans (hk b ob (fun z => hb (by simp [z])) (fun z => hb (by simp [z])) q)) hf (Nat.le_refl _) new
    refine ⟨.ref s.heap.objs.size, _, I1, rfl, ⟨_, x, rfl, I.hok.fresh (Nat.le_refl _), rfl, fun ys hy => by rw [I.tuple_inj hy hq]; exact hx⟩, ⟨⟨y, ?_⟩, hit'.at fun o q => (sb.2 it (Ne.symm hne)).trans q, hne⟩, fun b hb => ?_⟩
    · have e1 : ((i + 1 : Nat) : Int) = (i : Int) + 1 := by omega
      rw [e1]; exact he'
    · have hb' : b < s.heap.objs.size := by
        have e' : b = e ∨ b = it := by simpa using hb
        rcases e' with z | z
        · rw [z]; exact hel
        · rw [z]; exact hil
      rw [upd_ne (Nat.ne_of_lt hb')]
      exact (hf b hb).1
  done := by
    intro X hP hw hK hc i pins s σ H E I hf st hg
    subst hP hw hK
    obtain ⟨⟨old, he⟩, hit, hne⟩ := st
    obtain ⟨xs, hq, hx⟩ := hg
    obtain ⟨its, rv, p, hz⟩ := I.tuple hq
    obtain ⟨f0, f1, f2, f3, f4, f5⟩ := hf it (by simp)
    have hl := rv.length
    exact HT.enumT_end (I.ok.hd hc) he hit p (by simp; omega) fun h' eb => ⟨rfl, I.turned (t' := s.toks) (fun b o hb q => eb b o hb q) f0 f1 f3 f4 f5⟩
  self := fun A i s Q E st h => let ⟨⟨_, he⟩, _⟩ := st; wpAny_pyIter_enum he h
def iEnumT (K : PySem.W.Frag) (ta : TA) : TI := fun σ H R => ta σ H fun vs H1 => ∃ a xs, vs = [.ref a] ∧ ((SqL K H1 a xs ∧ R (Ite K a) H1) ∨ (SqT K H1 a xs ∧ R (IteT K a) H1))
theorem pi_enumT {X : Cx} {e : Expr} {ta : TA} {p pos tpos : Pos} {elts : List Expr} {kk : Nat} (hg : Gl X "enumerate") (hm : X.mg "enumerate" = none) (ha : PA X [e] ta) (hs : starEach [e] X.env = [(false, eval e X.env)]) :
    PI X (.Tuple elts kk tpos) (.Call (.Name "enumerate" p) [e] [] pos) (iEnumT X.K ta) := by
  refine ⟨fun pins s σ H R I h => ?_⟩
  refine Call_ (ld_blt I hg hm boot_enumerate (PyProof.Rows.callWith_type1 (thn (ha.run pos pins s σ H _ I h) fun us s1 ⟨vs, H1, I1, r1, q1⟩ => ?_) hs rfl))
  obtain ⟨a, xs, ex, q⟩ := q1
  subst ex
  cases r1 with
  | cons r rr =>
    cases rr
    cases r
    have fp : ∀ b, b ∈ [s1.heap.objs.size + 1, s1.heap.objs.size] → s1.heap.objs.size ≤ b := fun b hb => by
      have e' : b = s1.heap.objs.size + 1 ∨ b = s1.heap.objs.size := by simpa using hb
      rcases e' with z | z
      · rw [z]; exact Nat.le_add_right _ _
      · rw [z]; exact Nat.le_refl _
    rcases q with ⟨hq, q⟩ | ⟨hq, q⟩
    · obtain ⟨its, rv, p', hz⟩ := I1.list hq
      refine call_enumerate_list p'.isList fun h' he hit hsz hk => wpAny_pyIter_enum he ?_
      have I2 : Inv X pins σ H1 { s1 with heap := h' } := I1.kept (t' := s1.toks) hk
      refine ⟨s1.heap.objs.size + 1, [s1.heap.objs.size + 1, s1.heap.objs.size], _, _, H1, rfl, I2, turn_enum a (s1.heap.objs.size + 1) s1.heap.objs.size, ⟨⟨.none, he⟩, hit, Nat.succ_ne_self _⟩, fun b hb => ?_, q⟩
      exact I1.fpOk (fp b hb) (I1.hok.fresh (fp b hb))
    · obtain ⟨its, rv, p', hz⟩ := I1.tuple hq
      have hla : a < s1.heap.objs.size := by obtain ⟨_, z, _⟩ := p'; exact Heap.lt_size z
      refine HT.call_enumT p' fun h' he hit hsz hk => wpAny_pyIter_enum he ?_
      have I2 : Inv X pins σ H1 { s1 with heap := h' } := I1.kept (t' := s1.toks) hk
      refine ⟨s1.heap.objs.size + 1, [s1.heap.objs.size + 1, s1.heap.objs.size], _, _, H1, rfl, I2, turn_enumT a (s1.heap.objs.size + 1) s1.heap.objs.size (Nat.ne_of_lt hla) (Nat.ne_of_gt (Nat.lt_succ_of_lt hla)), ⟨⟨.none, he⟩, hit, Nat.succ_ne_self _⟩, fun b hb => ?_, q⟩
      exact I1.fpOk (fp b hb) (I1.hok.fresh (fp b hb))
end L2
set_option Elab.async false
set_option linter.all false
set_option maxRecDepth 100000
set_option maxHeartbeats 4000000
namespace L2.Pz
set_option autoImplicit false
open PySem PySem.Spec PyProof.Rows L2

/-! ## Pz10: subscripts, slices, kinds of values -/
section
variable {g : Gw} {X : Cx}
theorem ixN_lt {n : Nat} {i : Int} {j : Nat} (e : L2.ixN n i = some j) : j < n := by
  unfold L2.ixN at e
  split at e
  · split at e
    · cases e; omega
    · cases e
  · split at e
    · cases e; omega
    · cases e
theorem RepL.at {F : Ad} {H : Hp} {xs : List PV} {vs : List V} {i : Int} {p : PV} (l : RepL g F H xs vs) (e : atP xs i = some p) : ∃ v, L2.atI vs i = some v ∧ RepV g F H p v := by
  unfold atP at e
  obtain ⟨j, e1, e2⟩ := Option.bind_eq_some_iff.mp e
  obtain ⟨v, e3, r⟩ := l.get e2
  refine ⟨v, ?_, r⟩
  unfold L2.atI
  rw [← l.length, e1]
  exact e3
theorem ix_dict (hu : X.A.units + 1 < cLine) : IxR X (fun x y H Q => ∃ a v, x = .ref a ∧ DGet H a y (some v) ∧ Q v H) := by
  intro value slice pins s σ H x y v u Q I rx ry h hs
  obtain ⟨a, z, rfl, d, q⟩ := h
  cases rx
  exact tail_any (dict_typeIs I d) PySem.F.slot_dict_getitem.lookup (d_getItem hu I d ry fun w' s' I' r' => ⟨z, H, I', r', q⟩) hs
def ixF1 (p q : PV) : Option Rv := (idxF p q).map fun r => (r, false)
theorem idx_ok (hK : X.K = g.K) (hu : X.A.units + 1 < cLine) : IxR X (r2 g ixF1) := by
  intro value slice pins s σ H x y v u Q I rx ry ⟨F, p, q, r, nf, hp, hq, e, k⟩ hs
  obtain ⟨z, e1, rfl⟩ := Option.map_eq_some_iff.mp e
  unfold idxF at e1
  split at e1
  · obtain ⟨a, vs, rfl, ea, l⟩ := hp.lst
    have := hq.int; subst this
    obtain ⟨w, ew, rw'⟩ := l.at e1
    exact ix_list value slice pins s σ H _ _ v u Q I rx ry ⟨_, _, _, _, rfl, rfl, SqL.of ea, ew, k _ F H (.same rw' rfl)⟩ hs
  · obtain ⟨a, vs, rfl, ea, l⟩ := hp.tup
    have := hq.int; subst this
    obtain ⟨w, ew, rw'⟩ := l.at e1
    exact ix_tup value slice pins s σ H _ _ v u Q I rx ry ⟨_, _, _, _, rfl, rfl, SqT.of ea, ew, k _ F H (.same rw' rfl)⟩ hs
  · obtain ⟨kk, e2, e3⟩ := Option.bind_eq_some_iff.mp e1
    obtain ⟨a, r, rfl, d, h1, _⟩ := dget hp hq rfl e2
    obtain ⟨w, rfl, rw'⟩ := h1 z e3
    exact ix_dict hu value slice pins s σ H _ _ v u Q I rx ry ⟨a, w, rfl, d, k _ F H (.same rw' rfl)⟩ hs
  · obtain ⟨kk, e2, e3⟩ := Option.bind_eq_some_iff.mp e1
    obtain ⟨a, r, rfl, d, h1, _⟩ := dgetT hp hq rfl e2
    obtain ⟨w, rfl, rw'⟩ := h1 z e3
    exact ix_dict hu value slice pins s σ H _ _ v u Q I rx ry ⟨a, w, rfl, d, k _ F H (.same rw' rfl)⟩ hs
  · cases e1
theorem RepL.cut {F : Ad} {H : Hp} {xs : List PV} {vs : List V} (l : RepL g F H xs vs) (lo hi : Option Int) : RepL g F H (cutP xs lo hi) (cutV vs lo hi) := by
  unfold cutP cutV
  rw [l.length]
  exact (l.drop _).take _
def rSlc (g : Gw) : V → Option Int → Option Int → Hp → VK → Prop := fun x lo hi H Q => ∃ F p r, Dm F H ∧ Peek g F H p x ∧ slcF p lo hi = some r ∧ Out g F H r Q
theorem slc_ok (hK : X.K = g.K) : SlR X (rSlc g) := by
  intro pins s σ H x v vl vu lo hi sl Q I rx hs pl pu ⟨F, p, r, nf, hp, e, k⟩
  unfold slcF at e
  split at e
  · cases e
    obtain ⟨a, vs, rfl, ea, l⟩ := hp.lst
    exact sl_list pins s σ H _ v vl vu lo hi sl Q I rx hs pl pu ⟨_, _, rfl, SqL.of ea, k.lst nf (l.cut lo hi)⟩
  · cases e
    obtain ⟨a, vs, rfl, ea, l⟩ := hp.tup
    refine sl_tupA pins s σ H _ v vl vu lo hi sl Q I rx hs pl pu ⟨_, _, rfl, SqT.of ea, fun hw => ?_, fun _ => k.tup (l.cut lo hi)⟩
    refine k _ F H (.same ?_ rfl)
    rename_i xs
    have : cutP xs lo hi = xs := by
      unfold cutP
      rw [l.length, hw.1, hw.2]
      simp [← l.length]
    simp only [this]
    exact hp.tupV
  · cases e
def tyName : Ty → String
  | .int => "int" | .bool => "bool" | .str => "str" | .tuple => "tuple" | .list => "list" | .dict => "dict"
def knName : Kn → String
  | .non => "NoneType" | .bool => "bool" | .int => "int" | .str => "str" | .tuple => "tuple" | .list => "list" | .dict => "dict" | .set => "set"
theorem kit_kn (t : Ty) (k : Kn) : kitB (knName k) (tyName t) = some (knIs t k) := by
  cases t <;> cases k <;> decide +kernel
theorem peek_ty {F : Ad} {H : Hp} {p : PV} {x : V} {k : Kn} (h : Peek g F H p x) (e : p.kn = some k) (hk : k ≠ .set) : TyX g.K H x (.type (knName k)) := by
  rcases h with h | ⟨a, rfl, h⟩
  · cases h with
    | non => cases e; exact .base .non
    | bl b => cases e; exact .base (.bl b)
    | int i => cases e; exact .base (.int i)
    | str s => cases e; exact .base (.str s)
    | tup f r l => cases e; exact .base (.tup r)
    | lst f r l => cases e; exact .base (.lst r)
    | scr f r =>
      cases e
      rcases r with r | ⟨o, r⟩
      · exact .base (.lst r)
      · exact .base (.frz r)
    | scrK r => cases e; obtain ⟨o, its, n, h1, h2, _⟩ := r; exact .kList h1 h2
    | rng _ _ => cases e
    | dk f r l => cases e; exact .base (.dK r)
    | dt f r l => cases e; exact .base (.dT r)
    | set _ _ _ => cases e; exact (hk rfl).elim
  · cases h with
    | lst r l => cases e; exact .base (.lst r)
    | dk r l => cases e; exact .base (.dK r)
    | dt r l => cases e; exact .base (.dT r)
    | set _ _ => cases e; exact (hk rfl).elim
/-- isinstance(x, T) -/
theorem isi_ok (hK : X.K = g.K) (t : Ty) : CallR X (.builtin "isinstance") (fun xs H Q => ∃ x, xs = [x, .ty (tyName t)] ∧ r1 g (isiF t) x H Q) := by
  intro pins s σ H xs us Q I rx ⟨x, ex, F, p, r, nf, hp, e, k⟩
  subst ex
  unfold isiF at e
  split at e
  · cases e
  · rename_i kn hne hk
    cases e
    exact call_isi pins s σ H _ us Q I rx ⟨x, _, _, _, _, rfl, .ty _, by rw [hK]; exact peek_ty hp hk hne, kit_ty (kit_kn t kn), k.bl⟩
  · cases e
end
end L2.Pz
set_option Elab.async false
set_option linter.all false
set_option maxRecDepth 100000
set_option maxHeartbeats 4000000
namespace L2.Pz
set_option autoImplicit false
open PySem PySem.Spec PyProof.Rows L2

/-! ## Pz11: the checker of expressions -/
def visB (Γ : Scope) (x : Str) : Bool := match Γ.names.lookup x with
  | some .local | some .cell | some .free => true
  | _ => false
def glB (Γ : Scope) (x : Str) : Bool := (match Γ.names.lookup x with
  | some .globalImplicit => true
  | _ => false) && (!(x == ("__debug__" : Str)) && decide (x ≠ ("__name__" : Str)))
def nmB (N : List Str) (Γ : Scope) (i : Nat) (x : Str) : Bool := decide (N[i]? = some x) && visB Γ x && !(x == ("__debug__" : Str)) && !(x == ("__classdict__" : Str))
def locB (Γ : Scope) (x : Str) : Bool := match Γ.names.lookup x with
  | some .local | some .cell => true
  | _ => false
def nstar : Expr → Bool
  | .Starred _ _ => false
  | _ => true
def conB : PV → Expr → Bool
  | .int i, .Constant (.int j) _ _ => decide (i = j)
  | .bl b, .Constant (.bool c) _ _ => b == c
  | .non, .Constant .none _ _ => true
  | .str s, .Constant (.str t) _ _ => decide (s = t)
  | _, _ => false
def uopIs : Uop → UnaryOp → Bool
  | .neg, .USub | .inv, .Invert => true
  | _, _ => false
def plainIxB : Expr → Bool
  | .Slice _ _ _ _ => false
  | _ => true
/-- the built-in function's name, and whether it is a type -/
def biName : Bi → String
  | .len => "len" | .sum => "sum" | .min => "min" | .max => "max" | .abs => "abs" | .all => "all" | .any => "any" | .sorted => "sorted" | .set => "set" | .tuple => "tuple" | .list => "list" | .dict => "dict"
  | .int => "int" | .str => "str" | .bool => "bool" | .range => "range" | .zip => "zip" | .enumerate => "enumerate" | .reversed => "reversed"
def biTy : Bi → Bool
  | .set | .tuple | .list | .dict | .int | .str | .bool | .range | .zip | .enumerate | .reversed => true
  | _ => false
def biOk : Bi → Bool
  | .len | .sum | .min | .max | .abs | .all | .any | .sorted | .set | .tuple | .list | .dict | .int | .range => true
  | _ => false
def mmName : Mm → String
  | .append => "append" | .pop => "pop" | .update => "update" | .setdefault => "setdefault" | .add => "add"
def mtName : Mt → String
  | .get => "get" | .items => "items" | .values => "values" | .index => "index" | .count => "count" | .join => "join" | .split => "split" | .find => "find" | .keys => "keys"
def mtOk : Mt → Bool
  | .get => true
  | _ => false
def mmOk : Mm → Nat → Bool
  | .append, 1 => true
  | .pop, 0 => true
  | .pop, 1 => true
  | _, _ => false
def plainO : Expr → Bool
  | .Call (.Name _ _) [] [] _ => false
  | _ => true
def isTupE : Expr → Bool
  | .Tuple _ _ _ => true
  | _ => false
def notSetE : Expr → Bool
  | .Set _ _ _ => false
  | _ => true
def itB (c : E) (tg it : Expr) : Bool := (match c with
  | .zip _ _ | .enum _ => isTupE tg
  | .ite _ _ _ | .and _ _ | .or _ _ => false
  | _ => true) && notSetE it
section
variable (N : List Str) (nf : Nf)
/-- a target -/
def tgB (Γ : Scope) : Tg → Expr → Bool
  | .one i, .Name x _ => decide (N[i]? = some x) && locB Γ x
  | .many is, .Tuple es _ _ => tgsB Γ is es
  | _, _ => false
where tgsB (Γ : Scope) : List Nat → List Expr → Bool
  | [], [] => true
  | i :: is, .Name x _ :: es => decide (N[i]? = some x) && locB Γ x && tgsB Γ is es
  | _, _ => false
def ownN (is : List Nat) : List (Str × Nat) := is.map fun i => (N.getD i (Str.ofString ""), i)
mutual
def chkE (Γ : Scope) : E → Expr → Bool
  | .con c, e => conB c e
  | .glo x c, .Name y _ => decide (x = y) && glB Γ x && nf.cst.any fun q => decide (q.1 = x) && (match q.2, c with
    | .int i, .int j => decide (i = j)
    | .str i, .str j => decide (i = j)
    | _, _ => false)
  | .var i, .Name x _ => nmB N Γ i x
  | .bin o a b, .BinOp a' o' b' _ => bopIs o o' && chkE Γ a a' && chkE Γ b b'
  | .un o a, .UnaryOp o' a' _ => uopIs o o' && chkE Γ a a'
  | .cmp o a b, .Compare a' [o'] [b'] _ => copIs o o' && chkE Γ a a' && chkE Γ b b' && !behindInMarks o' b'
  | .cmp2 o p a b c, .Compare a' [o', p'] [b', c'] _ => copIs o o' && copIs p p' && chkE Γ a a' && chkE Γ b b' && chkE Γ c c' && !lastMarks [o', p'] [b', c']
  | .and a b, .BoolOp .And (x :: y :: r) pos => chkE Γ a x && (match r with
    | [] => chkE Γ b y
    | _ :: _ => chkE Γ b (.BoolOp .And (y :: r) pos))
  | .or a b, .BoolOp .Or (x :: y :: r) pos => chkE Γ a x && (match r with
    | [] => chkE Γ b y
    | _ :: _ => chkE Γ b (.BoolOp .Or (y :: r) pos))
  | .not a, .UnaryOp .Not a' _ => chkE Γ a a'
  | .ite c a b, .IfExp c' a' b' _ => chkE Γ c c' && chkE Γ a a' && chkE Γ b b'
  | .tup es, .Tuple es' _ _ => chkEs Γ es es'
  | .lst es, .List es' _ => chkEs Γ es es'
  | .dsp es, .Dict ks vs _ => chkKV Γ es ks vs && !ks.isEmpty && decide (ks.length ≤ 15)
  | .dnk, .Dict [] [] _ => true
  | .dnt, .Dict [] [] _ => true
  | .idx a i, .Subscript a' i' _ => chkE Γ a a' && chkE Γ i i' && plainIxB i'
  | .slc a lo hi, .Subscript a' (.Slice lo' hi' none _) _ => chkE Γ a a' && chkO Γ lo lo' && chkO Γ hi hi'
  | .rev a, .Subscript a' (.Slice none none (some (.UnaryOp .USub (.Constant (.int 1) _ _) _)) _) _ => chkE Γ a a'
  | .isi t a, .Call (.Name f _) [a', .Name ty _] [] _ => decide (f = Str.ofString "isinstance") && glB Γ f && decide (f ∈ nf.free) && chkE Γ a a' && nstar a' && decide (ty = Str.ofString (tyName t)) && glB Γ ty && decide (ty ∈ nf.free)
  | .call f es, .Call (.Name x _) es' [] _ => decide (nf.fn[f]? = some x) && glB Γ x && chkEs Γ es es'
  | .bi b es, .Call (.Name x _) (e' :: es') [] _ => biOk b && decide (x = Str.ofString (biName b)) && glB Γ x && decide (x ∈ nf.free) && chkEs Γ es (e' :: es')
  | .met m o es, .Call (.Attribute o' x ap) (e' :: es') [] cp => mtOk m && decide (x = Str.ofString (mtName m)) && chkE Γ o o' && plainO o' && chkEs Γ es (e' :: es') && (ap.endLine == cp.line) && decide (es'.length < 2)
  | .mm m i es, .Call (.Attribute (.Name y yp) x ap) es' [] cp => mmOk m es'.length && decide (x = Str.ofString (mmName m)) && nmB N Γ i y && chkEs Γ es es' && (ap.endLine == cp.line)
  | .zip a b, .Call (.Name x _) [a', b'] [] _ => decide (x = Str.ofString "zip") && glB Γ x && decide (x ∈ nf.free) && chkE Γ a a' && nstar a' && chkE Γ b b' && nstar b'
  | .enum a, .Call (.Name x _) [a'] [] _ => decide (x = Str.ofString "enumerate") && glB Γ x && decide (x ∈ nf.free) && chkE Γ a a' && nstar a'
  | .rngI es, .Call (.Name x _) es' [] _ => decide (x = Str.ofString "range") && glB Γ x && decide (x ∈ nf.free) && chkEs Γ es es'
  | .lc tg it ifs elt, .ListComp elt' [⟨tg', it', ifs', k⟩] scope _ => decide (k = 0) && chkE Γ it it' && itB it tg' it' && tgB N scope tg tg' && blkC N Γ scope (ownN N tg.slots) && chkIf (relS scope Γ) ifs ifs' && chkE (relS scope Γ) elt elt'
  | .lc2 tg it ifs tg1 it1 ifs1 elt, .ListComp elt' [⟨tg', it', ifs', k⟩, ⟨tg1', it1', ifs1', k1⟩] scope _ => decide (k = 0) && decide (k1 = 0) && chkE Γ it it' && itB it tg' it' && tgB N scope tg tg' && blkC N Γ scope (ownN N (tg.slots ++ tg1.slots)) && chkIf (relS scope Γ) ifs ifs' &&
      chkE (relS scope Γ) it1 it1' && itB it1 tg1' it1' && tgB N scope tg1 tg1' && chkIf (relS scope Γ) ifs1 ifs1' && chkE (relS scope Γ) elt elt'
  | _, _ => false
def chkEs (Γ : Scope) : List E → List Expr → Bool
  | [], [] => true
  | c :: cs, e :: es => chkE Γ c e && nstar e && chkEs Γ cs es
  | _, _ => false
def chkKV (Γ : Scope) : List E → List (Option Expr) → List Expr → Bool
  | [], [], [] => true
  | c :: d :: cs, some k :: ks, v :: vs => chkE Γ c k && chkE Γ d v && chkKV Γ cs ks vs
  | _, _, _ => false
def chkIf (Γ : Scope) : List E → List Expr → Bool
  | [], [] => true
  | [c], [e] => chkE Γ c e
  | _, _ => false
def chkO (Γ : Scope) : List E → Option Expr → Bool
  | [], none => true
  | [c], some e => chkE Γ c e
  | _, _ => false
end
end
theorem star_cons {e : Expr} (h : nstar e = true) (es : List Expr) (env : Env) : starEach (e :: es) env = (false, eval e env) :: starEach es env := by
  cases e <;> first | rfl | cases h
def plainT : Expr → Bool
  | .UnaryOp .Not _ _ => false
  | .BoolOp _ _ _ => false
  | .IfExp _ _ _ _ => false
  | .Compare _ _ _ _ => false
  | _ => true
theorem plainT_ok {e : Expr} (h : plainT e = true) (env : Env) : ∀ whole, isTrue e env whole = (do let v ← whole; standAt e.pos; holding [v] (truthy v)) := by
  intro whole
  cases e with
  | UnaryOp op a p => cases op <;> first | rfl | cases h
  | BoolOp _ _ _ => cases h
  | IfExp _ _ _ _ => cases h
  | Compare _ _ _ _ => cases h
  | _ => rfl
theorem plainIx_ok {e : Expr} (h : plainIxB e = true) : PlainIx e := by
  intro o i
  cases e <;> first | rfl | cases h
section
variable {g : Gw} {M : Nat → List Md} {C : Cl} {d : Nat} {N : List Str} {nf : Nf} {X : Cx}
structure Snd (g : Gw) (M : Nat → List Md) (C : Cl) (X : Cx) (c : E) (e : Expr) : Prop where
  pe : PE X e (tEv g M C c)
  pt : PT X e (tTs g M C c)
  pw : ∀ op l p, e = .BoolOp op l p → PW X e (tTs g M C c)
theorem pt_of {c : E} {e : Expr} (h : PE X e (tEv g M C c)) (he : plainT e = true) : PT X e (tTs g M C c) :=
  ptI (pt_val h (plainT_ok he _)) fun σ H Q ⟨F, env, o, env', k, R, e, dk, fin⟩ => ⟨F, env, o, env', R, e, ok_d dk, fun v F' H' x R' h => ⟨k, (h.peek R' dk).bl, fin F' H' x R'⟩⟩
theorem snd_of {c : E} {e : Expr} (h : PE X e (tEv g M C c)) (he : plainT e = true) : Snd g M C X c e := ⟨h, pt_of h he, fun op l p z => by subst z; cases he⟩
theorem CxOk.line (ok : CxOk g M C d N nf X) : X.A.units + 65 < cLine := by have := ok.room.un; omega
theorem visB_ok {Γ : Scope} {x : Str} (h : visB Γ x = true) : Γ.names.lookup x = some .local ∨ Γ.names.lookup x = some .cell ∨ Γ.names.lookup x = some .free := by
  unfold visB at h
  split at h <;> first | (rename_i e; simp [e]; done) | cases h
theorem glB_ok {Γ : Scope} {x : Str} (h : glB Γ x = true) : Γ.names.lookup x = some .globalImplicit ∧ (x == ("__debug__" : Str)) = false ∧ x ≠ ("__name__" : Str) := by
  unfold glB at h
  simp only [Bool.and_eq_true, Bool.not_eq_true', decide_eq_true_eq] at h
  refine ⟨?_, h.2.1, h.2.2⟩
  have h1 := h.1
  split at h1
  · assumption
  · cases h1
theorem nmB_ok {Γ : Scope} {i : Nat} {x : Str} (h : nmB N Γ i x = true) : N[i]? = some x ∧ (Γ.names.lookup x = some .local ∨ Γ.names.lookup x = some .cell ∨ Γ.names.lookup x = some .free) ∧ (x == ("__debug__" : Str)) = false ∧ (x == ("__classdict__" : Str)) = false := by
  unfold nmB at h
  simp only [Bool.and_eq_true, Bool.not_eq_true', decide_eq_true_eq] at h
  exact ⟨h.1.1.1, visB_ok h.1.1.2, h.1.2, h.2⟩
theorem con_ok {c : PV} {e : Expr} (h : conB c e = true) : PE X e (tEv g M C (.con c)) ∧ plainT e = true := by
  unfold conB at h
  split at h
  · have := of_decide_eq_true h; subst this
    refine ⟨peI pe_int fun σ H Q ⟨F, env, o, env', R, e, hk, fin⟩ => ?_, rfl⟩
    simp only [ev] at e; cases e
    exact fin.val .refl R (.int _)
  · have := eq_of_beq h; subst this
    refine ⟨peI pe_bl fun σ H Q ⟨F, env, o, env', R, e, hk, fin⟩ => ?_, rfl⟩
    simp only [ev] at e; cases e
    exact fin.val .refl R (.bl _)
  · refine ⟨peI pe_non fun σ H Q ⟨F, env, o, env', R, e, hk, fin⟩ => ?_, rfl⟩
    simp only [ev] at e; cases e
    exact fin.val .refl R .non
  · have := of_decide_eq_true h; subst this
    refine ⟨peI pe_str fun σ H Q ⟨F, env, o, env', R, e, hk, fin⟩ => ?_, rfl⟩
    simp only [ev] at e; cases e
    exact fin.val .refl R (.str _)
  · cases h
theorem var_ok (ok : CxOk g M C d N nf X) {i : Nat} {x : Str} {p : Pos} (h : nmB N X.env.scope i x = true) : PE X (.Name x p) (tEv g M C (.var i)) := by
  obtain ⟨h1, h2, h3, h4⟩ := nmB_ok h
  refine peI (pe_var (i := i) (by rw [ok.hN]; exact h1) h2 h3 h4) fun σ H Q ⟨F, env, o, env', R, e, hk, fin⟩ => ?_
  simp only [ev] at e
  split at e
  · rename_i s es
    cases e
    obtain ⟨v, ev, _⟩ := R.slot i s es
    exact ⟨v, ev, fin v F H .refl R ⟨ev, s, es⟩⟩
  · cases e
theorem bin_snd (ok : CxOk g M C d N nf X) {o : Bop} {a b : E} {a' b' : Expr} {o' : Operator} {p : Pos} (ho : bopIs o o' = true) (ha : PE X a' (tEv g M C a)) (hb : PE X b' (tEv g M C b)) : PE X (.BinOp a' o' b' p) (tEv g M C (.bin o a b)) := by
  refine peI (pe_op (bin_ok ok.hK ho) ha hb) fun σ H Q ⟨F, env, o, env', R, e, hk, fin⟩ => ?_
  simp only [ev] at e
  repeat' (split at e)
  all_goals first | (cases e; done) | skip
  rename_i h1 _ _ _ h2 _ _ _ _ h3 h4 _ _ _ h5
  cases e
  exact two_op R h1 h2 h3 h4 h5 fin
theorem un_ok {u : Uop} {o : UnaryOp} (h : uopIs u o = true) : UnR X (unaryOp o) (r1 g fun p => (unF u p).map fun r => (r, false)) := by
  intro pins s σ H x v Q I rx ⟨F, p, r, nf, hp, e, k⟩
  obtain ⟨z, e1, rfl⟩ := Option.map_eq_some_iff.mp e
  unfold unF at e1
  cases u <;> cases o <;> first | (cases h; done) | skip
  · split at e1
    · cases e1; have := hp.int; subst this; exact un_neg pins s σ H _ v Q I rx ⟨_, rfl, k.int⟩
    · rename_i h2; cases h2
    · cases e1
  · split at e1
    · rename_i h2; cases h2
    · cases e1; have := hp.int; subst this; exact un_inv pins s σ H _ v Q I rx ⟨_, rfl, k.int⟩
    · cases e1
theorem finB {σ : St} {F : Ad} {H : Hp} {env env' : En} {r : Bool} {Q : Bool → Hp → Prop} (h : FinT g σ F H env env' (Q r)) : Fin g σ F H env (.vl (.bl r) false) env' (fun x H' => ∃ k, x = .bl k ∧ Q k H') := fun v F' H' x R' hv =>
  ⟨r, (show Peek g F' H' (.bl r) v from .inl hv).bl, h F' H' x R'⟩
theorem pes_ok {Γ : Scope} : ∀ {cs : List E} {es : List Expr}, chkEs N nf Γ cs es = true → (∀ c ∈ cs, ∀ e, chkE N nf Γ c e = true → Snd g M C X c e) → PA X es (tEs g M C cs)
  | [], [], _, _ => paI pa_nil fun _ _ _ h => tEs_nil h
  | [], _ :: _, h, _ => by simp [chkEs] at h
  | _ :: _, [], h, _ => by simp [chkEs] at h
  | c :: cs, e :: es, h, f => by
    simp only [chkEs, Bool.and_eq_true] at h
    exact paI (pa_cons (f c (List.mem_cons_self ..) e h.1.1).pe (pes_ok h.2 fun c hc => f c (List.mem_cons_of_mem _ hc)) (star_cons h.1.2 _ _)) fun _ _ _ h => tEs_cons h
theorem chk_star {Γ : Scope} {p : Pos} {env : Env} : ∀ {cs : List E} {es : List Expr}, chkEs N nf Γ cs es = true → (backTo p (starEach es env)).any (·.1) = false
  | [], [], _ => rfl
  | [], _ :: _, h => by simp [chkEs] at h
  | _ :: _, [], h => by simp [chkEs] at h
  | c :: cs, e :: es, h => by
    simp only [chkEs, Bool.and_eq_true] at h
    rw [star_cons h.1.2]
    have ih := chk_star (p := p) (env := env) h.2
    unfold backTo at ih ⊢
    rw [List.map_cons, List.any_cons, ih]
    rfl
theorem pt_ifExp {c a b : Expr} {tc ta tb : TT} {p : Pos} (hc : PT X c tc) (ha : PT X a ta) (hb : PT X b tb) : PT X (.IfExp c a b p) (fun σ H Q => tc σ H fun k H1 => if k = true then ta σ H1 Q else tb σ H1 Q) := by
  refine ⟨fun pins s σ H Q I h => ?_⟩
  show wpAny _ _ (isTrue c X.env (eval c X.env) >>= _) _ _ s
  refine wpAny_bind (thn (hc.run pins s σ H _ I h) fun k s1 ⟨H1, I1, q1⟩ => ?_)
  cases k with
  | true => exact ha.run pins s1 σ H1 Q I1 q1
  | false => exact hb.run pins s1 σ H1 Q I1 q1
end
end L2.Pz
set_option Elab.async false
set_option linter.all false
set_option maxRecDepth 100000
set_option maxHeartbeats 4000000
namespace L2.Pz
set_option autoImplicit false
open PySem PySem.Spec PyProof.Rows L2

/-! ## Pz12: checked expressions do what ev says -/
section
variable {g : Gw} {M : Nat → List Md} {C : Cl} {d : Nat} {N : List Str} {nf : Nf} {X : Cx}
theorem mb_some {f : PV → PV → Option Bool} {p q : PV} {k : Bool} (h : f p q = some k) : (f p q).map (fun b => (PV.bl b, false)) = some ((.bl k, false) : Rv) := by rw [h]; rfl
theorem cmp_snd (ok : CxOk g M C d N nf X) {o : Cop} {a b : E} {a' b' : Expr} {o' : CmpOp} {p : Pos} (ho : copIs o o' = true) (hm : behindInMarks o' b' = false) (ha : PE X a' (tEv g M C a)) (hb : PE X b' (tEv g M C b)) : Snd g M C X (.cmp o a b) (.Compare a' [o'] [b'] p) := by
  have hop := cmp_ok (g := g) ok.hK ok.hw ok.line ho
  refine ⟨peI (pe_cmpR hop ha hb hm) fun σ H Q ⟨F, env, o, env', R, e, hk, fin⟩ => ?_, ptI (pt_cmpR hop ha hb hm) fun σ H Q ⟨F, env, o, env', k, R, e, dk, fin⟩ => ?_, fun op l p z => by cases z⟩
  · simp only [ev] at e
    repeat' (split at e)
    all_goals first | (cases e; done) | skip
    rename_i h1 _ _ _ h2 _ _ _ _ h3 h4 _ _ h5
    cases e
    exact two_op R h1 h2 h3 h4 (by rw [h5]; rfl) fin
  · simp only [ev] at e
    repeat' (split at e)
    all_goals first | (cases e; done) | skip
    rename_i h1 _ _ _ h2 _ _ _ _ h3 h4 _ _ h5
    cases e
    cases dk
    exact two_op R h1 h2 h3 h4 (by rw [h5]; rfl) (finB fin)
/-- what a chain of two comparisons comes to -/
theorem chain_rd {o p : Cop} {a b c : E} {σ : St} {H : Hp} {Q : VK} {F : Ad} {env env' : En} {x : Opd} (R : Rep g F H σ env) (e : ev M C (.cmp2 o p a b c) env = some (x, env')) (fin : Fin g σ F H env x env' Q) :
    tChain (rB g (cmpF o)) (rB g (cmpF p)) (tEv g M C a) (tEv g M C b) (tEv g M C c) σ H Q := by
  simp only [ev] at e
  split at e
  · rename_i x1 env1 h1
    split at e
    · rename_i y env2 h2
      split at e
      · rename_i u v h3 h4
        split at e
        · rename_i h5
          split at e
          · rename_i z env3 h6
            split at e
            · rename_i v' w h7 h8
              split at e
              · rename_i k h9
                cases e
                refine two_ev R h1 h2 (ok_d h3) (ok_d h4) fun a1 b1 F1 H1 x1 R1 ha hb => ⟨F1, u, v, _, R1.dom, ha.peek R1 h3, hb.peek R1 h4, mb_some h5, fun z1 F2 H2 al => ?_⟩
                cases al.val rfl
                refine ⟨true, rfl, ?_⟩
                rw [if_pos rfl]
                have R2 := al.rep R1
                have hb2 := hb.ext R1 (al.ext _) .refl fun _ z => z
                refine ⟨F2, _, _, _, R2, h6, ok_d h8, fun c1 F3 H3 x3 R3 hc => ⟨F3, v', w, _, R3.dom, (hb2.ext R2 x3 (ev_rel c h6) fun _ z => z).peek R3 h7, hc.peek R3 h8, mb_some h9, ?_⟩⟩
                exact fin.out ((x1.tr (al.ext _)).tr x3) R3
              · cases e
            · cases e
          · cases e
        · rename_i h5
          cases e
          refine two_ev R h1 h2 (ok_d h3) (ok_d h4) fun a1 b1 F1 H1 x1 R1 ha hb => ⟨F1, u, v, _, R1.dom, ha.peek R1 h3, hb.peek R1 h4, mb_some h5, fun z1 F2 H2 al => ?_⟩
          cases al.val rfl
          refine ⟨false, rfl, ?_⟩
          rw [if_neg Bool.false_ne_true]
          exact fin.val (x1.tr (al.ext _)) (al.rep R1) (.bl _)
        · cases e
      · cases e
    · cases e
  · cases e
theorem cmp2_bl {o p : Cop} {a b c : E} {env env' : En} {x : Opd} (e : ev M C (.cmp2 o p a b c) env = some (x, env')) : ∃ k, x = .vl (.bl k) false := by
  simp only [ev] at e
  repeat' (split at e)
  all_goals first | (cases e; done) | (cases e; exact ⟨_, rfl⟩)
theorem cmp2_snd (ok : CxOk g M C d N nf X) {o p : Cop} {a b c : E} {a' b' c' : Expr} {o' p' : CmpOp} {q : Pos} (ho : copIs o o' = true) (hp : copIs p p' = true) (hm : lastMarks [o', p'] [b', c'] = false) (ha : PE X a' (tEv g M C a)) (hb : PE X b' (tEv g M C b)) (hc : PE X c' (tEv g M C c)) :
    Snd g M C X (.cmp2 o p a b c) (.Compare a' [o', p'] [b', c'] q) := by
  have h1 := cmp_ok (g := g) ok.hK ok.hw ok.line ho
  have h2 := cmp_ok (g := g) ok.hK ok.hw ok.line hp
  refine ⟨peI (pe_chain h1 h2 ha hb hc hm) fun σ H Q ⟨F, env, o, env', R, e, hk, fin⟩ => chain_rd R e fin, ptI (pt_chain h1 h2 ha hb hc hm) fun σ H Q ⟨F, env, o, env', k, R, e, dk, fin⟩ => ?_, fun op l p z => by cases z⟩
  obtain ⟨k', rfl⟩ := cmp2_bl e
  cases dk
  exact chain_rd R e (finB fin)
/-- a bool ahead -/
theorem bl_ahead {a : E} {σ : St} {H : Hp} {F : Ad} {env env1 : En} {x : Opd} {k : Bool} {K : Bool → Hp → Prop} (R : Rep g F H σ env) (e : ev M C a env = some (x, env1)) (dx : deref env1 x = some (.bl k)) (h : ∀ F1 H1, Ext F H (Own σ env) F1 H1 (Own σ env1) → Rep g F1 H1 σ env1 → K k H1) :
    tEv g M C a σ H fun v H1 => ∃ c, v = .bl c ∧ K c H1 := ⟨F, env, x, env1, R, e, ok_d dx, fun v F1 H1 x1 R1 hv => ⟨k, (hv.peek R1 dx).bl, h F1 H1 x1 R1⟩⟩
theorem bl_aheadT {a : E} {σ : St} {H : Hp} {F : Ad} {env env1 : En} {x : Opd} {k : Bool} {K : Bool → Hp → Prop} (R : Rep g F H σ env) (e : ev M C a env = some (x, env1)) (dx : deref env1 x = some (.bl k)) (h : ∀ F1 H1, Ext F H (Own σ env) F1 H1 (Own σ env1) → Rep g F1 H1 σ env1 → K k H1) :
    tTs g M C a σ H K := ⟨F, env, x, env1, k, R, e, dx, fun F1 H1 x1 R1 => h F1 H1 x1 R1⟩
theorem and_snd {a b : E} {x y : Expr} {r : List Expr} {p : Pos} (ha : Snd g M C X a x) (hb : PE X (.BoolOp .And (y :: r) p) (tEv g M C b)) (hw : PW X (.BoolOp .And (y :: r) p) (tTs g M C b)) : Snd g M C X (.and a b) (.BoolOp .And (x :: y :: r) p) := by
  have pw : PW X (.BoolOp .And (x :: y :: r) p) (tTs g M C (.and a b)) := pwI (pw_and ha.pt hw) fun σ H Q ⟨F, env, o, env', k, R, e, dk, fin⟩ => by
    simp only [ev] at e
    split at e
    · rename_i x1 env1 h1
      split at e
      · rename_i h2
        exact bl_aheadT R h1 h2 fun F1 H1 x1 R1 => by
          rw [if_pos rfl]
          exact ⟨F1, _, _, _, k, R1, e, dk, fin.pre x1⟩
      · rename_i h2
        cases e; cases dk
        exact bl_aheadT R h1 h2 fun F1 H1 x1 R1 => by
          rw [if_neg Bool.false_ne_true]
          exact fin F1 H1 x1 R1
      · cases e
    · cases e
  refine ⟨peI (pe_and ha.pe hb) fun σ H Q ⟨F, env, o, env', R, e, hk, fin⟩ => ?_, pw.pt, fun op l p z => by cases z; exact pw⟩
  simp only [ev] at e
  split at e
  · rename_i x1 env1 h1
    split at e
    · rename_i h2
      exact bl_ahead R h1 h2 (K := fun c H1 => if c = true then tEv g M C b σ H1 Q else Q (.bl false) H1) fun F1 H1 x1 R1 => by
        rw [if_pos rfl]
        exact ⟨F1, _, _, _, R1, e, hk, fin.pre x1⟩
    · rename_i h2
      cases e
      exact bl_ahead R h1 h2 (K := fun c H1 => if c = true then tEv g M C b σ H1 Q else Q (.bl false) H1) fun F1 H1 x1 R1 => by
        rw [if_neg Bool.false_ne_true]
        exact fin.val x1 R1 (.bl _)
    · cases e
  · cases e
theorem or_snd {a b : E} {x y : Expr} {r : List Expr} {p : Pos} (ha : Snd g M C X a x) (hb : PE X (.BoolOp .Or (y :: r) p) (tEv g M C b)) (hw : PW X (.BoolOp .Or (y :: r) p) (tTs g M C b)) : Snd g M C X (.or a b) (.BoolOp .Or (x :: y :: r) p) := by
  have pw : PW X (.BoolOp .Or (x :: y :: r) p) (tTs g M C (.or a b)) := pwI (pw_or ha.pt hw) fun σ H Q ⟨F, env, o, env', k, R, e, dk, fin⟩ => by
    simp only [ev] at e
    split at e
    · rename_i x1 env1 h1
      split at e
      · rename_i h2
        cases e; cases dk
        exact bl_aheadT R h1 h2 fun F1 H1 x1 R1 => by
          rw [if_pos rfl]
          exact fin F1 H1 x1 R1
      · rename_i h2
        exact bl_aheadT R h1 h2 fun F1 H1 x1 R1 => by
          rw [if_neg Bool.false_ne_true]
          exact ⟨F1, _, _, _, k, R1, e, dk, fin.pre x1⟩
      · cases e
    · cases e
  refine ⟨peI (pe_or ha.pe hb) fun σ H Q ⟨F, env, o, env', R, e, hk, fin⟩ => ?_, pw.pt, fun op l p z => by cases z; exact pw⟩
  simp only [ev] at e
  split at e
  · rename_i x1 env1 h1
    split at e
    · rename_i h2
      cases e
      exact bl_ahead R h1 h2 (K := fun c H1 => if c = true then Q (.bl true) H1 else tEv g M C b σ H1 Q) fun F1 H1 x1 R1 => by
        rw [if_pos rfl]
        exact fin.val x1 R1 (.bl _)
    · rename_i h2
      exact bl_ahead R h1 h2 (K := fun c H1 => if c = true then Q (.bl true) H1 else tEv g M C b σ H1 Q) fun F1 H1 x1 R1 => by
        rw [if_neg Bool.false_ne_true]
        exact ⟨F1, _, _, _, R1, e, hk, fin.pre x1⟩
    · cases e
  · cases e
theorem not_snd {a : E} {x : Expr} {p : Pos} (ha : Snd g M C X a x) : Snd g M C X (.not a) (.UnaryOp .Not x p) := by
  refine ⟨peI (pe_not ha.pe) fun σ H Q ⟨F, env, o, env', R, e, hk, fin⟩ => ?_, ptI (pt_not ha.pt) fun σ H Q ⟨F, env, o, env', k, R, e, dk, fin⟩ => ?_, fun op l p z => by cases z⟩
  · simp only [ev] at e
    split at e
    · rename_i x1 env1 h1
      split at e
      · rename_i k h2
        cases e
        exact bl_ahead R h1 h2 (K := fun c H1 => Q (.bl (!c)) H1) fun F1 H1 x1 R1 => fin.val x1 R1 (.bl _)
      · cases e
    · cases e
  · simp only [ev] at e
    split at e
    · rename_i x1 env1 h1
      split at e
      · rename_i k h2
        cases e; cases dk
        exact bl_aheadT R h1 h2 fun F1 H1 x1 R1 => fin F1 H1 x1 R1
      · cases e
    · cases e
theorem ite_snd {c a b : E} {c' a' b' : Expr} {p : Pos} (hc : Snd g M C X c c') (ha : Snd g M C X a a') (hb : Snd g M C X b b') : Snd g M C X (.ite c a b) (.IfExp c' a' b' p) := by
  refine ⟨peI (pe_ifExp hc.pt ha.pe hb.pe) fun σ H Q ⟨F, env, o, env', R, e, hk, fin⟩ => ?_, ptI (pt_ifExp hc.pt ha.pt hb.pt) fun σ H Q ⟨F, env, o, env', k, R, e, dk, fin⟩ => ?_, fun op l p z => by cases z⟩
  · simp only [ev] at e
    split at e
    · rename_i x1 env1 h1
      split at e
      · rename_i h2
        exact bl_aheadT R h1 h2 fun F1 H1 x1 R1 => by
          rw [if_pos rfl]
          exact ⟨F1, _, _, _, R1, e, hk, fin.pre x1⟩
      · rename_i h2
        exact bl_aheadT R h1 h2 fun F1 H1 x1 R1 => by
          rw [if_neg Bool.false_ne_true]
          exact ⟨F1, _, _, _, R1, e, hk, fin.pre x1⟩
      · cases e
    · cases e
  · simp only [ev] at e
    split at e
    · rename_i x1 env1 h1
      split at e
      · rename_i h2
        exact bl_aheadT R h1 h2 fun F1 H1 x1 R1 => by
          rw [if_pos rfl]
          exact ⟨F1, _, _, _, k, R1, e, dk, fin.pre x1⟩
      · rename_i h2
        exact bl_aheadT R h1 h2 fun F1 H1 x1 R1 => by
          rw [if_neg Bool.false_ne_true]
          exact ⟨F1, _, _, _, k, R1, e, dk, fin.pre x1⟩
      · cases e
    · cases e
theorem tup_ok {es : List E} {es' : List Expr} {n : Nat} {p : Pos} (h : PA X es' (tEs g M C es)) : PE X (.Tuple es' n p) (tEv g M C (.tup es)) := peI (pe_tup h) fun σ H Q ⟨F, env, o, env', R, e, hk, fin⟩ => by
  simp only [ev] at e
  split at e
  · rename_i os env1 h1
    split at e
    · rename_i ps env2 h2
      split at e
      · rename_i hz
        cases e
        refine ⟨F, env, os, env1, R, h1, ok_cs h2, fun vs F1 H1 x1 R1 hl => ?_⟩
        obtain ⟨F2, m2, x2, R2, _, l⟩ := consumes_ok R1 x1 hl h2
        exact ⟨by rw [← l.length]; exact hz, (fin.out x2 R2).tup l⟩
      · cases e
    · cases e
  · cases e
theorem lst_ok {es : List E} {es' : List Expr} {p : Pos} (h : PA X es' (tEs g M C es)) : PE X (.List es' p) (tEv g M C (.lst es)) := peI (pe_lst h) fun σ H Q ⟨F, env, o, env', R, e, hk, fin⟩ => by
  simp only [ev] at e
  split at e
  · rename_i os env1 h1
    split at e
    · rename_i ps env2 h2
      split at e
      · rename_i hz
        cases e
        refine ⟨F, env, os, env1, R, h1, ok_cs h2, fun vs F1 H1 x1 R1 hl => ?_⟩
        obtain ⟨F2, m2, x2, R2, _, l⟩ := consumes_ok R1 x1 hl h2
        exact ⟨by rw [← l.length]; exact hz, (fin.out x2 R2).lst R2.dom l⟩
      · cases e
    · cases e
  · cases e
theorem dnk_ok {p : Pos} : PE X (.Dict [] [] p) (tEv g M C .dnk) := peI pe_dnewK fun σ H Q ⟨F, env, o, env', R, e, hk, fin⟩ => by
  simp only [ev] at e; cases e
  exact fun q hq => fin.out .refl R _ _ _ (.new hq R.dom (.dk upd_same .nil))
/-- a display of keys and values -/
def trsOf (g : Gw) (M : Nat → List Md) (C : Cl) : List E → List (TE × TE)
  | c :: d :: cs => (tEv g M C c, tEv g M C d) :: trsOf g M C cs
  | _ => []
def evenE : List E → Bool
  | [] => true
  | _ :: _ :: cs => evenE cs
  | [_] => false
def flatV : List (V × V) → List V
  | [] => []
  | (x, y) :: r => x :: y :: flatV r
theorem tEv_mono {c : E} {σ : St} {H : Hp} {Q Q' : VK} (h : tEv g M C c σ H Q) (f : ∀ v H', Q v H' → Q' v H') : tEv g M C c σ H Q' := by
  obtain ⟨F, env, o, env', R, e, ko, fin⟩ := h
  exact ⟨F, env, o, env', R, e, ko, fun v F' H' x R' hv => f _ _ (fin v F' H' x R' hv)⟩
theorem tPairs_of : ∀ {es : List E} {σ : St} {H : Hp} {Q : List (V × V) → Hp → Prop}, evenE es = true → tEs g M C es σ H (fun vs H' => ∀ ps, flatV ps = vs → Q ps H') → tPairs (trsOf g M C es) σ H Q
  | [], σ, H, Q, _, h => tEs_nil h [] rfl
  | [_], _, _, _, he, _ => by cases he
  | c :: d :: cs, σ, H, Q, he, h => by
    show tEv g M C c σ H _
    refine tEv_mono (tEs_cons h) fun x H1 h1 => ?_
    show tEv g M C d σ H1 _
    refine tEv_mono (tEs_cons h1) fun y H2 h2 => ?_
    refine tPairs_of (es := cs) he ?_
    obtain ⟨F, env, os, env', R, e, ko, fin⟩ := h2
    exact ⟨F, env, os, env', R, e, ko, fun vs F' H' x' R' hv ps hp => fin vs F' H' x' R' hv ((x, y) :: ps) (by show x :: y :: flatV ps = _; rw [hp])⟩
theorem kv_of : ∀ {ps : List PV} {ws : List V} {kvs : List (Key × PV)} {qs : List (V × V)} {F : Ad} {H : Hp}, RepL g F H ps ws → kvsOf ps = some kvs → flatV qs = ws → ∃ kv : List (Key × V), qs = kv.map (fun kv => (kV kv.1, kv.2)) ∧ kv.length = kvs.length ∧ RepK g F H kvs kv
  | [], _, kvs, qs, F, H, .nil, e, hq => by
    cases e
    cases qs with
    | nil => exact ⟨[], rfl, rfl, .nil⟩
    | cons q qs => cases hq
  | [_], _, _, _, _, _, _, e, _ => by cases e
  | k :: v :: r, _, kvs, qs, F, H, .cons a (.cons b c), e, hq => by
    cases qs with
    | nil => cases hq
    | cons q qs =>
      obtain ⟨q1, q2⟩ := q
      have hq2 : q1 :: q2 :: flatV qs = _ := hq
      clear hq
      simp only [List.cons.injEq] at hq2
      obtain ⟨rfl, rfl, hq2⟩ := hq2
      unfold kvsOf at e
      split at e
      · rename_i kk rr g1 g2
        cases e
        obtain ⟨kv, h1, h2, h3⟩ := kv_of c g2 hq2
        have ek := toKey_some (.inl a) g1
        subst ek
        exact ⟨(kk, q2) :: kv, by rw [h1]; rfl, by rw [List.length_cons, List.length_cons, h2], .cons b h3⟩
      · cases e
/-- what stands at a place where nothing lay -/
theorem Rep.noAt {σ : St} {F : Ad} {H : Hp} {env : En} {q : Addr} (R : Rep g F H σ env) (hq : H q = none) {i : Nat} {s : Slot} (e : env[i]? = some (some s)) (es : σ[i]? = some (some (.ref q))) : (s.k = .ro ∨ s.k = .fz) ∧ RepV g F H s.v (.ref q) := by
  obtain ⟨w, ew, h⟩ := R.slot i s e
  rw [es] at ew; cases ew
  obtain ⟨p, kd⟩ := s
  cases kd with
  | fz => exact ⟨.inr rfl, h⟩
  | own => obtain ⟨b, eb, nb, c⟩ := h; cases eb; exact (c.dom hq).elim
  | lk => obtain ⟨b, eb, nb, c⟩ := h; cases eb; exact (c.dom hq).elim
  | ro =>
    rcases h with h | ⟨b, eb, c⟩
    · exact ⟨.inl rfl, h⟩
    · cases eb; exact (c.dom hq).elim
theorem Rep.updAt {σ : St} {F : Ad} {H : Hp} {env : En} {q : Addr} {u : HO} (R : Rep g F H σ env) (nf : ¬ F q) (no : ∀ (i : Nat) (s : Slot), env[i]? = some (some s) → σ[i]? = some (some (.ref q)) → (s.k = .ro ∨ s.k = .fz) ∧ RepV g F H s.v (.ref q)) : Rep g F (upd H q u) σ env := by
  have k : ∀ b o, F b → H b = some o → upd H q u b = some o := fun b o hb e => by rw [upd_ne (fun z => nf (by rw [← z]; exact hb))]; exact e
  refine ⟨R.len, fun i s e => ?_, fun i j x s b h1 h2 h3 h4 h5 h6 h7 => (R.sep i j x s b h1 h2 h3 h4 h5 h6 h7).mono (fun _ h => h) k, fun a ha => ?_⟩
  · obtain ⟨w, ew, h⟩ := R.slot i s e
    refine ⟨w, ew, ?_⟩
    have nb : ∀ b, w = .ref b → b ≠ q → ∀ o, H b = some o → upd H q u b = some o := fun b eb n o eo => by
      rw [upd_ne n]; exact eo
    have no := no i s e
    rw [ew] at no
    obtain ⟨p, kd⟩ := s
    cases kd with
    | fz => exact RepV.mono (fun _ h => h) k h
    | own =>
      obtain ⟨b, eb, n1, c⟩ := h
      exact ⟨b, eb, n1, c.mono (fun _ h => h) k (nb b eb fun z => by rcases (no (by rw [eb, z])).1 with z | z <;> cases z)⟩
    | lk =>
      obtain ⟨b, eb, n1, c⟩ := h
      exact ⟨b, eb, n1, c.mono (fun _ h => h) k (nb b eb fun z => by rcases (no (by rw [eb, z])).1 with z | z <;> cases z)⟩
    | ro =>
      rcases h with h | ⟨b, eb, c⟩
      · exact .inl (RepV.mono (fun _ h => h) k h)
      · by_cases z : b = q
        · exact .inl (by rw [eb, z]; exact RepV.mono (fun _ h => h) k (no (by rw [eb, z])).2)
        · exact .inr ⟨b, eb, c.mono (fun _ h => h) k (nb b eb z)⟩
  · rw [upd_ne (fun z => nf (by rw [← z]; exact ha))]; exact R.dom a ha
theorem dsp_ok {es0 : List E} {ks : List (Option Expr)} {vs : List Expr} {p : Pos} (h : PPs X p ks vs (trsOf g M C es0)) (he : evenE es0 = true) (hall : ks.all (·.isSome) = true) (hl : ks.length = vs.length) (h0 : ks ≠ []) (h15 : ks.length ≤ 15) : PE X (.Dict ks vs p) (tEv g M C (.dsp es0)) := peI (pe_disp h hall hl h0 h15) fun σ H Q ⟨F, env, o, env', R, e, hk, fin⟩ => by
  simp only [ev] at e
  split at e
  case h_2 => cases e
  rename_i os env1 h1
  split at e
  case h_2 => cases e
  rename_i ps env2 h2
  split at e
  case h_2 => cases e
  rename_i kvs h3
  split at e
  case isFalse => cases e
  rename_i hz
  cases e
  intro q hq
  have A : AllocR g F H (.dk [], true) (.ref q) F (upd H q (.dK [])) := .new hq R.dom (.dk upd_same .nil)
  have nO : ¬ Own σ env q := fun z => R.ownDom z hq
  have nF : ¬ F q := fun z => R.dom q z hq
  refine tPairs_of he ⟨F, env, os, env1, A.rep R, h1, ok_cs h2, fun ws F1 H1 x1 R1 hl qs ep => ?_⟩
  have hold : H1 q = some (.dK []) := x1.keep q _ upd_same nO
  obtain ⟨F2, m2, x2, R2, er, l⟩ := consumes_ok R1 x1 hl h2
  obtain ⟨kv, k1, k2, k3⟩ := kv_of l h3 ep
  have no : ∀ (i : Nat) (s : Slot), env'[i]? = some (some s) → σ[i]? = some (some (.ref q)) → (s.k = .ro ∨ s.k = .fz) ∧ RepV g F2 H1 s.v (.ref q) := fun i s e es => by
    have er := (evs_rel es0 h1).trans (consumes_rel h2)
    obtain ⟨s0, e0, d⟩ := er.back e
    obtain ⟨z1, z2⟩ := R.noAt hq e0 es
    have : s = s0 := by
      rcases d with d | ⟨d, _⟩
      · exact d
      · rcases z1 with z | z <;> (rw [d] at z; cases z)
    subst this
    exact ⟨z1, (RepV.mono (fun _ h => h) (fun b o _ e => A.keep b o e) z2).ext x2 fun b hb => R.ownF hb⟩
  have n2 : ¬ F2 q := fun z => by
    rcases x2.newF q z with z | z | z
    · exact nF z
    · exact nO z
    · rw [upd_same] at z; cases z
  refine ⟨hold, kv, k1, by rw [k2]; exact hz, ?_⟩
  have kp : ∀ b o, F2 b → H1 b = some o → upd H1 q (.dK (mergeK [] kv)) b = some o := fun b o hb e => by rw [upd_ne (fun z => n2 (by rw [← z]; exact hb))]; exact e
  have ne : ∀ {a : Addr}, upd H q (.dK []) a = none → H a = none := fun {a} z => by
    by_cases w : a = q
    · subst w; exact hq
    · rw [upd_ne w] at z; exact z
  refine fin (.ref q) F2 _ ⟨fun a o e na => ?_, fun a e => ?_, x2.mono, fun a z => (x2.newF a z).imp id fun z => z.imp id ne, fun a z => (x2.newO a z).imp id ne⟩ (R2.updAt n2 no) ⟨q, rfl, n2, .dk upd_same ((RepK.putAll k3 .nil).mono (fun _ h => h) kp), .inr hq, fun i s ei k es => RepV.mono (fun _ h => h) kp (no i s ei es).2⟩
  · have w : a ≠ q := fun w => by rw [w, hq] at e; cases e
    rw [upd_ne w]
    exact x2.keep a o (by rw [upd_ne w]; exact e) na
  · by_cases w : a = q
    · rw [w]; exact hq
    · rw [upd_ne w] at e
      exact ne (x2.dom a e)
theorem dnt_ok {p : Pos} : PE X (.Dict [] [] p) (tEv g M C .dnt) := peI pe_dnewT fun σ H Q ⟨F, env, o, env', R, e, hk, fin⟩ => by
  simp only [ev] at e; cases e
  exact fun q hq => fin.out .refl R _ _ _ (.new hq R.dom (.dt upd_same .nil))
theorem idx_snd (ok : CxOk g M C d N nf X) {a i : E} {a' i' : Expr} {p : Pos} (ha : PE X a' (tEv g M C a)) (hi : PE X i' (tEv g M C i)) (hp : plainIxB i' = true) : PE X (.Subscript a' i' p) (tEv g M C (.idx a i)) :=
  peI (pe_ix (idx_ok ok.hK (by have := ok.line; omega)) ha hi (plainIx_ok hp)) fun σ H Q ⟨F, env, o, env', R, e, hk, fin⟩ => by
    simp only [ev] at e
    repeat' (split at e)
    all_goals first | (cases e; done) | skip
    rename_i h1 _ _ _ h2 _ _ _ _ h3 h4 _ _ h5
    cases e
    exact two_op R h1 h2 h3 h4 (by unfold ixF1; rw [h5]; rfl) fin
theorem un_snd {u : Uop} {a : E} {a' : Expr} {o : UnaryOp} {p : Pos} (ho : uopIs u o = true) (ha : PE X a' (tEv g M C a)) : PE X (.UnaryOp o a' p) (tEv g M C (.un u a)) := peI (pe_un (un_ok ho) ha) fun σ H Q ⟨F, env, o, env', R, e, hk, fin⟩ => by
  simp only [ev] at e
  repeat' (split at e)
  all_goals first | (cases e; done) | skip
  rename_i h1 _ _ h2 _ _ h3
  cases e
  exact one_op R h1 h2 (by show Option.map _ _ = _; rw [h3]; rfl) fin
def tO (g : Gw) (M : Nat → List Md) (C : Cl) : List E → TO
  | [] => tNoPart
  | c :: _ => tPart (tEv g M C c)
theorem tO_run {lo : List E} {σ : St} {H : Hp} {F : Ad} {env env1 : En} {l : List Opd} {i : Option Int} {K : Option Int → Hp → Prop} (hl : lo.length ≤ 1) (R : Rep g F H σ env) (e : evs M C lo env = some (l, env1)) (ei : ((derefs env1 l).bind asInts).bind asOpt = some i)
    (h : ∀ F1 H1, Ext F H (Own σ env) F1 H1 (Own σ env1) → Rep g F1 H1 σ env1 → K i H1) : tO g M C lo σ H K := by
  cases lo with
  | nil =>
    simp only [evs] at e
    cases e
    cases ei
    exact h F H .refl R
  | cons c cs =>
    cases cs with
    | cons _ _ => simp at hl
    | nil =>
      simp only [evs] at e
      split at e
      · rename_i o env2 h1
        cases e
        cases q : deref env1 o with
        | none => simp only [derefs, q] at ei; cases ei
        | some p =>
          refine ⟨F, env, o, _, R, h1, ok_d q, fun v F1 H1 x1 R1 hv => ?_⟩
          simp only [derefs, q] at ei
          cases p with
          | int j =>
            cases ei
            exact ⟨j, (hv.peek R1 q).int, h F1 H1 x1 R1⟩
          | _ => cases ei
      · cases e
theorem slc_snd (ok : CxOk g M C d N nf X) {a : E} {lo hi : List E} {a' : Expr} {lo' hi' : Option Expr} {p q : Pos} (ha : PE X a' (tEv g M C a)) (l1 : lo.length ≤ 1) (l2 : hi.length ≤ 1) (hlo : PO X lo' (tO g M C lo)) (hhi : PO X hi' (tO g M C hi)) :
    PE X (.Subscript a' (.Slice lo' hi' none q) p) (tEv g M C (.slc a lo hi)) := peI (pe_slice (slc_ok ok.hK) ha hlo hhi) fun σ H Q ⟨F, env, o, env', R, e, hk, fin⟩ => by
  simp only [ev] at e
  split at e
  · rename_i x env1 h1
    split at e
    · rename_i l env2 h2
      split at e
      · rename_i lo1 h3
        split at e
        · rename_i hh env3 h4
          split at e
          · rename_i hi1 h5
            split at e
            · rename_i pv h6
              split at e
              · rename_i r f h7
                cases e
                refine ⟨F, env, x, env1, R, h1, ok_d h6, fun v F1 H1 x1 R1 hv => tO_run l1 R1 h2 h3 fun F2 H2 x2 R2 => tO_run l2 R2 h4 h5 fun F3 H3 x3 R3 => ?_⟩
                exact ⟨F3, pv, _, R3.dom, ((hv.ext R1 x2 (evs_rel lo h2) fun _ z => z).ext R2 x3 (evs_rel hi h4) fun _ z => z).peek R3 h6, h7, fin.out ((x1.tr x2).tr x3) R3⟩
              · cases e
            · cases e
          · cases e
        · cases e
      · cases e
    · cases e
  · cases e
theorem rev_ok {a : E} {a' : Expr} {k : Nat} {p1 p2 p3 p : Pos} (ha : PE X a' (tEv g M C a)) : PE X (.Subscript a' (.Slice none none (some (.UnaryOp .USub (.Constant (.int 1) k p1) p2)) p3) p) (tEv g M C (.rev a)) := peI (pe_revLT ha) fun σ H Q ⟨F, env, o, env', R, e, hk, fin⟩ => by
  simp only [ev] at e
  split at e
  · rename_i x env1 h1
    split at e
    · rename_i xs h2
      cases e
      refine ⟨F, env, x, _, R, h1, ok_d h2, fun v F1 H1 x1 R1 hv => ?_⟩
      obtain ⟨a, vs, rfl, ea, l⟩ := (hv.peek R1 h2).lst
      exact .inl ⟨a, vs, rfl, SqL.of ea, (fin.out x1 R1).lst R1.dom l.rev⟩
    · rename_i xs h2
      cases e
      refine ⟨F, env, x, _, R, h1, ok_d h2, fun v F1 H1 x1 R1 hv => ?_⟩
      obtain ⟨a, vs, rfl, ea, l⟩ := (hv.peek R1 h2).tup
      exact .inr ⟨a, vs, rfl, SqT.of ea, (fin.out x1 R1).tup l.rev⟩
    · cases e
  · cases e
theorem bltn_ty (ok : CxOk g M C d N nf X) {x : Str} {n : String} {p : Pos} (hg : glB X.env.scope x = true) (hf : x ∈ nf.free) (hv : bootBuiltins x = some (.type n)) : PE X (.Name x p) (tC (.ty n)) := by
  obtain ⟨h1, h2, h3⟩ := glB_ok hg
  exact pe_bltn h1 (ok.free x hf) hv rfl h3 h2
theorem boot_ty (t : Ty) : bootBuiltins (Str.ofString (tyName t)) = some (.type (tyName t)) := by
  cases t <;> decide +kernel
theorem boot_isi : bootBuiltins (Str.ofString "isinstance") = some (.builtin "isinstance") := by decide +kernel
theorem isi_snd (ok : CxOk g M C d N nf X) {t : Ty} {a : E} {a' : Expr} {f ty : Str} {p q r : Pos} (hf : f = Str.ofString "isinstance") (gf : glB X.env.scope f = true) (ff : f ∈ nf.free) (ha : PE X a' (tEv g M C a)) (ns : nstar a' = true) (ht : ty = Str.ofString (tyName t)) (gt : glB X.env.scope ty = true) (ft : ty ∈ nf.free) :
    PE X (.Call (.Name f p) [a', .Name ty q] [] r) (tEv g M C (.isi t a)) := by
  subst hf ht
  obtain ⟨h1, h2, h3⟩ := glB_ok gf
  refine peI (pe_callB (isi_ok ok.hK t) h1 (ok.free _ ff) boot_isi (pa_cons ha (pa_cons (bltn_ty ok gt ft (boot_ty t)) pa_nil) (star_cons ns _ _)) h3 h2 (star_cons ns _ _) rfl) fun σ H Q ⟨F, env, o, env', R, e, hk, fin⟩ => ?_
  simp only [ev] at e
  split at e
  · rename_i x env1 h1
    split at e
    · rename_i pv h2
      split at e
      · rename_i rr k h3
        cases e
        exact ⟨F, env, x, _, R, h1, ok_d h2, fun v F1 H1 x1 R1 hv => ⟨v, rfl, F1, pv, _, R1.dom, hv.peek R1 h2, h3, fin.out x1 R1⟩⟩
      · cases e
    · cases e
  · cases e
theorem boot_bi {b : Bi} (h : biOk b = true) : bootBuiltins (Str.ofString (biName b)) = some (if biTy b then .type (biName b) else .builtin (biName b)) := by
  cases b <;> first | (cases h; done) | decide +kernel
theorem bi_fin {b : Bi} {es : List E} {σ : St} {H : Hp} {Q : VK} {F : Ad} {env env' : En} {o : Opd} (R : Rep g F H σ env) (e : ev M C (.bi b es) env = some (o, env')) (fin : Fin g σ F H env o env' Q) : tCB (rN g (biF b)) (tEs g M C es) σ H Q := by
  simp only [ev] at e
  split at e
  · rename_i os env1 h1
    split at e
    · rename_i ps h2
      split at e
      · rename_i r f h3
        cases e
        exact ⟨F, env, os, _, R, h1, ok_ds h2, fun vs F1 H1 x1 R1 hl => ⟨F1, ps, _, R1.dom, hl.peek R1 h2, h3, fin.out x1 R1⟩⟩
      · cases e
    · cases e
  · cases e
theorem bi_call (hK : X.K = g.K) (hw : X.w = g.w) (hc : X.calm = true) {b : Bi} (h : biOk b = true) : CallR X (if biTy b then .type (biName b) else .builtin (biName b)) (rN g (biF b)) := by
  cases b <;> first | (cases h; done) | skip
  · exact len_ok hK hw
  · exact sum_ok hc
  · exact min_ok hc
  · exact max_ok hc
  · exact abs_ok
  · exact all_ok hc
  · exact any_ok hc
  · exact sorted_ok hK hw hc
  · exact set_ok hw hc
  · exact tuple_ok hc
  · exact list_ok hK hc
  · exact dict_ok hc
  · exact int_okB
  · exact range_ok
theorem bi_snd (ok : CxOk g M C d N nf X) {b : Bi} {es : List E} {e' : Expr} {es' : List Expr} {x : Str} {p r : Pos} (hb : biOk b = true) (hx : x = Str.ofString (biName b)) (gx : glB X.env.scope x = true) (fx : x ∈ nf.free) (hc : chkEs N nf X.env.scope es (e' :: es') = true) (h : PA X (e' :: es') (tEs g M C es)) :
    PE X (.Call (.Name x p) (e' :: es') [] r) (tEv g M C (.bi b es)) := by
  subst hx
  obtain ⟨h1, h2, h3⟩ := glB_ok gx
  have cr := bi_call (g := g) ok.hK ok.hw ok.calm hb
  have bt := boot_bi hb
  cases es with
  | nil => simp [chkEs] at hc
  | cons c cs =>
    simp only [chkEs, Bool.and_eq_true] at hc
    have st := star_cons hc.1.2 es' X.env
    have sf := chk_star (p := r) (env := X.env) hc.2
    cases q : biTy b with
    | true =>
      rw [q] at cr bt
      exact peI (pe_callTy cr h1 (ok.free _ fx) bt h h3 h2 st sf) fun σ H Q ⟨F, env, o, env', R, e, hk, fin⟩ => bi_fin R e fin
    | false =>
      rw [q] at cr bt
      exact peI (pe_callB cr h1 (ok.free _ fx) bt h h3 h2 st sf) fun σ H Q ⟨F, env, o, env', R, e, hk, fin⟩ => bi_fin R e fin
/-- a def is called -/
theorem call_fin {f : Nat} {es : List E} {σ : St} {H : Hp} {Q : VK} {F : Ad} {env env' : En} {o : Opd} (R : Rep g F H σ env) (e : ev M C (.call f es) env = some (o, env')) (fin : Fin g σ F H env o env' Q) (E : XK) : tCall (spC g M C f) [] E (tEs g M C es) σ H Q := by
  simp only [ev] at e
  split at e
  · rename_i os env1 h1
    split at e
    · rename_i ps is env2 h2
      split at e
      · rename_i r k outs h3
        split at e
        · rename_i env3 h4
          cases e
          refine ⟨F, env, os, env1, R, h1, ok_ps h2, fun vs F1 H1 x1 R1 hl => ?_⟩
          obtain ⟨F2, m2, x2, R2, S2, L2, l1, l2, _⟩ := pass_ok R1 x1 hl h2
          rw [List.append_nil]
          refine ⟨F2, ps, _, outs, l1, l2, S2, h3, fun v F3 H3 x3 R3 hv => ?_⟩
          obtain ⟨x4, R4, h4'⟩ := call_ok R2 S2 L2 (pass_keeps h2) x3 R3 hv h4
          exact fin v F3 H3 (x2.tr x4) R4 (h4'.wid x2.new)
        · cases e
      · cases e
    · cases e
  · cases e
theorem call_snd (ok : CxOk g M C d N nf X) {f : Nat} {es : List E} {es' : List Expr} {x : Str} {p r : Pos} (hx : nf.fn[f]? = some x) (gx : glB X.env.scope x = true) (hc : chkEs N nf X.env.scope es es' = true) (h : PA X es' (tEs g M C es)) :
    PE X (.Call (.Name x p) es' [] r) (tEv g M C (.call f es)) := by
  obtain ⟨h1, h2, h3⟩ := glB_ok gx
  obtain ⟨fa, fd, ps, hm, hk, hb, ho⟩ := ok.fn f x hx
  cases es' with
  | nil =>
    refine peI (pe_call0 (E := fun _ _ _ => False) ho ok.room h1 hm hk hb .nil pass0 h2) fun σ H Q ⟨F, env, o, env', R, e, hk, fin⟩ => ?_
    cases es with
    | nil =>
      have := call_fin R e fin fun _ _ _ => False
      unfold tCall at this ⊢
      exact tEs_nil this
    | cons c cs => simp [chkEs] at hc
  | cons e' es' =>
    cases es with
    | nil => simp [chkEs] at hc
    | cons c cs =>
      simp only [chkEs, Bool.and_eq_true] at hc
      exact peI (pe_call (E := fun _ _ _ => False) ho ok.room h1 hm hk hb .nil pass0 h h2 (star_cons hc.1.2 es' X.env) (chk_star hc.2)) fun σ H Q ⟨F, env, o, env', R, e, hk, fin⟩ => call_fin R e fin _
end
end L2.Pz
set_option Elab.async false
set_option linter.all false
set_option maxRecDepth 100000
set_option maxHeartbeats 4000000
namespace L2.Pz
set_option autoImplicit false
open PySem PySem.Spec PyProof.Rows L2

/-! ## Pz13: what is walked -/
/-- locked or unlocked slots -/
structure LkR (a b : En) : Prop where
  len : b.length = a.length
  back : ∀ (i : Nat) (s : Slot), b[i]? = some (some s) → ∃ s0, a[i]? = some (some s0) ∧ s0.v = s.v ∧ (s0 = s ∨ (s0.k.ex = true ∧ s.k.ex = true))
theorem LkR.refl {a : En} : LkR a a := ⟨rfl, fun _ s e => ⟨s, e, rfl, .inl rfl⟩⟩
theorem LkR.trans {a b c : En} (x : LkR a b) (y : LkR b c) : LkR a c := ⟨y.len.trans x.len, fun i s e => by
  obtain ⟨s1, e1, v1, h1⟩ := y.back i s e
  obtain ⟨s0, e0, v0, h0⟩ := x.back i s1 e1
  refine ⟨s0, e0, v0.trans v1, ?_⟩
  rcases h1 with rfl | ⟨h1, h1'⟩
  · exact h0
  · rcases h0 with rfl | ⟨h0, _⟩
    · exact .inr ⟨h1, h1'⟩
    · exact .inr ⟨h0, h1'⟩⟩
theorem lock1_lkr (env : En) (i : Nat) : LkR env (lock1 env i) := by
  unfold lock1
  split
  · rename_i p h
    refine ⟨by rw [List.length_set], fun j s e => ?_⟩
    rcases set_get e with ⟨rfl, q⟩ | ⟨_, e⟩
    · cases q; exact ⟨_, h, rfl, .inr ⟨rfl, rfl⟩⟩
    · exact ⟨s, e, rfl, .inl rfl⟩
  · exact .refl
theorem unlock1_lkr (env : En) (i : Nat) : LkR env (unlock1 env i) := by
  unfold unlock1
  split
  · rename_i p h
    refine ⟨by rw [List.length_set], fun j s e => ?_⟩
    rcases set_get e with ⟨rfl, q⟩ | ⟨_, e⟩
    · cases q; exact ⟨_, h, rfl, .inr ⟨rfl, rfl⟩⟩
    · exact ⟨s, e, rfl, .inl rfl⟩
  · exact .refl
theorem lock_lkr (env : En) : ∀ is : List Nat, LkR env (lock env is)
  | [] => .refl
  | i :: is => (lock_lkr env is).trans (lock1_lkr _ i)
theorem unlock_lkr (env : En) : ∀ is : List Nat, LkR env (unlock env is)
  | [] => .refl
  | i :: is => (unlock_lkr env is).trans (unlock1_lkr _ i)
theorem lock1_own {env : En} {i j : Nat} {x : PV} (e : (lock1 env i)[j]? = some (some ⟨x, .own⟩)) : env[j]? = some (some ⟨x, .own⟩) ∧ j ≠ i := by
  unfold lock1 at e
  split at e
  · rename_i p h
    rcases set_get e with ⟨rfl, q⟩ | ⟨n, e⟩
    · cases q
    · exact ⟨e, Ne.symm n⟩
  · rename_i h
    exact ⟨e, fun z => h x (by rw [← z]; exact e)⟩
theorem lock_own {env : En} {j : Nat} {x : PV} : ∀ {is : List Nat}, (lock env is)[j]? = some (some ⟨x, .own⟩) → env[j]? = some (some ⟨x, .own⟩) ∧ j ∉ is
  | [], e => ⟨e, by simp⟩
  | i :: is, e => by
    obtain ⟨e1, n⟩ := lock1_own e
    obtain ⟨e2, m⟩ := lock_own e1
    exact ⟨e2, by simp only [List.mem_cons, not_or]; exact ⟨n, m⟩⟩
theorem enumP_get : ∀ {xs : List PV} {n i : Nat} {z : PV}, (enumP n xs)[i]? = some z → ∃ x, xs[i]? = some x ∧ z = .tup [.int ((n + i : Nat) : Int), x]
  | [], _, _, _, e => by cases e
  | x :: xs, n, 0, z, e => by cases e; exact ⟨x, rfl, rfl⟩
  | x :: xs, n, i + 1, z, e => by
    obtain ⟨y, h1, h2⟩ := enumP_get (xs := xs) (n := n + 1) (i := i) e
    exact ⟨y, h1, by rw [h2]; congr 4; omega⟩
theorem enumP_len : ∀ (xs : List PV) (n : Nat), (enumP n xs).length = xs.length
  | [], _ => rfl
  | x :: xs, n => congrArg Nat.succ (enumP_len xs (n + 1))
theorem zipP_get : ∀ {xs ys : List PV} {i : Nat} {z : PV}, (zipP xs ys)[i]? = some z → ∃ x y, xs[i]? = some x ∧ ys[i]? = some y ∧ z = .tup [x, y]
  | x :: xs, y :: ys, 0, z, e => by cases e; exact ⟨x, y, rfl, rfl, rfl⟩
  | x :: xs, y :: ys, i + 1, z, e => zipP_get (xs := xs) (ys := ys) (i := i) e
  | [], _, _, _, e => by simp [zipP] at e
  | _ :: _, [], _, _, e => by simp [zipP] at e
theorem zipP_len : ∀ (xs ys : List PV), xs.length ≤ (zipP xs ys).length ∨ ys.length ≤ (zipP xs ys).length
  | x :: xs, y :: ys => (zipP_len xs ys).imp Nat.succ_le_succ Nat.succ_le_succ
  | [], _ => .inl (Nat.zero_le _)
  | _ :: _, [] => .inr (Nat.zero_le _)
def E.sv : E → Bool
  | .zip _ _ | .enum _ | .rngI _ | .ite _ _ _ | .and _ _ | .or _ _ => false
  | _ => true
theorem ev_okW {M : Nat → List Md} {C : Cl} {c : E} {env env' : En} {x : Opd} (h : c.sv = true) (e : ev M C c env = some (x, env')) : x.ok = true := by
  cases c <;> first | (cases h; done) | skip
  all_goals (simp only [ev] at e; (repeat' split at e) <;> first | (cases e; rfl) | cases e)

/-- an iterator over data: what it yields, as long as what lay then lies -/
structure Wlk (g : Gw) (J : It) (xs : List PV) (F0 : Ad) (H0 : Hp) (O0 : Ad) : Prop where
  go : ∀ F H O, Ext F0 H0 O0 F H O → ∀ i x, xs[i]? = some x → J.go i H
  yld : ∀ F H O, Ext F0 H0 O0 F H O → ∀ i x v H', xs[i]? = some x → J.yld i H v H' → ∃ F', AllocR g F H (x, false) v F' H'
  stop : ∀ F H O, Ext F0 H0 O0 F H O → J.stop xs.length H

section
variable {g : Gw} {M : Nat → List Md} {C : Cl} {d : Nat} {N : List Str} {nf : Nf} {X : Cx} {F F0 : Ad} {H H0 : Hp} {σ : St} {env env' : En} {O0 N0 : Ad} {o : Opd} {v : V} {p : PV} {a : Addr}
theorem Rep.lkr (R : Rep g F H σ env) (h : LkR env env') : Rep g F H σ env' := by
  refine ⟨R.len.trans h.len.symm, fun i s e => ?_, fun i j x s b hij e1 k1 e2 k2 es ej => ?_, R.dom⟩
  · obtain ⟨s0, e0, v0, h0⟩ := h.back i s e
    rcases h0 with rfl | ⟨h0, h0'⟩
    · exact R.slot i _ e0
    · obtain ⟨b, es, nb, c⟩ := R.exc e0 h0
      refine ⟨_, es, ?_⟩
      obtain ⟨q, k⟩ := s
      subst v0
      cases k with
      | fz => cases h0'
      | ro => cases h0'
      | own => exact ⟨b, rfl, nb, c⟩
      | lk => exact ⟨b, rfl, nb, c⟩
  · obtain ⟨x0, e1', _, h1⟩ := h.back i x e1
    obtain ⟨s0, e2', v2, h2⟩ := h.back j s e2
    have k1' : x0.k.ex = true := by
      rcases h1 with rfl | ⟨h1, _⟩
      · exact k1
      · exact h1
    have k2' : s0.k ≠ .fz := by
      rcases h2 with rfl | ⟨h2, _⟩
      · exact k2
      · intro z; rw [z] at h2; cases h2
    have := R.sep i j x0 s0 b hij e1' k1' e2' k2' es ej
    rw [v2] at this
    exact this
theorem Own.lock {l : List Nat} (h : Own σ (lock env l) a) : Own σ env a := by
  obtain ⟨j, x, e, es⟩ := h
  exact ⟨j, x, (lock_own e).1, es⟩
/-- what is in no name's hands -/
def OldA (g : Gw) (F : Ad) (H : Hp) (σ : St) (env : En) (a : Addr) : Prop := H a ≠ none ∧ ¬ F a ∧ Away g F H σ env a
theorem olds {l : List Nat} {F' : Ad} {H' : Hp} (R : Rep g F H σ env) (x : Ext F H (Own σ env) F' H' (Own σ env')) (er : EnvRel env env') (R' : Rep g F' H' σ env') (hO : ∀ a, O0 a → Own σ (lock env' l) a ∨ OldA g F H σ env a) :
    (∀ a, O0 a → ¬ F' a) ∧ ∀ a, O0 a → Own σ (lock env' l) a ∨ (¬ F' a ∧ Away g F' H' σ env' a ∧ ¬ New H (Own σ env) a) := by
  have key : ∀ a, OldA g F H σ env a → ¬ F' a ∧ Away g F' H' σ env' a ∧ ¬ New H (Own σ env) a := fun a ⟨h1, h2, h3⟩ => by
    have no := h3.notOwn R h2
    refine ⟨fun h => ?_, h3.ext R x er h2, fun h => h.elim no h1⟩
    rcases x.newF a h with h | h | h
    · exact h2 h
    · exact no h
    · exact h1 h
  refine ⟨fun a h => ?_, fun a h => (hO a h).imp id (key a)⟩
  rcases hO a h with h | h
  · exact R'.ownF h.lock
  · exact (key a h).1
/-- where the walked lies, nothing is owned meanwhile -/
theorem src_ok {xs : List PV} {l : List Nat} (R : Rep g F H σ env) (h : HeldO g F H σ env N0 o v) (e : deref env o = some p) (w : walkF p = some xs) (hl : ∀ i ∈ o.slot, i ∈ l) :
    ∃ a vs, v = .ref a ∧ RepL g F H xs vs ∧ (∀ D, (Own σ (lock env l) D ∨ (¬ F D ∧ Away g F H σ env D ∧ ¬ N0 D)) → D ≠ a) ∧ ((p = .lst xs ∧ H a = some (.lst vs)) ∨ (p = .tup xs ∧ H a = some (.tup vs))) := by
  have pk := h.peek R e
  have key : ∀ a, v = .ref a → (RepV g F H p (.ref a) → F a) → RepV g F H p v ∨ RepC g F H a p → ∀ D, (Own σ (lock env l) D ∨ (¬ F D ∧ Away g F H σ env D ∧ ¬ N0 D)) → D ≠ a := fun a ev inF rr D hD z => by
    subst ev
    subst z
    rcases hD with ow | ⟨nb, aw0, nn⟩
    · obtain ⟨j, x, ej, es⟩ := ow
      obtain ⟨ej0, nj⟩ := lock_own ej
      obtain ⟨b, eb, nb, cb⟩ := R.exc ej0 rfl
      rw [es] at eb; cases eb
      cases o with
      | wk _ _ => cases e
      | vl q f =>
        cases e
        cases f with
        | false => exact nb (inF h)
        | true =>
          obtain ⟨c, ec, nc, cc, _, aw⟩ := h
          cases ec
          exact aw.notOwn R nc ⟨j, x, ej0, es⟩
      | sl i =>
        obtain ⟨ei, s, esi⟩ := h
        have hij : j ≠ i := fun z => nj (hl j (by rw [z]; exact List.mem_cons_self ..))
        simp only [deref, esi] at e
        cases e
        obtain ⟨w', ew, r⟩ := R.slot i s esi
        rw [ei] at ew; cases ew
        by_cases hk : s.k = .fz
        · unfold RepS at r; rw [hk] at r; exact nb (inF r)
        · exact nb (inF (R.sep j i _ _ D hij ej0 rfl esi hk es ei))
    · cases o with
      | wk _ _ => cases e
      | vl q f =>
        cases e
        cases f with
        | false => exact nb (inF h)
        | true =>
          obtain ⟨c, ec, nc, cc, n0, aw⟩ := h
          cases ec
          exact nn n0
      | sl i =>
        obtain ⟨ei, s, esi⟩ := h
        simp only [deref, esi] at e
        cases e
        obtain ⟨w', ew, r⟩ := R.slot i s esi
        rw [ei] at ew; cases ew
        by_cases hk : s.k = .fz
        · unfold RepS at r; rw [hk] at r; exact nb (inF r)
        · exact nb (inF (aw0 i s esi hk ei))
  cases p with
  | lst ys =>
    cases w
    obtain ⟨a, vs, rfl, ea, l'⟩ := pk.lst
    refine ⟨a, vs, rfl, l', key a rfl (fun r => by cases r; assumption) ?_, .inl ⟨rfl, ea⟩⟩
    rcases pk with r | ⟨b, eb, c⟩
    · exact .inl r
    · cases eb; exact .inr c
  | tup ys =>
    cases w
    obtain ⟨a, vs, rfl, ea, l'⟩ := pk.tup
    refine ⟨a, vs, rfl, l', key a rfl (fun r => by cases r; assumption) ?_, .inr ⟨rfl, ea⟩⟩
    rcases pk with r | ⟨b, eb, c⟩
    · exact .inl r
    · cases eb; exact .inr c
  | _ => cases w
theorem wlk_list {xs : List PV} {vs : List V} (K : PySem.W.Frag) (nF : ∀ a, O0 a → ¬ F0 a) (e : H0 a = some (.lst vs)) (l : RepL g F0 H0 xs vs) (n : ¬ O0 a) : Wlk g (Itl K a) xs F0 H0 O0 where
  go := fun F H O x i y hy => by
    obtain ⟨v, hv, _⟩ := l.get hy
    exact ⟨vs, v, SqL.of (x.keep _ _ e n), hv⟩
  yld := fun F H O x i y v H' hy ⟨e', h⟩ => by
    subst e'
    obtain ⟨w, hw, r⟩ := (l.ext x nF).get hy
    have := h vs (SqL.of (x.keep _ _ e n))
    rw [hw] at this; cases this
    exact ⟨F, .same r rfl⟩
  stop := fun F H O x => ⟨vs, SqL.of (x.keep _ _ e n), by rw [l.length]; exact Nat.le_refl _⟩
theorem wlk_tup {xs : List PV} {vs : List V} (K : PySem.W.Frag) (nF : ∀ a, O0 a → ¬ F0 a) (e : H0 a = some (.tup vs)) (l : RepL g F0 H0 xs vs) (n : ¬ O0 a) : Wlk g (Itt K a) xs F0 H0 O0 where
  go := fun F H O x i y hy => by
    obtain ⟨v, hv, _⟩ := l.get hy
    exact ⟨vs, v, SqT.of (x.keep _ _ e n), hv⟩
  yld := fun F H O x i y v H' hy ⟨e', h⟩ => by
    subst e'
    obtain ⟨w, hw, r⟩ := (l.ext x nF).get hy
    have := h vs (SqT.of (x.keep _ _ e n))
    rw [hw] at this; cases this
    exact ⟨F, .same r rfl⟩
  stop := fun F H O x => ⟨vs, SqT.of (x.keep _ _ e n), by rw [l.length]; exact Nat.le_refl _⟩
theorem wlk_enum {xs : List PV} {vs : List V} (K : PySem.W.Frag) (nF : ∀ a, O0 a → ¬ F0 a) (e : H0 a = some (.lst vs)) (l : RepL g F0 H0 xs vs) (n : ¬ O0 a) : Wlk g (Ite K a) (enumP 0 xs) F0 H0 O0 where
  go := fun F H O x i y hy => by
    obtain ⟨z, hz, _⟩ := enumP_get hy
    obtain ⟨v, hv, _⟩ := l.get hz
    exact ⟨vs, v, SqL.of (x.keep _ _ e n), hv⟩
  yld := fun F H O x i y v H' hy ⟨T, u, e1, e2, e3, h⟩ => by
    subst e1 e3
    obtain ⟨z, hz, rfl⟩ := enumP_get hy
    obtain ⟨w, hw, r⟩ := (l.ext x nF).get hz
    have := h vs (SqL.of (x.keep _ _ e n))
    rw [hw] at this; cases this
    refine ⟨_, AllocR.newT e2 (.cons ?_ (.cons r .nil))⟩
    rw [Nat.zero_add]
    exact .int _
  stop := fun F H O x => ⟨vs, SqL.of (x.keep _ _ e n), by rw [← l.length, enumP_len]; exact Nat.le_refl _⟩
theorem wlk_enumT {xs : List PV} {vs : List V} (K : PySem.W.Frag) (nF : ∀ a, O0 a → ¬ F0 a) (e : H0 a = some (.tup vs)) (l : RepL g F0 H0 xs vs) (n : ¬ O0 a) : Wlk g (IteT K a) (enumP 0 xs) F0 H0 O0 where
  go := fun F H O x i y hy => by
    obtain ⟨z, hz, _⟩ := enumP_get hy
    obtain ⟨v, hv, _⟩ := l.get hz
    exact ⟨vs, v, SqT.of (x.keep _ _ e n), hv⟩
  yld := fun F H O x i y v H' hy ⟨T, u, e1, e2, e3, h⟩ => by
    subst e1 e3
    obtain ⟨z, hz, rfl⟩ := enumP_get hy
    obtain ⟨w, hw, r⟩ := (l.ext x nF).get hz
    have := h vs (SqT.of (x.keep _ _ e n))
    rw [hw] at this; cases this
    refine ⟨_, AllocR.newT e2 (.cons ?_ (.cons r .nil))⟩
    rw [Nat.zero_add]
    exact .int _
  stop := fun F H O x => ⟨vs, SqT.of (x.keep _ _ e n), by rw [← l.length, enumP_len]; exact Nat.le_refl _⟩
theorem wlk_zip {xs ys : List PV} {vs ws : List V} {b : Addr} (K : PySem.W.Frag) (nF : ∀ a, O0 a → ¬ F0 a) (e : H0 a = some (.lst vs)) (l : RepL g F0 H0 xs vs) (n : ¬ O0 a) (e' : H0 b = some (.lst ws)) (l' : RepL g F0 H0 ys ws) (n' : ¬ O0 b) : Wlk g (Itz K a b) (zipP xs ys) F0 H0 O0 where
  go := fun F H O x i y hy => by
    obtain ⟨z, z', hz, hz', _⟩ := zipP_get hy
    obtain ⟨v, hv, _⟩ := l.get hz
    obtain ⟨w, hw, _⟩ := l'.get hz'
    exact ⟨vs, ws, v, w, SqL.of (x.keep _ _ e n), SqL.of (x.keep _ _ e' n'), hv, hw⟩
  yld := fun F H O x i y v H' hy ⟨T, u, u', e1, e2, e3, h, h'⟩ => by
    subst e1 e3
    obtain ⟨z, z', hz, hz', rfl⟩ := zipP_get hy
    obtain ⟨w, hw, r⟩ := (l.ext x nF).get hz
    obtain ⟨w', hw', r'⟩ := (l'.ext x nF).get hz'
    have := h vs (SqL.of (x.keep _ _ e n))
    rw [hw] at this; cases this
    have := h' ws (SqL.of (x.keep _ _ e' n'))
    rw [hw'] at this; cases this
    exact ⟨_, AllocR.newT e2 (.cons r (.cons r' .nil))⟩
  stop := fun F H O x => ⟨vs, ws, SqL.of (x.keep _ _ e n), SqL.of (x.keep _ _ e' n'), by rw [← l.length, ← l'.length]; exact zipP_len xs ys⟩
theorem wlk_zipT {xs ys : List PV} {vs ws : List V} {b : Addr} (K : PySem.W.Frag) (nF : ∀ a, O0 a → ¬ F0 a) (e : H0 a = some (.tup vs)) (l : RepL g F0 H0 xs vs) (n : ¬ O0 a) (e' : H0 b = some (.tup ws)) (l' : RepL g F0 H0 ys ws) (n' : ¬ O0 b) : Wlk g (RZ.ItzT K a b) (zipP xs ys) F0 H0 O0 where
  go := fun F H O x i y hy => by
    obtain ⟨z, z', hz, hz', _⟩ := zipP_get hy
    obtain ⟨v, hv, _⟩ := l.get hz
    obtain ⟨w, hw, _⟩ := l'.get hz'
    exact ⟨vs, ws, v, w, SqT.of (x.keep _ _ e n), SqT.of (x.keep _ _ e' n'), hv, hw⟩
  yld := fun F H O x i y v H' hy ⟨T, u, u', e1, e2, e3, h, h'⟩ => by
    subst e1 e3
    obtain ⟨z, z', hz, hz', rfl⟩ := zipP_get hy
    obtain ⟨w, hw, r⟩ := (l.ext x nF).get hz
    obtain ⟨w', hw', r'⟩ := (l'.ext x nF).get hz'
    have := h vs (SqT.of (x.keep _ _ e n))
    rw [hw] at this; cases this
    have := h' ws (SqT.of (x.keep _ _ e' n'))
    rw [hw'] at this; cases this
    exact ⟨_, AllocR.newT e2 (.cons r (.cons r' .nil))⟩
  stop := fun F H O x => ⟨vs, ws, SqT.of (x.keep _ _ e n), SqT.of (x.keep _ _ e' n'), by rw [← l.length, ← l'.length]; exact zipP_len xs ys⟩
theorem wlk_rng {lo : Int} {n : Nat} : Wlk g (Itr lo n) ((upto lo n).map PV.int) F0 H0 O0 where
  go := fun F H O x i y hy => by
    have h1 := lt_of_some hy
    rw [List.length_map, upto_length] at h1
    exact h1
  yld := fun F H O x i y v H' hy ⟨e1, e2⟩ => by
    subst e1 e2
    have h1 := lt_of_some hy
    rw [List.length_map, upto_length] at h1
    rw [List.getElem?_map, upto_get n lo i h1] at hy
    cases hy
    exact ⟨F, .same (.int _) rfl⟩
  stop := fun F H O x => by
    show n ≤ _
    rw [List.length_map, upto_length]
    exact Nat.le_refl _
theorem stepL_get {lo c : Int} {n i : Nat} (h : i < n) : (stepL lo c n)[i]? = some (lo + (i : Int) * c) := by
  unfold stepL
  rw [List.getElem?_map, List.getElem?_range h]; rfl
theorem wlk_rngC {lo c : Int} {n : Nat} : Wlk g (Itc lo c n) ((stepL lo c n).map PV.int) F0 H0 O0 where
  go := fun F H O x i y hy => by
    have h1 := lt_of_some hy
    rw [List.length_map, stepL, List.length_map, List.length_range] at h1
    exact h1
  yld := fun F H O x i y v H' hy ⟨e1, e2⟩ => by
    subst e1 e2
    have h1 := lt_of_some hy
    rw [List.length_map, stepL, List.length_map, List.length_range] at h1
    rw [List.getElem?_map, stepL_get h1] at hy
    cases hy
    exact ⟨F, .same (.int _) rfl⟩
  stop := fun F H O x => by
    show n ≤ _
    rw [List.length_map, stepL, List.length_map, List.length_range]
    exact Nat.le_refl _
variable (g M C) in
def tIt (c : E) : TI := fun σ H R => ∃ F env x env' xs l, Rep g F H σ env ∧ ev M C c env = some (x, env') ∧ walkO env' x = some (xs, l) ∧
  ∀ J F' H', Ext F H (Own σ env) F' H' (Own σ env') → Rep g F' H' σ env' → (∀ O0 : Ad, (∀ a, O0 a → Own σ (lock env' l) a ∨ OldA g F H σ env a) → Wlk g J xs F' H' O0) → R J H'
/-- a list or a tuple, walked -/
theorem pi_val {c : E} {e tg : Expr} (he : PE X e (tEv g M C c)) (hw : c.sv = true) : PI X tg e (tIt g M C c) := by
  refine ⟨fun pins s σ H R I ⟨F, env, x, env', xs, l, Rp, ee, ew, k⟩ => ?_⟩
  have ok := ev_okW hw ee
  have ed : ∃ p, deref env' x = some p ∧ walkF p = some xs ∧ l = x.slot := by
    cases x with
    | wk _ _ => cases ok
    | sl i =>
      simp only [walkO] at ew
      split at ew
      · rename_i p hp
        split at ew
        · rename_i ys hy; cases ew; exact ⟨p, hp, hy, rfl⟩
        · cases ew
      · cases ew
    | vl q f =>
      simp only [walkO] at ew
      split at ew
      · rename_i p hp
        split at ew
        · rename_i ys hy; cases ew; exact ⟨p, hp, hy, rfl⟩
        · cases ew
      · cases ew
  obtain ⟨p, dp, wp, rfl⟩ := ed
  have goal : tEv g M C c σ H fun v H1 => ∃ (a : Addr) (vs : List V), v = .ref a ∧ ((H1 a = some (.lst vs) ∧ R (Itl X.K a) H1) ∨ (H1 a = some (.tup vs) ∧ R (Itt X.K a) H1)) := by
    refine ⟨F, env, x, env', Rp, ee, ok, fun v F' H' x' R' h => ?_⟩
    obtain ⟨a, vs, rfl, l', n, q⟩ := src_ok R' h dp wp (fun i hi => hi)
    refine ⟨a, vs, rfl, ?_⟩
    rcases q with ⟨_, q⟩ | ⟨_, q⟩
    · exact .inl ⟨q, k _ F' H' x' R' fun O0 hO => (let ⟨z1, z2⟩ := olds Rp x' (ev_rel c ee) R' hO; wlk_list X.K z1 q l' fun h => n _ (z2 a h) rfl)⟩
    · exact .inr ⟨q, k _ F' H' x' R' fun O0 hO => (let ⟨z1, z2⟩ := olds Rp x' (ev_rel c ee) R' hO; wlk_tup X.K z1 q l' fun h => n _ (z2 a h) rfl)⟩
  refine thn (he.run pins s σ H _ I goal) fun u s1 ⟨v, H1, I1, r1, a, vs, e1, q1⟩ => ?_
  subst e1
  cases r1
  rcases q1 with ⟨q1, q⟩ | ⟨q1, q⟩
  · obtain ⟨its, rv, p, hz⟩ := I1.list (SqL.of q1)
    refine wpAny_pyIter_list p.isList ?_
    refine ⟨s1.heap.objs.size, [s1.heap.objs.size], _, _, H1, rfl, I1.kept (t' := s1.toks) fun b o e => Heap.get?_push_of_some _ e, turn_list a _, ⟨_, Heap.get?_push_size _ rfl, rfl, rfl⟩, fun b hb => ?_, q⟩
    have e : b = s1.heap.objs.size := by simpa using hb
    subst e
    exact I1.fpOk (Nat.le_refl _) (I1.hok.fresh (Nat.le_refl _))
  · obtain ⟨its, rv, p, hz⟩ := I1.tuple (SqT.of q1)
    refine wpAny_pyIter_tuple (show s1.heap.IsTuple a its.toArray from p) ?_
    refine ⟨s1.heap.objs.size, [s1.heap.objs.size], _, _, H1, rfl, I1.kept (t' := s1.toks) fun b o e => Heap.get?_push_of_some _ e, turn_tuple a _, ⟨_, Heap.get?_push_size _ rfl, rfl, rfl⟩, fun b hb => ?_, q⟩
    have e : b = s1.heap.objs.size := by simpa using hb
    subst e
    exact I1.fpOk (Nat.le_refl _) (I1.hok.fresh (Nat.le_refl _))
theorem pi_rng (ok : CxOk g M C d N nf X) {es : List E} {es' : List Expr} {x : Str} {p r : Pos} {tg : Expr} (hx : x = Str.ofString "range") (gx : glB X.env.scope x = true) (fx : x ∈ nf.free) (hc : chkEs N nf X.env.scope es es' = true) (h : PA X es' (tEs g M C es)) :
    PI X tg (.Call (.Name x p) es' [] r) (tIt g M C (.rngI es)) := by
  subst hx
  obtain ⟨h1, h2, h3⟩ := glB_ok gx
  have len : ∀ {cs : List E} {ds : List Expr}, chkEs N nf X.env.scope cs ds = true → cs.length = ds.length := by
    intro cs
    induction cs with
    | nil => intro ds h; cases ds with | nil => rfl | cons _ _ => simp [chkEs] at h
    | cons c cs ih => intro ds h; cases ds with
      | nil => simp [chkEs] at h
      | cons e ds => simp only [chkEs, Bool.and_eq_true] at h; exact congrArg Nat.succ (ih h.2)
  have fin : ∀ {σ : St} {H : Hp} {R : It → Hp → Prop}, tIt g M C (.rngI es) σ H R → tEs g M C es σ H fun vs H1 => ∃ ns : List Int, vs = ns.map V.int ∧ ns.length = es.length ∧ ((∃ j, ns = [j] ∧ inB j = true ∧ R (Itr 0 j.toNat) H1) ∨ (∃ i j, ns = [i, j] ∧ inB i = true ∧ inB j = true ∧ R (Itr i (j - i).toNat) H1) ∨ (∃ (i j k : Int) (n : Nat), ns = [i, j, k] ∧ RgC i j k n ∧ R (Itc i k n) H1)) := by
    rintro σ H R ⟨F, env, y, env', xs, l, Rp, ee, ew, k⟩
    simp only [ev] at ee
    split at ee
    · rename_i os env1 h1
      split at ee
      · rename_i ns h2
        split at ee
        · rename_i ys h3
          cases ee
          obtain ⟨ps, e1, e2⟩ := Option.bind_eq_some_iff.mp h2
          refine ⟨F, env, os, _, Rp, h1, ok_ds e1, fun vs F1 H1 x1 R1 hl => ?_⟩
          have pk := hl.peek R1 e1
          have vn : ∀ {ps : List PV} {ns : List Int} {vs : List V}, PeekL g F1 H1 ps vs → asInts ps = some ns → vs = ns.map V.int := by
            intro ps
            induction ps with
            | nil => intro ns vs h e; cases h; cases e; rfl
            | cons q ps ih =>
              intro ns vs h e
              cases h with
              | cons a b =>
                cases q with
                | int i =>
                  obtain ⟨ms, e3, rfl⟩ := Option.map_eq_some_iff.mp (show (asInts ps).map (i :: ·) = some ns from e)
                  rw [a.int, ih b e3]; rfl
                | _ => cases e
          have ev := vn pk e2
          have le : os.length = es.length := by
            have : ∀ {cs : List E} {os : List Opd} {env env' : En}, evs M C cs env = some (os, env') → os.length = cs.length := by
              intro cs
              induction cs with
              | nil => intro os env env' h; simp only [evs] at h; cases h; rfl
              | cons c cs ih =>
                intro os env env' h
                simp only [evs] at h
                split at h
                · split at h
                  · rename_i h4; cases h; exact congrArg Nat.succ (ih h4)
                  · cases h
                · cases h
            exact this h1
          refine ⟨ns, ev, ?_, ?_⟩
          · rw [← le, hl.length, ev, List.length_map]
          · unfold rngIF at h3
            simp only [walkO, Option.some.injEq, Prod.mk.injEq] at ew
            obtain ⟨ew1, ew2⟩ := ew
            subst ew1 ew2
            split at h3
            · rename_i j
              split at h3
              · rename_i hb
                cases h3
                refine .inl ⟨j, rfl, hb, k _ F1 H1 x1 R1 fun O0 _ => ?_⟩
                have := wlk_rng (g := g) (F0 := F1) (H0 := H1) (O0 := O0) (lo := 0) (n := j.toNat)
                unfold rngL
                rw [Int.sub_zero]
                exact this
              · cases h3
            · rename_i i j
              split at h3
              · rename_i hb
                cases h3
                exact .inr (.inl ⟨i, j, rfl, hb.1, hb.2, k _ F1 H1 x1 R1 fun _ _ => wlk_rng⟩)
              · cases h3
            · rename_i i j c
              split at h3
              · rename_i hb
                cases h3
                exact .inr (.inr ⟨i, j, c, _, rfl, ⟨hb.1.1, hb.1.2, hb.2, rangeSize_toNat i j c⟩, k _ F1 H1 x1 R1 fun _ _ => wlk_rngC⟩)
              · cases h3
            · cases h3
        · cases ee
      · cases ee
    · cases ee
  have bd : ∀ {i : Int}, inB i = true → -(2 ^ 62) ≤ i ∧ i < 2 ^ 62 := fun h => by
    unfold inB at h
    simp only [Bool.and_eq_true, decide_eq_true_eq] at h
    exact h
  cases es with
  | nil =>
    cases es' with
    | cons _ _ => simp [chkEs] at hc
    | nil =>
      refine ⟨fun pins s σ H R I q => ?_⟩
      have q := tEs_nil (fin q)
      obtain ⟨ns, _, hl, q⟩ := q
      rcases q with ⟨j, rfl, _⟩ | ⟨i, j, rfl, _⟩ | ⟨i, j, c, n, rfl, _⟩ <;> cases hl
  | cons c cs =>
    cases es' with
    | nil => simp [chkEs] at hc
    | cons e1 es' =>
      simp only [chkEs, Bool.and_eq_true] at hc
      cases cs with
      | nil =>
        cases es' with
        | cons _ _ => simp [chkEs] at hc
        | nil =>
          have := pi_range1 (tg := tg) (p := p) (pos := r) h1 (ok.free _ fx) h (star_cons hc.1.2 _ _)
          refine ⟨fun pins s σ H R I q => this.run pins s σ H R I ?_⟩
          obtain ⟨F, env, os, env', Rp, h1, h2, k⟩ := fin q
          refine ⟨F, env, os, env', Rp, h1, h2, fun vs F1 H1 x1 R1 hl => ?_⟩
          obtain ⟨ns, ev, hl', q⟩ := k vs F1 H1 x1 R1 hl
          rcases q with ⟨j, rfl, hb, q⟩ | ⟨i, j, rfl, _⟩ | ⟨i, j, c, n, rfl, _⟩
          · exact ⟨j, ev, (bd hb).1, (bd hb).2, q⟩
          · cases hl'
          · cases hl'
      | cons c2 cs =>
        cases es' with
        | nil => simp [chkEs] at hc
        | cons e2 es' =>
          cases cs with
          | nil =>
            cases es' with
            | cons _ _ => simp [chkEs] at hc
            | nil =>
              have hc2 := hc.2
              simp only [chkEs, Bool.and_eq_true] at hc2
              have := pi_range2 (tg := tg) (p := p) (pos := r) h1 (ok.free _ fx) h (by rw [star_cons hc.1.2, star_cons hc2.1.2]; rfl) (star_cons hc2.1.2 _ _)
              refine ⟨fun pins s σ H R I q => this.run pins s σ H R I ?_⟩
              obtain ⟨F, env, os, env', Rp, h1, h2, k⟩ := fin q
              refine ⟨F, env, os, env', Rp, h1, h2, fun vs F1 H1 x1 R1 hl => ?_⟩
              obtain ⟨ns, ev, hl', q⟩ := k vs F1 H1 x1 R1 hl
              rcases q with ⟨j, rfl, _⟩ | ⟨i, j, rfl, hb, hb', q⟩ | ⟨i, j, c, n, rfl, _⟩
              · cases hl'
              · exact ⟨i, j, ev, ⟨(bd hb).1, (bd hb).2, (bd hb').1, (bd hb').2⟩, q⟩
              · cases hl'
          | cons c3 cs =>
            cases es' with
            | nil => exact absurd hc.2 (by simp [chkEs])
            | cons e3 es' =>
              cases cs with
              | nil =>
                cases es' with
                | cons _ _ => exact absurd hc.2 (by simp [chkEs])
                | nil =>
                  have hc2 := hc.2
                  simp only [chkEs, Bool.and_eq_true] at hc2
                  have hc3 := hc2.2
                  have := pi_range3 (tg := tg) (p := p) (pos := r) h1 (ok.free _ fx) h (by rw [star_cons hc.1.2]) (by rw [star_cons hc2.1.2, star_cons hc3.1.2]; rfl)
                  refine ⟨fun pins s σ H R I q => this.run pins s σ H R I ?_⟩
                  obtain ⟨F, env, os, env', Rp, h1, h2, k⟩ := fin q
                  refine ⟨F, env, os, env', Rp, h1, h2, fun vs F1 H1 x1 R1 hl => ?_⟩
                  obtain ⟨ns, ev, hl', q⟩ := k vs F1 H1 x1 R1 hl
                  rcases q with ⟨j, rfl, _⟩ | ⟨i, j, rfl, _⟩ | ⟨i, j, c, n, rfl, hb, q⟩
                  · cases hl'
                  · cases hl'
                  · exact ⟨i, j, c, n, ev, hb, q⟩
              | cons c4 cs =>
                  refine ⟨fun pins s σ H R I q => ?_⟩
                  exfalso
                  obtain ⟨F, env, y, env', xs, l, Rp, ee, ew, k⟩ := q
                  simp only [ev] at ee
                  split at ee
                  · rename_i os env1 h1
                    split at ee
                    · rename_i ns h2
                      split at ee
                      · rename_i ys h3
                        obtain ⟨ps, e1, e2⟩ := Option.bind_eq_some_iff.mp h2
                        have l1 : ∀ {ps : List PV} {ns : List Int}, asInts ps = some ns → ns.length = ps.length := by
                          intro ps
                          induction ps with
                          | nil => intro ns e; cases e; rfl
                          | cons q ps ih =>
                            intro ns e
                            cases q with
                            | int i =>
                              obtain ⟨ms, e3, rfl⟩ := Option.map_eq_some_iff.mp (show (asInts ps).map (i :: ·) = some ns from e)
                              exact congrArg Nat.succ (ih e3)
                            | _ => cases e
                        have l2 : ∀ {os : List Opd} {ps : List PV}, derefs env1 os = some ps → ps.length = os.length := by
                          intro os
                          induction os with
                          | nil => intro ps e; cases e; rfl
                          | cons o os ih =>
                            intro ps e
                            unfold derefs at e
                            split at e
                            · rename_i h4 h5; cases e; exact congrArg Nat.succ (ih h5)
                            · cases e
                        have l3 : ∀ {cs : List E} {os : List Opd} {env env' : En}, evs M C cs env = some (os, env') → os.length = cs.length := by
                          intro cs
                          induction cs with
                          | nil => intro os env env' h; simp only [evs] at h; cases h; rfl
                          | cons c cs ih =>
                            intro os env env' h
                            simp only [evs] at h
                            split at h
                            · split at h
                              · rename_i h4; cases h; exact congrArg Nat.succ (ih h4)
                              · cases h
                            · cases h
                        have := (l1 e2).trans ((l2 e1).trans (l3 h1))
                        unfold rngIF at h3
                        split at h3
                        · simp at this
                        · simp at this
                        · simp at this
                        · cases h3
                      · cases ee
                    · cases ee
                  · cases ee
theorem pi_enumB (ok : CxOk g M C d N nf X) {a : E} {a' : Expr} {x : Str} {p r q : Pos} {elts : List Expr} {kk : Nat} (hx : x = Str.ofString "enumerate") (gx : glB X.env.scope x = true) (fx : x ∈ nf.free) (ns : nstar a' = true) (h : PE X a' (tEv g M C a)) :
    PI X (.Tuple elts kk q) (.Call (.Name x p) [a'] [] r) (tIt g M C (.enum a)) := by
  subst hx
  obtain ⟨h1, h2, h3⟩ := glB_ok gx
  have := pi_enumT (p := p) (pos := r) (tpos := q) (elts := elts) (kk := kk) h1 (ok.free _ fx) (pa_cons h pa_nil (star_cons ns _ _)) (star_cons ns _ _)
  refine ⟨fun pins s σ H R I ⟨F, env, y, env', xs, l, Rp, ee, ew, k⟩ => this.run pins s σ H R I ?_⟩
  simp only [ev] at ee
  split at ee
  · rename_i y1 env1 h1
    split at ee
    · rename_i ys h2
      cases ee
      cases ew
      refine ⟨F, env, y1, _, Rp, h1, ok_d h2, fun v F1 H1 x1 R1 hv => ?_⟩
      obtain ⟨b, vs, rfl, l', n, q⟩ := src_ok R1 hv h2 rfl (fun i hi => hi)
      rcases q with ⟨_, q⟩ | ⟨q, _⟩
      · exact ⟨b, vs, rfl, .inl ⟨SqL.of q, k _ F1 H1 x1 R1 fun O0 hO => (let ⟨z1, z2⟩ := olds Rp x1 (ev_rel a h1) R1 hO; wlk_enum X.K z1 q l' fun h => n _ (z2 b h) rfl)⟩⟩
      · cases q
    · rename_i ys h2
      cases ee
      cases ew
      refine ⟨F, env, y1, _, Rp, h1, ok_d h2, fun v F1 H1 x1 R1 hv => ?_⟩
      obtain ⟨b, vs, rfl, l', n, q⟩ := src_ok R1 hv h2 rfl (fun i hi => hi)
      rcases q with ⟨q, _⟩ | ⟨_, q⟩
      · cases q
      · exact ⟨b, vs, rfl, .inr ⟨SqT.of q, k _ F1 H1 x1 R1 fun O0 hO => (let ⟨z1, z2⟩ := olds Rp x1 (ev_rel a h1) R1 hO; wlk_enumT X.K z1 q l' fun h => n _ (z2 b h) rfl)⟩⟩
    · cases ee
  · cases ee
theorem pi_zipB (ok : CxOk g M C d N nf X) {a b : E} {a' b' : Expr} {x : Str} {p r q : Pos} {elts : List Expr} {kk : Nat} (hx : x = Str.ofString "zip") (gx : glB X.env.scope x = true) (fx : x ∈ nf.free) (ns : nstar a' = true) (ns' : nstar b' = true) (h : PE X a' (tEv g M C a)) (h' : PE X b' (tEv g M C b)) :
    PI X (.Tuple elts kk q) (.Call (.Name x p) [a', b'] [] r) (tIt g M C (.zip a b)) := by
  subst hx
  obtain ⟨h1, h2, h3⟩ := glB_ok gx
  have := RZ.pi_zipA (p := p) (pos := r) (tpos := q) (elts := elts) (kk := kk) h1 (ok.free _ fx) (pa_cons h (pa_cons h' pa_nil (star_cons ns' _ _)) (star_cons ns _ _)) (star_cons ns _ _) (by rw [star_cons ns']; rfl)
  refine ⟨fun pins s σ H R I ⟨F, env, y, env', xs, l, Rp, ee, ew, k⟩ => this.run pins s σ H R I ?_⟩
  rw [show X.K = X.K from rfl]
  simp only [ev] at ee
  split at ee
  · rename_i y1 env1 h1
    split at ee
    · rename_i y2 env2 h2
      split at ee
      · rename_i us ws d1 d2
        cases ee
        cases ew
        refine two_ev (K := fun v w H2 => _) Rp h1 h2 (ok_d d1) (ok_d d2) fun v w F1 H1 x1 R1 hv hw => ?_
        obtain ⟨a1, vs, rfl, l1, n1, q1⟩ := src_ok (l := y1.slot ++ y2.slot) R1 hv d1 rfl (fun i hi => List.mem_append_left _ hi)
        obtain ⟨a2, vs2, rfl, l2, n2, q2⟩ := src_ok (l := y1.slot ++ y2.slot) R1 hw d2 rfl (fun i hi => List.mem_append_right _ hi)
        rcases q1 with ⟨_, q1⟩ | ⟨q1, _⟩
        · rcases q2 with ⟨_, q2⟩ | ⟨q2, _⟩
          · exact ⟨a1, a2, vs, vs2, rfl, .inl ⟨SqL.of q1, SqL.of q2, k _ F1 H1 x1 R1 fun O0 hO => (let ⟨z1, z2⟩ := olds Rp x1 ((ev_rel a h1).trans (ev_rel b h2)) R1 hO; wlk_zip X.K z1 q1 l1 (fun h => n1 _ (z2 a1 h) rfl) q2 l2 fun h => n2 _ (z2 a2 h) rfl)⟩⟩
          · cases q2
        · cases q1
      · rename_i us ws d1 d2
        cases ee
        cases ew
        refine two_ev (K := fun v w H2 => _) Rp h1 h2 (ok_d d1) (ok_d d2) fun v w F1 H1 x1 R1 hv hw => ?_
        obtain ⟨a1, vs, rfl, l1, n1, q1⟩ := src_ok (l := y1.slot ++ y2.slot) R1 hv d1 rfl (fun i hi => List.mem_append_left _ hi)
        obtain ⟨a2, vs2, rfl, l2, n2, q2⟩ := src_ok (l := y1.slot ++ y2.slot) R1 hw d2 rfl (fun i hi => List.mem_append_right _ hi)
        rcases q1 with ⟨q1, _⟩ | ⟨_, q1⟩
        · cases q1
        · rcases q2 with ⟨q2, _⟩ | ⟨_, q2⟩
          · cases q2
          · exact ⟨a1, a2, vs, vs2, rfl, .inr ⟨SqT.of q1, SqT.of q2, k _ F1 H1 x1 R1 fun O0 hO => (let ⟨z1, z2⟩ := olds Rp x1 ((ev_rel a h1).trans (ev_rel b h2)) R1 hO; wlk_zipT X.K z1 q1 l1 (fun h => n1 _ (z2 a1 h) rfl) q2 l2 fun h => n2 _ (z2 a2 h) rfl)⟩⟩
      · cases ee
    · cases ee
  · cases ee
end
end L2.Pz
set_option Elab.async false
set_option linter.all false
set_option maxRecDepth 100000
set_option maxHeartbeats 4000000
namespace L2.Pz
set_option autoImplicit false
open PySem PySem.Spec PyProof.Rows L2

/-! ## Pz14: stores, targets, wiped slots -/
section
variable {g : Gw} {M : Nat → List Md} {C : Cl} {d : Nat} {N : List Str} {nf : Nf} {X : Cx} {F F0 F' : Ad} {H H0 H' : Hp} {σ : St} {env env' : En} {O0 N0 : Ad} {o : Opd} {v : V} {p : PV} {a : Addr} {i : Nat} {f : Bool}
/-- a value is stored at a name -/
theorem rep_store (R : Rep g F H σ env) (h : HeldO g F H σ env N0 (.vl p f) v) : Rep g F H (σ.set i (some v)) (env.set i (some ⟨p, kd f⟩)) := by
  have hlen : (σ.set i (some v)).length = (env.set i (some ⟨p, kd f⟩)).length := by rw [List.length_set, List.length_set]; exact R.len
  refine ⟨hlen, fun j s e => ?_, fun j k x s b hjk e1 k1 e2 k2 es ej => ?_, R.dom⟩
  · rcases set_get e with ⟨rfl, q⟩ | ⟨n, e⟩
    · cases q
      have hl : i < σ.length := by have := lt_of_some e; rw [List.length_set, ← R.len] at this; exact this
      refine ⟨v, by rw [List.getElem?_set_self hl], ?_⟩
      cases f with
      | false => exact h
      | true => obtain ⟨a, ev, na, c, _, _⟩ := h; exact ⟨a, ev, na, c⟩
    · obtain ⟨w, ew, r⟩ := R.slot j s e
      exact ⟨w, by rw [List.getElem?_set_ne n]; exact ew, r⟩
  · have es' : (i = j ∧ V.ref b = v) ∨ (i ≠ j ∧ σ[j]? = some (some (.ref b))) := by
      rcases set_get es with ⟨q, z⟩ | z
      · cases z; exact .inl ⟨q, rfl⟩
      · exact .inr z
    have ej' : (i = k ∧ V.ref b = v) ∨ (i ≠ k ∧ σ[k]? = some (some (.ref b))) := by
      rcases set_get ej with ⟨q, z⟩ | z
      · cases z; exact .inl ⟨q, rfl⟩
      · exact .inr z
    rcases set_get e1 with ⟨rfl, q⟩ | ⟨n1, f1⟩
    · cases q
      rcases es' with ⟨_, rfl⟩ | ⟨z, _⟩
      · cases f with
        | false => cases k1
        | true =>
          obtain ⟨a, ev, na, c, _, aw⟩ := h
          cases ev
          rcases set_get e2 with ⟨z, _⟩ | ⟨_, e2⟩
          · exact (hjk z).elim
          · rcases ej' with ⟨z, _⟩ | ⟨_, ej⟩
            · exact (hjk z).elim
            · exact aw k s e2 k2 ej
      · exact (z rfl).elim
    · rcases es' with ⟨z, _⟩ | ⟨_, fs⟩
      · exact (n1 z).elim
      · rcases set_get e2 with ⟨rfl, q⟩ | ⟨n2, e2⟩
        · cases q
          rcases ej' with ⟨_, rfl⟩ | ⟨z, _⟩
          · cases f with
            | false => exact h
            | true =>
              obtain ⟨a, ev, na, c, _, aw⟩ := h
              cases ev
              obtain ⟨b', eb, nb, c'⟩ := R.exc f1 k1
              rw [fs] at eb; cases eb
              exact (na (c'.inF (aw j x f1 (by intro z; rw [z] at k1; cases k1) fs))).elim
          · exact (z rfl).elim
        · rcases ej' with ⟨z, _⟩ | ⟨_, ej⟩
          · exact (n2 z).elim
          · exact R.sep j k x s b hjk f1 k1 e2 k2 fs ej
theorem own_store (h : Own (σ.set i (some v)) (env.set i (some ⟨p, kd f⟩)) a) : (f = true ∧ v = .ref a) ∨ Own σ env a := by
  obtain ⟨j, x, e, es⟩ := h
  rcases set_get e with ⟨rfl, q⟩ | ⟨n, e⟩
  · cases f with
    | false => cases q
    | true =>
      rcases set_get es with ⟨_, z⟩ | ⟨z, _⟩
      · cases z; exact .inl ⟨rfl, rfl⟩
      · exact (z rfl).elim
  · rw [List.getElem?_set_ne n] at es
    exact .inr ⟨j, x, e, es⟩
theorem Away.storeF (aw : Away g F H σ env a) : Away g F H (σ.set i (some v)) (env.set i (some ⟨p, .fz⟩)) a := by
  intro j s e k es
  rcases set_get e with ⟨rfl, q⟩ | ⟨n, e⟩
  · cases q; exact (k rfl).elim
  · rw [List.getElem?_set_ne n] at es
    exact aw j s e k es
theorem store_eq {pm : List Nat} (e : store pm i p f env = some env') : env' = env.set i (some ⟨p, kd f⟩) ∧ i ∉ pm ∧ (∀ q, env[i]? ≠ some (some ⟨q, .lk⟩)) ∧ i < env.length := by
  unfold store at e
  split at e
  · cases e
  · rename_i hp
    split at e
    · cases e
    · rename_i h2 h1
      cases e
      exact ⟨rfl, fun z => hp (by simpa using z), fun q z => (by rw [z] at h1; cases h1; exact h2 q rfl), lt_of_some h1⟩
    · cases e
/-- several frozen stores -/
def setL (σ : St) : List Nat → List V → St
  | i :: is, v :: vs => setL (σ.set i (some v)) is vs
  | _, _ => σ
theorem stores_ok {pm : List Nat} : ∀ {is : List Nat} {ps : List PV} {vs : List V} {σ : St} {env env' : En}, Rep g F H σ env → stores pm is ps env = some env' → RepL g F H ps vs →
    Rep g F H (setL σ is vs) env' ∧ (∀ a, Own (setL σ is vs) env' a → Own σ env a) ∧ (∀ a, Away g F H σ env a → Away g F H (setL σ is vs) env' a) ∧ (∀ vs' : List Nat, (∀ i ∈ is, i ∈ vs') → ∀ j, j ∉ vs' → (setL σ is vs)[j]? = σ[j]?) ∧ vs.length = is.length ∧ (setL σ is vs).length = σ.length
  | [], [], _, σ, env, _, R, e, .nil => by cases e; exact ⟨R, fun _ h => h, fun _ h => h, fun _ _ _ _ => rfl, rfl, rfl⟩
  | i :: is, q :: ps, _, σ, env, _, R, e, .cons (v := v) (vs := vs) r l => by
    unfold stores at e
    split at e
    · rename_i env1 h1
      obtain ⟨rfl, _⟩ := store_eq h1
      have R1 : Rep g F H (σ.set i (some v)) (env.set i (some ⟨q, kd false⟩)) := rep_store (N0 := fun _ => True) (f := false) R r
      obtain ⟨R2, o2, a2, g2, l2, l3⟩ := stores_ok R1 e l
      refine ⟨R2, fun a h => ?_, fun a h => a2 a h.storeF, fun vs' hv j hj => ?_, by simp [l2], by show (setL (σ.set i (some v)) is vs).length = _; rw [l3, List.length_set]⟩
      · rcases own_store (o2 a h) with ⟨z, _⟩ | z
        · cases z
        · exact z
      · show (setL (σ.set i (some v)) is vs)[j]? = _
        rw [g2 vs' (fun i hi => hv i (List.mem_cons_of_mem _ hi)) j hj, List.getElem?_set_ne fun z => hj (by rw [← z]; exact hv i (List.mem_cons_self ..))]
    · cases e
  | [], _ :: _, _, _, _, _, _, e, _ => by cases e
  | _ :: _, [], _, _, _, _, _, e, _ => by cases e
/-- a target's reading -/
def gTg : Tg → TG
  | .one i => fun v σ H Q => Q (σ.set i (some v)) H
  | .many is => fun v σ H Q => ∃ a vs, v = .ref a ∧ (H a = some (.tup vs) ∨ H a = some (.lst vs)) ∧ vs.length = is.length ∧ Q (setL σ is vs) H
theorem pgs_names (hN : X.N.Nodup) (hk : X.N = N) {Γ : Scope} (hf : ∀ x, locB Γ x = true → Loc X.env.scope x ∧ (X.fn x = true ∨ X.env.scope.names.lookup x = some .local)) : ∀ {is : List Nat} {es : List Expr}, tgB.tgsB N Γ is es = true →
    PGs X es (fun vs σ H Q => vs.length = is.length ∧ Q (setL σ is vs) H) ∧ (assignEach es X.env).length = is.length ∧ (assignEach es X.env).findIdx? (·.1) = none
  | [], [], _ => ⟨⟨fun pins s σ H vs us Q I r h => pgs_nil.run pins s σ H vs us Q I r (by
      obtain ⟨h1, h2⟩ := h
      cases vs with
      | nil => exact ⟨rfl, h2⟩
      | cons _ _ => cases h1)⟩, rfl, rfl⟩
  | [], _ :: _, h => by simp [tgB.tgsB] at h
  | _ :: _, [], h => by simp [tgB.tgsB] at h
  | i :: is, e :: es, h => by
    cases e with
    | Name x q =>
      simp only [tgB.tgsB, Bool.and_eq_true, decide_eq_true_eq] at h
      obtain ⟨ih, l, fi⟩ := pgs_names hN hk hf h.2
      have h1 : PG X (.Name x q) (gName i) := pg_name hN (by rw [hk]; exact h.1.1) (hf x h.1.2).1 (hf x h.1.2).2
      refine ⟨⟨fun pins s σ H vs us Q I r hq => (pgs_cons h1 ih).run pins s σ H vs us Q I r ?_⟩, ?_, ?_⟩
      · obtain ⟨q1, q2⟩ := hq
        cases vs with
        | nil => cases q1
        | cons v vs => exact ⟨v, vs, rfl, by simpa using q1, q2⟩
      · show (assignEach es X.env).length + 1 = is.length + 1
        rw [l]
      · show List.findIdx? _ ((false, _) :: assignEach es X.env) = none
        rw [List.findIdx?_cons, fi]
        rfl
    | _ => simp [tgB.tgsB] at h
theorem pg_tg (hc : X.calm = true) (hN : X.N.Nodup) (hk : X.N = N) {Γ : Scope} (hf : ∀ x, locB Γ x = true → Loc X.env.scope x ∧ (X.fn x = true ∨ X.env.scope.names.lookup x = some .local)) {tg : Tg} {e : Expr} (h : tgB N Γ tg e = true) : PG X e (gTg tg) := by
  cases tg with
  | one i =>
    cases e with
    | Name x q =>
      simp only [tgB, Bool.and_eq_true, decide_eq_true_eq] at h
      exact pg_name hN (by rw [hk]; exact h.1) (hf x h.2).1 (hf x h.2).2
    | _ => simp [tgB] at h
  | many is =>
    cases e with
    | Tuple es k q =>
      simp only [tgB] at h
      obtain ⟨h1, h2, h3⟩ := pgs_names hN hk hf h
      have := pg_tup (pos := q) (k := k) hc h1 h2 h3
      have that := pg_tupL (pos := q) (k := k) hc h1 h2 h3
      refine ⟨fun pins s σ H v u Q I r ⟨a, vs, e1, e2, e3, e4⟩ => ?_⟩
      rcases e2 with e2 | e2
      · exact this.run pins s σ H v u Q I r ⟨a, vs, e1, SqT.of e2, e3, e3, e4⟩
      · exact that.run pins s σ H v u Q I r ⟨a, vs, e1, SqL.of e2, e3, e3, e4⟩
    | _ => simp [tgB] at h
/-- a frozen value goes to a target -/
theorem bind_ok {pm : List Nat} {tg : Tg} {x : PV} {Q : St → Hp → Prop} (R : Rep g F H σ env) (e : bindTg pm tg x env = some env') (r : RepV g F H x v)
    (h : ∀ σ1, Rep g F H σ1 env' → (∀ a, Own σ1 env' a → Own σ env a) → (∀ a, Away g F H σ env a → Away g F H σ1 env' a) → (∀ j, j ∉ tg.slots → σ1[j]? = σ[j]?) → σ1.length = σ.length → Q σ1 H) : gTg tg v σ H Q := by
  cases tg with
  | one i =>
    obtain ⟨rfl, _⟩ := store_eq (show store pm i x false env = some env' from e)
    refine h _ (rep_store (N0 := fun _ => True) (f := false) R r) (fun a ho => ?_) (fun a aw => aw.storeF) (fun j hj => ?_) (by rw [List.length_set])
    · rcases own_store ho with ⟨z, _⟩ | z
      · cases z
      · exact z
    · rw [List.getElem?_set_ne fun z => hj (by rw [z]; exact List.mem_cons_self ..)]
  | many is =>
    simp only [bindTg] at e
    split at e
    · rename_i ps
      cases r with
      | tup fa ha l =>
        obtain ⟨R1, o1, a1, g1, l1, l2⟩ := stores_ok R e l
        exact ⟨_, _, rfl, .inl ha, l1, h _ R1 o1 a1 (g1 is fun _ z => z) l2⟩
    · cases e
theorem wipe_in {σ : St} {i : Nat} : ∀ {vs : List Nat}, i ∈ vs → i < σ.length → (wipe σ vs)[i]? = some none
  | w :: vs, h, hl => by
    unfold wipe
    by_cases q : w = i
    · subst q; rw [List.getElem?_set_self (by rw [wipe_length]; exact hl)]
    · rw [List.getElem?_set_ne q]
      rcases List.mem_cons.mp h with h | h
      · exact (q h.symm).elim
      · exact wipe_in h hl
theorem wipe_ext {σ σ' : St} {vs : List Nat} (hl : σ'.length = σ.length) (h : ∀ j, j ∉ vs → σ'[j]? = σ[j]?) : wipe σ' vs = wipe σ vs := by
  apply List.ext_getElem?
  intro j
  by_cases hj : j ∈ vs
  · by_cases hl' : j < σ.length
    · rw [wipe_in hj hl', wipe_in hj (by rw [hl]; exact hl')]
    · rw [List.getElem?_eq_none (by rw [wipe_length]; omega), List.getElem?_eq_none (by rw [wipe_length]; omega)]
  · rw [wipe_out hj, wipe_out hj, h j hj]
theorem wipe_wipe {σ : St} {vs : List Nat} : wipe (wipe σ vs) vs = wipe σ vs := wipe_ext (wipe_length σ vs) fun j hj => wipe_out hj
theorem Rep.wiped (R : Rep g F H σ env) (vs : List Nat) : Rep g F H (wipe σ vs) (wipeE env vs) := by
  refine ⟨by rw [wipe_length, wipeE_len]; exact R.len, fun i s e => ?_, fun i j x s b hij e1 k1 e2 k2 es ej => ?_, R.dom⟩
  · obtain ⟨e1, n⟩ := wipeE_get e
    obtain ⟨w, ew, r⟩ := R.slot i s e1
    exact ⟨w, by rw [wipe_out n]; exact ew, r⟩
  · exact R.sep i j x s b hij (wipeE_get e1).1 k1 (wipeE_get e2).1 k2 (wipe_some es).1 (wipe_some ej).1
theorem Own.wiped {vs : List Nat} (h : Own (wipe σ vs) (wipeE env vs) a) : Own σ env a := by
  obtain ⟨i, x, e, es⟩ := h
  exact ⟨i, x, (wipeE_get e).1, (wipe_some es).1⟩
theorem Away.wiped {vs : List Nat} (aw : Away g F H σ env a) : Away g F H (wipe σ vs) (wipeE env vs) a := fun i s e k es => aw i s (wipeE_get e).1 k (wipe_some es).1
theorem ne_nf {b : Addr} (nf : ¬ F a) (hb : F b) : b ≠ a := fun z => nf (by rw [← z]; exact hb)
/-- an object that no name has changes -/
theorem Rep.updA {u : HO} (R : Rep g F H σ env) (nf : ¬ F a) (aw : Away g F H σ env a) : Rep g F (upd H a u) σ env := by
  have up : ∀ {q : PV} {w : V}, RepV g F H q w → RepV g F (upd H a u) q w := fun r => r.mono (fun _ h => h) fun b o hb e => by rw [upd_ne (ne_nf nf hb)]; exact e
  have upC : ∀ {q : PV} {b : Addr}, b ≠ a → RepC g F H b q → RepC g F (upd H a u) b q := fun n r => r.mono (fun _ h => h) (fun b o hb e => by rw [upd_ne (ne_nf nf hb)]; exact e) fun o e => by rw [upd_ne n]; exact e
  refine ⟨R.len, fun i s e => ?_, fun i j x s b hij e1 k1 e2 k2 es ej => up (R.sep i j x s b hij e1 k1 e2 k2 es ej), fun b hb => by rw [upd_ne (ne_nf nf hb)]; exact R.dom b hb⟩
  obtain ⟨w, ew, r⟩ := R.slot i s e
  refine ⟨w, ew, ?_⟩
  obtain ⟨q, k⟩ := s
  cases k with
  | fz => exact up r
  | own =>
    obtain ⟨b, rfl, nb, c⟩ := r
    exact ⟨b, rfl, nb, upC (fun z => by subst z; exact nf (c.inF (aw i _ e (fun h => nomatch h) ew))) c⟩
  | lk =>
    obtain ⟨b, rfl, nb, c⟩ := r
    exact ⟨b, rfl, nb, upC (fun z => by subst z; exact nf (c.inF (aw i _ e (fun h => nomatch h) ew))) c⟩
  | ro =>
    rcases r with r | ⟨b, rfl, c⟩
    · exact .inl (up r)
    · by_cases z : b = a
      · subst z; exact .inl (up (aw i _ e (fun h => nomatch h) ew))
      · exact .inr ⟨b, rfl, upC z c⟩
theorem Away.updA {u : HO} (nf : ¬ F a) (aw : Away g F H σ env a) : Away g F (upd H a u) σ env a := fun i s e k es => (aw i s e k es).mono (fun _ h => h) fun b o hb e => by rw [upd_ne (ne_nf nf hb)]; exact e
/-- the own slots through a sub-environment with the same places -/
theorem EnvRel.own (er : EnvRel env env') (h : Own σ env' a) : Own σ env a := by
  obtain ⟨i, x, e, es⟩ := h
  obtain ⟨s, e0, h0⟩ := er.back e
  rcases h0 with rfl | ⟨h0, _⟩
  · exact ⟨i, x, e0, es⟩
  · obtain ⟨q, k⟩ := s
    simp only at h0
    subst h0
    exact ⟨i, q, e0, es⟩
theorem Away.lkr (aw : Away g F H σ env a) (h : LkR env env') : Away g F H σ env' a := fun i s e k es => by
  obtain ⟨s0, e0, v0, h0⟩ := h.back i s e
  have := aw i s0 e0 (by
    rcases h0 with rfl | ⟨h0, _⟩
    · exact k
    · intro z; rw [z] at h0; cases h0) es
  rw [v0] at this
  exact this
theorem away_none (R : Rep g F H σ env) (hD : H a = none) : Away g F H σ env a := fun i s e k es => by
  obtain ⟨w, ew, r⟩ := R.slot i s e
  rw [es] at ew; cases ew
  obtain ⟨q, kk⟩ := s
  cases kk with
  | fz => exact (k rfl).elim
  | own => obtain ⟨_, eb, _, c⟩ := r; cases eb; exact (c.dom hD).elim
  | lk => obtain ⟨_, eb, _, c⟩ := r; cases eb; exact (c.dom hD).elim
  | ro =>
    rcases r with r | ⟨_, eb, c⟩
    · exact r
    · cases eb; exact (c.dom hD).elim
/-- behind a block: the slots as they were, but for what was frozen meanwhile; what E holds may have changed -/
theorem blk_back {vs l : List Nat} {env1 env3 : En} {F1 F3 E : Ad} {H1 H3 : Hp} (R1 : Rep g F1 H1 σ env1) (hE : ∀ a, E a → ¬ F1 a ∧ Away g F1 H1 σ env1 a) (x : Ext F1 H1 (fun a => Own (wipe σ vs) (wipeE (lock env1 l) vs) a ∨ E a) F3 H3 (Own (wipe σ vs) env3)) (R3 : Rep g F3 H3 (wipe σ vs) env3) (er : EnvRel (wipeE (lock env1 l) vs) env3) :
    Ext F1 H1 (fun a => Own σ env1 a ∨ E a) F3 H3 (Own σ (unlock (restore env1 env3 vs) (lkOf env1 l))) ∧ Rep g F3 H3 σ (unlock (restore env1 env3 vs) (lkOf env1 l)) ∧ ∀ D, ¬ F1 D → Away g F1 H1 σ env1 D → Away g F3 H3 (wipe σ vs) env3 D → Away g F3 H3 σ (unlock (restore env1 env3 vs) (lkOf env1 l)) D := by
  have sub : ∀ a, (Own (wipe σ vs) (wipeE (lock env1 l) vs) a ∨ E a) → Own σ env1 a ∨ E a := fun a h => h.imp (fun h => h.wiped.lock) id
  have er2 := loop_rel er
  have nF : ∀ a, (Own (wipe σ vs) (wipeE (lock env1 l) vs) a ∨ E a) → ¬ F1 a := fun a h => (sub a h).elim (fun h => R1.ownF h) fun h => (hE a h).1
  have hl : env3.length = env1.length := by rw [er.len, wipeE_len, lock_len]
  have up : ∀ {q : PV} {w : V}, RepV g F1 H1 q w → RepV g F3 H3 q w := fun r => r.ext x nF
  -- an address of a wiped slot is not touched
  have noO : ∀ (i : Nat) (s : Slot) (b : Addr), i ∈ vs → env1[i]? = some (some s) → s.k ≠ .fz → σ[i]? = some (some (.ref b)) → RepC g F1 H1 b s.v → ¬ F1 b → ¬ (Own (wipe σ vs) (wipeE (lock env1 l) vs) b ∨ E b) := fun i s b hi e k es c nb h => by
    rcases h with ⟨j, y, ej, esj⟩ | h
    · obtain ⟨ej1, nj⟩ := wipeE_get ej
      have hij : j ≠ i := fun z => nj (z ▸ hi)
      exact nb (c.inF (R1.sep j i _ s b hij (lock_own ej1).1 rfl e k (wipe_some esj).1 es))
    · exact nb (c.inF ((hE b h).2 i s e k es))
  -- a slot behind
  have cases' : ∀ (i : Nat) (s : Slot), (unlock (restore env1 env3 vs) (lkOf env1 l))[i]? = some (some s) → (i ∈ vs ∧ env1[i]? = some (some s)) ∨ (i ∉ vs ∧ ∃ s3, env3[i]? = some (some s3) ∧ s3.v = s.v ∧ (s3 = s ∨ (s3.k.ex = true ∧ s.k.ex = true))) := fun i s e => by
    by_cases hi : i ∈ vs
    · left
      refine ⟨hi, ?_⟩
      obtain ⟨s0, e0, v0, h0⟩ := (unlock_lkr (restore env1 env3 vs) (lkOf env1 l)).back i s e
      have e0' := e0
      rw [restore_in hl.symm hi] at e0
      obtain ⟨u1, u2, u3⟩ := unlock_get (env := restore env1 env3 vs) (i := i) (is := lkOf env1 l)
      by_cases q : i ∈ lkOf env1 l
      · obtain ⟨_, p, hp⟩ := mem_lkOf.mp q
        rw [e0] at hp; cases hp
        have := u3 fun p z => (by rw [e0'] at z; cases z)
        rw [e, e0'] at this
        rw [e0]; exact this.symm
      · have := u1 q
        rw [e, e0'] at this
        rw [e0]; exact this.symm
    · right
      obtain ⟨s0, e0, v0, h0⟩ := (unlock_lkr (restore env1 env3 vs) (lkOf env1 l)).back i s e
      rw [restore_out hi] at e0
      exact ⟨hi, s0, e0, v0, h0⟩
  refine ⟨⟨fun b o e n => x.keep b o e fun q => n (sub b q), x.dom, x.mono, fun b h => (x.newF b h).imp id fun z => z.imp (sub b) id, fun b h => .inl (.inl (er2.own h))⟩, ⟨?_, fun i s e => ?_, fun i j y s b hij e1 k1 e2 k2 es ej => ?_, R3.dom⟩, fun D _ hD aw i s e k es => ?_⟩
  · rw [unlock_len, restore_len, hl]; exact R1.len
  · rcases cases' i s e with ⟨hi, e1⟩ | ⟨hi, s3, e3, v3, h3⟩
    · obtain ⟨w, ew, r⟩ := R1.slot i s e1
      refine ⟨w, ew, ?_⟩
      have key : ∀ b, w = .ref b → s.k ≠ .fz → RepC g F1 H1 b s.v → ¬ F1 b → RepC g F3 H3 b s.v ∧ ¬ F3 b := fun b eb k c nb => by
        subst eb
        have no := noO i s b hi e1 k ew c nb
        refine ⟨c.ext x nF no, fun h => ?_⟩
        rcases x.newF b h with h | h | h
        · exact nb h
        · exact no h
        · exact c.dom h
      obtain ⟨q, k⟩ := s
      cases k with
      | fz => exact up r
      | own =>
        obtain ⟨b, rfl, nb, c⟩ := r
        obtain ⟨c', nb'⟩ := key b rfl (fun h => nomatch h) c nb
        exact ⟨b, rfl, nb', c'⟩
      | lk =>
        obtain ⟨b, rfl, nb, c⟩ := r
        obtain ⟨c', nb'⟩ := key b rfl (fun h => nomatch h) c nb
        exact ⟨b, rfl, nb', c'⟩
      | ro =>
        rcases r with r | ⟨b, rfl, c⟩
        · exact .inl (up r)
        · by_cases nb : F1 b
          · refine .inr ⟨b, rfl, c.ext x nF fun h => nF b h nb⟩
          · exact .inr ⟨b, rfl, (key b rfl (fun h => nomatch h) c nb).1⟩
    · obtain ⟨w, ew, r⟩ := R3.slot i s3 e3
      rw [wipe_out hi] at ew
      refine ⟨w, ew, ?_⟩
      rcases h3 with rfl | ⟨h3, h3'⟩
      · exact r
      · obtain ⟨b, eb, nb, c⟩ := R3.exc e3 h3
        rw [wipe_out hi, ew] at eb; cases eb
        obtain ⟨q, k⟩ := s
        subst v3
        cases k with
        | fz => cases h3'
        | ro => cases h3'
        | own => exact ⟨b, rfl, nb, c⟩
        | lk => exact ⟨b, rfl, nb, c⟩
  · obtain ⟨y0, f1, g1⟩ := er2.back e1
    obtain ⟨s0, f2, g2⟩ := er2.back e2
    have k1' : y0.k.ex = true := by
      rcases g1 with rfl | ⟨z, _⟩
      · exact k1
      · rw [z]; rfl
    have k2' : s0.k ≠ .fz := by
      rcases g2 with rfl | ⟨z, _⟩
      · exact k2
      · rw [z]; exact fun h => nomatch h
    have r := R1.sep i j y0 s0 b hij f1 k1' f2 k2' es ej
    rcases g2 with rfl | ⟨z, _⟩
    · exact up r
    · obtain ⟨b', eb, nb, c⟩ := R1.exc f2 (by rw [z]; rfl)
      rw [ej] at eb; cases eb
      exact (nb (c.inF r)).elim
  · rcases cases' i s e with ⟨hi, e1⟩ | ⟨hi, s3, e3, v3, h3⟩
    · exact up (hD i s e1 k es)
    · have := aw i s3 e3 (by
        rcases h3 with rfl | ⟨h3, _⟩
        · exact k
        · intro z; rw [z] at h3; cases h3) (by rw [wipe_out hi]; exact es)
      rw [v3] at this
      exact this
end
end L2.Pz
set_option Elab.async false
set_option linter.all false
set_option maxRecDepth 100000
set_option maxHeartbeats 4000000
namespace L2.Pz
set_option autoImplicit false
open PySem PySem.Spec PyProof.Rows L2

/-! ## Pz15: list comprehensions -/
theorem relS_lookup (scope sc : Scope) (x : Str) : (relS scope sc).names.lookup x = (scope.names.lookup x).map fun k => if (k == .free && sc.kind == .function && sc.names.lookup x == some .cell) then .cell else k := by
  unfold relS
  simp only
  generalize scope.names = l
  induction l with
  | nil => rfl
  | cons y l ih =>
    obtain ⟨n, k⟩ := y
    simp only [List.map_cons]
    by_cases h : x = n
    · subst h
      split
      · rename_i hc
        rw [List.lookup_cons, List.lookup_cons]
        simp only [beq_self_eq_true]
        exact congrArg some (if_pos hc).symm
      · rename_i hc
        rw [List.lookup_cons, List.lookup_cons]
        simp only [beq_self_eq_true]
        exact congrArg some (if_neg hc).symm
    · have hb : (x == n) = false := beq_eq_false_iff_ne.mpr h
      split <;> (rw [List.lookup_cons, List.lookup_cons]; simp only [hb]; exact ih)
section
variable {g : Gw} {M : Nat → List Md} {C : Cl} {d : Nat} {N : List Str} {nf : Nf} {X : Cx}
theorem blk_loc {s : Shared} {H : Hp} {scope : Scope} {ce : Env} {fp : List Addr} (hce : ce.scope = relS scope X.env.scope) : ∀ x, locB scope x = true → Loc (X.blk s H scope ce fp).env.scope x ∧ ((X.blk s H scope ce fp).fn x = true ∨ (X.blk s H scope ce fp).env.scope.names.lookup x = some .local) := fun x h => by
  show Loc ce.scope x ∧ ((scope.names.lookup x == some .cell) = true ∨ ce.scope.names.lookup x = some .local)
  rw [hce]
  unfold locB at h
  unfold Loc
  rw [relS_lookup]
  split at h
  · rename_i e
    rw [e]
    exact ⟨.inl rfl, .inr rfl⟩
  · rename_i e
    rw [e]
    exact ⟨.inr rfl, .inl rfl⟩
  · cases h
theorem CxOk.blk (ok : CxOk g M C d N nf X) {s : Shared} {H : Hp} {scope : Scope} {ce : Env} {fp : List Addr} : CxOk g M C d N nf (X.blk s H scope ce fp) :=
  ⟨ok.hK, ok.hw, ok.hN, ok.calm, ok.nd, ok.room, rfl, ok.free, ok.cst, ok.fn⟩
/-- a clause's tests, by the pure meaning -/
def tIf (g : Gw) (M : Nat → List Md) (C : Cl) : List E → TT
  | [] => tYes
  | c :: _ => tTs g M C c
theorem tIf_run {ifs : List E} {σ : St} {H : Hp} {F : Ad} {env env' : En} {b : Bool} {K : Bool → Hp → Prop} (hl : ifs.length ≤ 1) (R : Rep g F H σ env) (e : evIfs M C ifs env = some (b, env')) (h : ∀ F1 H1, Ext F H (Own σ env) F1 H1 (Own σ env') → Rep g F1 H1 σ env' → K b H1) : tIf g M C ifs σ H K := by
  cases ifs with
  | nil => simp only [evIfs] at e; cases e; exact h F H .refl R
  | cons c cs =>
    cases cs with
    | cons _ _ => simp at hl
    | nil =>
      simp only [evIfs] at e
      split at e
      · rename_i x env1 h1
        split at e
        · rename_i h2; cases e; exact ⟨F, env, x, _, true, R, h1, h2, fun F1 H1 x1 R1 => h F1 H1 x1 R1⟩
        · rename_i h2; cases e; exact ⟨F, env, x, _, false, R, h1, h2, fun F1 H1 x1 R1 => h F1 H1 x1 R1⟩
        · cases e
      · cases e
theorem Ext.less {F F' : Ad} {H H' : Hp} {O O' O2 : Ad} (x : Ext F H O F' H' O') (h : ∀ a, O a → O2 a) : Ext F H O2 F' H' O' := x.wid h
theorem Ext.own' {F F' : Ad} {H H' : Hp} {O O' O2 : Ad} (x : Ext F H O F' H' O') (h : ∀ a, O2 a → O a ∨ H a = none) : Ext F H O F' H' O2 := ⟨x.keep, x.dom, x.mono, x.newF, h⟩
theorem Cons.ext2 {F0 H0 O0 F F' : _} {H : Hp} {σ : St} {env env' : En} {o : Opd} {v : V} {F6 E : Ad} {H6 : Hp} (c : Cons g F0 H0 O0 F H σ env o v F' env') (x : Ext F6 H6 E F H (Own σ env)) (h : HeldO g F H σ env (New H6 E) o v) : Ext F6 H6 E F' H (Own σ env') :=
  ⟨x.keep, x.dom, fun a ha => c.mono a (x.mono a ha), fun a ha => by
    rcases c.new a ha with q | ⟨q, z | z⟩
    · exact x.newF a q
    · obtain ⟨b, eb, _, _, nb, _⟩ := h.fresh z
      rw [q] at eb; cases eb
      exact .inr nb
    · exact .inr (x.newO a z), fun a ha => x.newO a (c.er.own ha)⟩
theorem Ext.updE {F F' E O' : Ad} {H H' : Hp} {D : Addr} {u : HO} (x : Ext F H E F' H' O') (hD : E D) : Ext F H E F' (upd H' D u) O' :=
  ⟨fun a o e n => by rw [upd_ne (fun z => n (by rw [z]; exact hD))]; exact x.keep a o e n, fun a e => by
    by_cases z : a = D
    · rw [z, upd_same] at e; cases e
    · rw [upd_ne z] at e; exact x.dom a e, x.mono, x.newF, x.newO⟩
/-- one more for the new list -/
theorem acc_step {F0 F H0 : _} {H : Hp} {σ : St} {env env' : En} {O0 : Ad} {D : Addr} {acc : List PV} {o : Opd} {v : V} {y : PV} (hD0 : H0 D = none) (R : Rep g F H σ env) (x : Ext F0 H0 O0 F H (Own σ env)) (hh : HeldO g F H σ env (New H0 O0) (.vl (.lst acc) true) (.ref D))
    (ho : HeldO g F H σ env (New H0 O0) o v) (ne : o.fr = true → v ≠ .ref D) (e : consume env o = some (y, env')) :
    ∃ F' vs, H D = some (.lst vs) ∧ vs.length = acc.length ∧ Ext F0 H0 O0 F' (upd H D (.lst (vs ++ [v]))) (Own σ env') ∧ Rep g F' (upd H D (.lst (vs ++ [v]))) σ env' ∧ EnvRel env env' ∧ HeldO g F' (upd H D (.lst (vs ++ [v]))) σ env' (New H0 O0) (.vl (.lst (acc ++ [y])) true) (.ref D) ∧
      ∀ (F6 E : Ad) (H6 : Hp), Ext F6 H6 E F H (Own σ env) → E D → HeldO g F H σ env (New H6 E) o v → Ext F6 H6 E F' (upd H D (.lst (vs ++ [v]))) (Own σ env') := by
  obtain ⟨F1, Cn, r⟩ := consume_ok R x ho e
  have hh1 := Cn.held R hh fun z _ w => ne z w.symm
  obtain ⟨D', eD, nf, c, nw, aw⟩ := hh1
  cases eD
  cases c with
  | lst eH l =>
    rename_i vs
    have R1 := Cn.rep.updA (u := .lst (vs ++ [v])) nf aw
    have x1 := Cn.ext
    have kp : ∀ b o, F1 b → H b = some o → (upd H D (.lst (vs ++ [v]))) b = some o := fun b o hb e => by rw [upd_ne (ne_nf nf hb)]; exact e
    refine ⟨F1, vs, eH, l.length.symm, ⟨fun b o e n => ?_, fun b e => ?_, x1.mono, x1.newF, x1.newO⟩, R1, Cn.er, ⟨D, rfl, nf, .lst upd_same ((l.append (.cons r .nil)).mono (fun _ h => h) kp), nw, aw.updA nf⟩, fun F6 E H6 x6 hD h6 => (Cn.ext2 x6 h6).updE hD⟩
    · have hb : b ≠ D := fun z => by rw [z, hD0] at e; cases e
      rw [upd_ne hb]; exact x1.keep b o e n
    · by_cases hb : b = D
      · rw [hb]; exact hD0
      · rw [upd_ne hb] at e; exact x1.dom b e
theorem own_ne {F : Ad} {H H0 : Hp} {σ : St} {env : En} {O0 : Ad} {o : Opd} {v : V} {D : Addr} {acc : List PV} {Fd : Ad} {Hd : Hp} {envd : En} {Nd : Ad} (Rd : Rep g Fd Hd σ envd) (hh : HeldO g Fd Hd σ envd Nd (.vl (.lst acc) true) (.ref D)) (ho : HeldO g F H σ env (New Hd (Own σ envd)) o v) : o.fr = true → v ≠ .ref D := fun f z => by
  obtain ⟨b, eb, _, _, nb, _⟩ := ho.fresh f
  rw [z] at eb; cases eb
  obtain ⟨_, eD, nf, c, _, aw⟩ := hh
  cases eD
  rcases nb with nb | nb
  · exact aw.notOwn Rd nf nb
  · exact c.dom nb
theorem own_map {is : List Nat} : (ownN N is).map (·.2) = is := by
  unfold ownN
  rw [List.map_map]
  exact List.map_id' is
theorem drop_cons {α : Type} {xs : List α} {i : Nat} {x : α} (h : xs[i]? = some x) : xs.drop i = x :: xs.drop (i + 1) := by
  obtain ⟨hl, e⟩ := List.getElem?_eq_some_iff.mp h
  rw [List.drop_eq_getElem_cons hl, e]
theorem lc_rd {tg : Tg} {it : E} {ifs : List E} {elt : E} (hl : ifs.length ≤ 1) {σ : St} {H : Hp} {Q : VK} {F : Ad} {env env' : En} {o : Opd} (R : Rep g F H σ env) (e : ev M C (.lc tg it ifs elt) env = some (o, env')) (fin : Fin g σ F H env o env' Q) :
    tLc (tIt g M C it) (gTg tg) (tIf g M C ifs) (tEv g M C elt) tg.slots σ H Q := by
  simp only [ev] at e
  split at e
  case h_2 => cases e
  rename_i x env1 h1
  split at e
  case h_2 => cases e
  rename_i xs l h2
  split at e
  case h_2 => cases e
  rename_i ys env3 h3
  split at e
  case isFalse => cases e
  rename_i hz
  cases e
  refine ⟨F, env, x, env1, xs, l, R, h1, h2, fun J F1 H1 x1 R1 wl0 D hD => ?_⟩
  have wl := wl0 (Own σ (lock env1 l)) fun a h => .inl h
  have R2 : Rep g F1 H1 (wipe σ tg.slots) (wipeE (lock env1 l) tg.slots) := (R1.lkr (lock_lkr env1 l)).wiped _
  have er3 : EnvRel (wipeE (lock env1 l) tg.slots) env3 := by
    refine lcGo_rel (a := wipeE (lock env1 l) tg.slots) (n := 0) (fun x env r env' ha ht => ?_) EnvRel.refl h3
    have hw := wipe_same ha
    split at ht
    · rename_i env3 hb
      rw [← hw] at hb ⊢
      split at ht
      · rename_i env4 h4
        split at ht
        · rename_i y env5 h5
          split at ht
          · rename_i y2 env6 h6
            cases ht
            exact turn_rel (fun i h => h) hb (((evIfs_rel ifs h4).trans (ev_rel elt h5)).trans (consume_rel h6))
          · cases ht
        · cases ht
      · rename_i env4 h4
        cases ht
        exact turn_rel (fun i h => h) hb (evIfs_rel ifs h4)
      · cases ht
    · cases ht
  generalize hturn : (fun (x : PV) (env : En) => match bindTg [] tg x env with
          | some env => match evIfs M C ifs env with
            | some (true, env) => match ev M C elt env with
              | some (y, env) => match consume env y with
                | some (y, env) => some (some y, wipeE env tg.slots)
                | none => none
              | none => none
            | some (false, env) => some ((none : Option PV), wipeE env tg.slots)
            | none => none
          | none => none) = turn at h3
  have subO : ∀ a, Own (wipe σ tg.slots) (wipeE (lock env1 l) tg.slots) a → Own σ (lock env1 l) a := fun a h => h.wiped
  refine ⟨fun i m Hi => m = xs.length - i ∧ i ≤ xs.length ∧ ∃ Fi envi acc rest, lcGo turn (xs.drop i) envi = some (rest, env3) ∧ ys = acc ++ rest ∧ Ext F1 H1 (Own (wipe σ tg.slots) (wipeE (lock env1 l) tg.slots)) Fi Hi (Own (wipe σ tg.slots) envi) ∧ Rep g Fi Hi (wipe σ tg.slots) envi ∧
      HeldO g Fi Hi (wipe σ tg.slots) envi (New H1 (Own (wipe σ tg.slots) (wipeE (lock env1 l) tg.slots))) (.vl (.lst acc) true) (.ref D), ⟨xs.length, by simp, Nat.zero_le _, F1, wipeE (lock env1 l) tg.slots, [], ys, h3, rfl, ?_, ?_, ?_⟩, ?_⟩
  · exact (AllocR.newL (g := g) hD R1.dom .nil).ext _
  · exact (AllocR.newL (g := g) hD R1.dom .nil).rep R2
  · exact (AllocR.newL (g := g) hD R1.dom .nil).held R2
  rintro i m Hi ⟨rfl, hi, Fi, envi, acc, rest, hg, hy, xi, Ri, hh⟩
  by_cases hlt : i < xs.length
  · right
    have hx : xs[i]? = some xs[i] := List.getElem?_eq_getElem hlt
    have xw := xi.wid subO
    refine ⟨wl.go _ _ _ xw i _ hx, fun H' => ∃ F' envi' acc' rest', lcGo turn (xs.drop (i + 1)) envi' = some (rest', env3) ∧ ys = acc' ++ rest' ∧ Ext F1 H1 (Own (wipe σ tg.slots) (wipeE (lock env1 l) tg.slots)) F' H' (Own (wipe σ tg.slots) envi') ∧ Rep g F' H' (wipe σ tg.slots) envi' ∧
      HeldO g F' H' (wipe σ tg.slots) envi' (New H1 (Own (wipe σ tg.slots) (wipeE (lock env1 l) tg.slots))) (.vl (.lst acc') true) (.ref D), fun H' hn => ⟨xs.length - (i + 1), by omega, rfl, hlt, hn⟩, fun v H' hyl => ?_⟩
    obtain ⟨F2, al⟩ := wl.yld _ _ _ xw i _ v H' hx hyl
    have R3 := al.rep Ri
    have hh3 := hh.ext Ri (al.ext _) .refl fun _ z => z
    have x3 := xi.tr (al.ext (Own (wipe σ tg.slots) envi))
    rw [drop_cons hx] at hg
    simp only [lcGo] at hg
    have ht : _ = turn xs[i] envi := congrFun (congrFun hturn xs[i]) envi
    rw [← ht] at hg
    cases hb : bindTg [] tg xs[i] envi with
    | none => rw [hb] at hg; cases hg
    | some enva =>
      rw [hb] at hg
      simp only at hg
      refine bind_ok R3 hb (al.val rfl) fun σ1 R4 o4 a4 g4 l4 => ?_
      have hw : wipe σ1 tg.slots = wipe σ tg.slots := by rw [wipe_ext l4 g4, wipe_wipe]
      have x4 : Ext F1 H1 (Own (wipe σ tg.slots) (wipeE (lock env1 l) tg.slots)) F2 H' (Own σ1 enva) := x3.sub o4
      have hh4 : HeldO g F2 H' σ1 enva (New H1 (Own (wipe σ tg.slots) (wipeE (lock env1 l) tg.slots))) (.vl (.lst acc) true) (.ref D) := by
        obtain ⟨_, eD, q1, q2, q3, q4⟩ := hh3
        cases eD
        exact ⟨D, rfl, q1, q2, q3, a4 _ q4⟩
      refine ⟨hw, ?_⟩
      cases hif : evIfs M C ifs enva with
      | none => rw [hif] at hg; cases hg
      | some be =>
        obtain ⟨b, envb⟩ := be
        rw [hif] at hg
        refine tIf_run hl R4 hif fun F5 H5 x5 R5 => ?_
        have hh5 := hh4.ext R4 x5 (evIfs_rel _ hif) fun _ z => z
        have x5' := x4.tr x5
        cases b with
        | false =>
          rw [if_neg Bool.false_ne_true]
          simp only at hg
          refine ⟨F5, wipeE envb tg.slots, acc, rest, hg, hy, ?_, ?_, ?_⟩
          · have := x5'.sub fun a h => Own.wiped (vs := tg.slots) h
            rw [hw] at this; exact this
          · rw [← hw]; exact R5.wiped _
          · obtain ⟨_, eD, q1, q2, q3, q4⟩ := hh5
            cases eD
            refine ⟨D, rfl, q1, q2, q3, ?_⟩
            rw [← hw]; exact q4.wiped
        | true =>
          rw [if_pos rfl]
          simp only at hg
          cases hel : ev M C elt envb with
          | none => rw [hel] at hg; cases hg
          | some oe =>
            obtain ⟨y, envc⟩ := oe
            rw [hel] at hg
            simp only at hg
            cases hco : consume envc y with
            | none => rw [hco] at hg; cases hg
            | some pe =>
              obtain ⟨py, envd⟩ := pe
              rw [hco] at hg
              simp only at hg
              split at hg
              case h_2 => cases hg
              rename_i rest' env3' hr
              cases hg
              refine ⟨F5, envb, y, envc, R5, hel, ok_c hco, fun w F6 H6 x6 R6 hw6 => ?_⟩
              have hh6 := hh5.ext R5 x6 (ev_rel _ hel) fun _ z => z
              have ne := own_ne (H0 := H6) (O0 := fun _ => True) R5 hh5 hw6
              obtain ⟨F7, vs, q1, q2, q3, q4, q5, q6, _⟩ := acc_step hD R6 (x5'.tr x6) hh6 (hw6.wid (x5'.new)) ne hco
              refine ⟨vs, q1, ?_, F7, wipeE envd tg.slots, acc ++ [py], rest', hr, ?_, ?_, ?_, ?_⟩
              · rw [q2]
                rw [hy, List.length_append, List.length_cons] at hz
                omega
              · rw [hy, List.append_assoc]; rfl
              · have := q3.sub fun a h => Own.wiped (vs := tg.slots) h
                rw [hw] at this; exact this
              · rw [← hw]; exact q4.wiped _
              · obtain ⟨_, eD, z1, z2, z3, z4⟩ := q6
                cases eD
                refine ⟨D, rfl, z1, z2, z3, ?_⟩
                rw [← hw]; exact z4.wiped
  · left
    have hi' : i = xs.length := by omega
    subst hi'
    rw [List.drop_length] at hg
    simp only [lcGo] at hg
    cases hg
    rw [List.append_nil] at hy
    subst hy
    refine ⟨wl.stop _ _ _ (xi.wid subO), ?_⟩
    obtain ⟨b1, b2, b3⟩ := blk_back (E := fun _ => False) R1 (fun _ h => h.elim) (xi.wid fun _ h => .inl h) Ri er3
    have b1 : Ext F1 H1 (Own σ env1) Fi Hi _ := b1.less fun a h => h.elim id False.elim
    obtain ⟨_, eD, q1, q2, q3, q4⟩ := hh
    cases eD
    refine fin (.ref D) Fi Hi (x1.tr b1) b2 ⟨D, rfl, q1, q2, ?_, b3 D (fun h => R1.dom D h hD) (away_none R1 hD) q4⟩
    exact .inr (x1.dom D hD)
theorem pts_if {ifs : List E} {ifs' : List Expr} (h : chkIf N nf X.env.scope ifs ifs' = true) (ih : ∀ c ∈ ifs, ∀ e, chkE N nf X.env.scope c e = true → PT X e (tTs g M C c)) : PTs X ifs' (tIf g M C ifs) ∧ ifs.length ≤ 1 := by
  cases ifs with
  | nil =>
    cases ifs' with
    | nil => exact ⟨pts_nil, Nat.zero_le _⟩
    | cons _ _ => simp [chkIf] at h
  | cons c cs =>
    cases cs with
    | cons _ _ => simp [chkIf] at h
    | nil =>
      cases ifs' with
      | nil => simp [chkIf] at h
      | cons e es =>
        cases es with
        | cons _ _ => simp [chkIf] at h
        | nil =>
          simp only [chkIf] at h
          exact ⟨pts_one (ih c (List.mem_cons_self ..) e h), Nat.le_refl _⟩
theorem fold_ok {e : Expr} (h : notSetE e = true) (env : Env) (x : Value) : foldedSetIterable e env x = pure x := by
  cases e <;> first | rfl | cases h
end
end L2.Pz
set_option Elab.async false
set_option linter.all false
set_option maxRecDepth 100000
set_option maxHeartbeats 4000000
namespace L2.Pz
set_option autoImplicit false
open PySem PySem.Spec PyProof.Rows L2

/-! ## Pz16: list comprehensions with two clauses -/
section
variable {g : Gw} {M : Nat → List Md} {C : Cl} {d : Nat} {N : List Str} {nf : Nf} {X : Cx}
variable (M C) in
abbrev turn1F (vs1 : List Nat) (tg1 : Tg) (ifs1 : List E) (elt : E) : PV → En → Option (Option PV × En) := fun z env => match bindTg [] tg1 z env with
  | some env => match evIfs M C ifs1 env with
    | some (true, env) => match ev M C elt env with
      | some (y, env) => match consume env y with
        | some (y, env) => some (some y, wipeE env vs1)
        | none => none
      | none => none
    | some (false, env) => some (none, wipeE env vs1)
    | none => none
  | none => none
theorem turn1_rel {tg1 : Tg} {ifs1 : List E} {elt : E} {a : En} {zs ys : List PV} {env3 : En} (h3 : lcGo (turn1F M C tg1.slots tg1 ifs1 elt) zs (wipeE a tg1.slots) = some (ys, env3)) : EnvRel (wipeE a tg1.slots) env3 := by
  refine lcGo_rel (a := wipeE a tg1.slots) (n := 0) (fun x env r env' ha ht => ?_) EnvRel.refl h3
  have hw := wipe_same ha
  simp only [turn1F] at ht
  split at ht
  · rename_i env3 hb
    rw [← hw] at hb ⊢
    split at ht
    · rename_i env4 h4
      split at ht
      · rename_i y env5 h5
        split at ht
        · rename_i y2 env6 h6
          cases ht
          exact turn_rel (fun i h => h) hb (((evIfs_rel ifs1 h4).trans (ev_rel elt h5)).trans (consume_rel h6))
        · cases ht
      · cases ht
    · rename_i env4 h4
      cases ht
      exact turn_rel (fun i h => h) hb (evIfs_rel ifs1 h4)
    · cases ht
  · cases ht
variable (M C) in
abbrev turn2F (tg : Tg) (ifs : List E) (tg1 : Tg) (it1 : E) (ifs1 : List E) (elt : E) : PV → En → Option (List PV × En) := fun x env => match bindTg [] tg x env with
  | some env => match evIfs M C ifs env with
    | some (true, env) => match ev M C it1 env with
      | some (x1, env) => match walkO env x1 with
        | some (zs, o1) => match lcGo (turn1F M C tg1.slots tg1 ifs1 elt) zs (wipeE (lock env o1) tg1.slots) with
          | some (ys, env') => some (ys, wipeE (unlock (restore env env' tg1.slots) (lkOf env o1)) (tg.slots ++ tg1.slots))
          | none => none
        | none => none
      | none => none
    | some (false, env) => some ([], wipeE env (tg.slots ++ tg1.slots))
    | none => none
  | none => none
theorem turn2_rel {tg tg1 : Tg} {ifs ifs1 : List E} {it1 elt : E} {a : En} {xs ys : List PV} {env3 : En} (h3 : lcGo2 (turn2F M C tg ifs tg1 it1 ifs1 elt) xs (wipeE a (tg.slots ++ tg1.slots)) = some (ys, env3)) : EnvRel (wipeE a (tg.slots ++ tg1.slots)) env3 := by
  refine lcGo2_rel (a := wipeE a (tg.slots ++ tg1.slots)) (fun x env r env' ha ht => ?_) EnvRel.refl h3
  have hw := wipe_same ha
  simp only [turn2F] at ht
  split at ht
  · rename_i env3 hb
    rw [← hw] at hb ⊢
    split at ht
    · rename_i env4 h4
      split at ht
      · rename_i x1 env5 h5
        split at ht
        · rename_i zs o1 h6
          split at ht
          · rename_i ys2 env6 h7
            cases ht
            exact turn_rel (fun i h => List.mem_append_left _ h) hb (((evIfs_rel ifs h4).trans (ev_rel it1 h5)).trans (loop_rel (turn1_rel h7)))
          · cases ht
        · cases ht
      · cases ht
    · rename_i env4 h4
      cases ht
      exact turn_rel (fun i h => List.mem_append_left _ h) hb (evIfs_rel ifs h4)
    · cases ht
  · cases ht
theorem lc2_rd {tg tg1 : Tg} {it it1 : E} {ifs ifs1 : List E} {elt : E} (hl : ifs.length ≤ 1) (hl1 : ifs1.length ≤ 1) {σ : St} {H : Hp} {Q : VK} {F : Ad} {env env' : En} {o : Opd} (R : Rep g F H σ env) (e : ev M C (.lc2 tg it ifs tg1 it1 ifs1 elt) env = some (o, env')) (fin : Fin g σ F H env o env' Q) :
    tLc2 (tIt g M C it) (gTg tg) (tIf g M C ifs) (tIt g M C it1) (gTg tg1) (tIf g M C ifs1) (tEv g M C elt) (tg.slots ++ tg1.slots) tg1.slots σ H Q := by
  simp only [ev] at e
  split at e
  case h_2 => cases e
  rename_i x env1 h1
  split at e
  case h_2 => cases e
  rename_i xs l h2
  split at e
  case h_2 => cases e
  rename_i ys env3 h3
  split at e
  case isFalse => cases e
  rename_i hz
  cases e
  have h3 : lcGo2 (turn2F M C tg ifs tg1 it1 ifs1 elt) xs (wipeE (lock env1 l) (tg.slots ++ tg1.slots)) = some (ys, env3) := h3
  refine ⟨F, env, x, env1, xs, l, R, h1, h2, fun J F1 H1 x1 R1 wl0 D hD => ?_⟩
  have wl := wl0 (Own σ (lock env1 l)) fun a h => .inl h
  have er3 := turn2_rel h3
  generalize hvs : tg.slots ++ tg1.slots = vs at h3 er3 ⊢
  have sub0 : ∀ i ∈ tg.slots, i ∈ vs := fun i h => by rw [← hvs]; exact List.mem_append_left _ h
  have sub1 : ∀ i ∈ tg1.slots, i ∈ vs := fun i h => by rw [← hvs]; exact List.mem_append_right _ h
  have R2 : Rep g F1 H1 (wipe σ vs) (wipeE (lock env1 l) vs) := (R1.lkr (lock_lkr env1 l)).wiped _
  generalize hturn : turn2F M C tg ifs tg1 it1 ifs1 elt = turn at h3
  have subO : ∀ a, Own (wipe σ vs) (wipeE (lock env1 l) vs) a → Own σ (lock env1 l) a := fun a h => h.wiped
  refine ⟨fun i m Hi => m = xs.length - i ∧ i ≤ xs.length ∧ ∃ Fi envi acc rest, lcGo2 turn (xs.drop i) envi = some (rest, env3) ∧ ys = acc ++ rest ∧ Ext F1 H1 (Own (wipe σ vs) (wipeE (lock env1 l) vs)) Fi Hi (Own (wipe σ vs) envi) ∧ Rep g Fi Hi (wipe σ vs) envi ∧
      HeldO g Fi Hi (wipe σ vs) envi (New H1 (Own (wipe σ vs) (wipeE (lock env1 l) vs))) (.vl (.lst acc) true) (.ref D), ⟨xs.length, by simp, Nat.zero_le _, F1, wipeE (lock env1 l) vs, [], ys, h3, rfl, ?_, ?_, ?_⟩, ?_⟩
  · exact (AllocR.newL (g := g) hD R1.dom .nil).ext _
  · exact (AllocR.newL (g := g) hD R1.dom .nil).rep R2
  · exact (AllocR.newL (g := g) hD R1.dom .nil).held R2
  rintro i m Hi ⟨rfl, hi, Fi, envi, acc, rest, hg, hy, xi, Ri, hh⟩
  by_cases hlt : i < xs.length
  · right
    have hx : xs[i]? = some xs[i] := List.getElem?_eq_getElem hlt
    have xw := xi.wid subO
    refine ⟨wl.go _ _ _ xw i _ hx, fun H' => ∃ F' envi' acc' rest', lcGo2 turn (xs.drop (i + 1)) envi' = some (rest', env3) ∧ ys = acc' ++ rest' ∧ Ext F1 H1 (Own (wipe σ vs) (wipeE (lock env1 l) vs)) F' H' (Own (wipe σ vs) envi') ∧ Rep g F' H' (wipe σ vs) envi' ∧
      HeldO g F' H' (wipe σ vs) envi' (New H1 (Own (wipe σ vs) (wipeE (lock env1 l) vs))) (.vl (.lst acc') true) (.ref D), fun H' hn => ⟨xs.length - (i + 1), by omega, rfl, hlt, hn⟩, fun v H' hyl => ?_⟩
    obtain ⟨F2, al⟩ := wl.yld _ _ _ xw i _ v H' hx hyl
    have R3 := al.rep Ri
    have hh3 := hh.ext Ri (al.ext _) .refl fun _ z => z
    have x3 := xi.tr (al.ext (Own (wipe σ vs) envi))
    rw [drop_cons hx] at hg
    simp only [lcGo2] at hg
    have ht : turn2F M C tg ifs tg1 it1 ifs1 elt xs[i] envi = turn xs[i] envi := congrFun (congrFun hturn xs[i]) envi
    rw [← ht] at hg
    simp only [turn2F, hvs] at hg
    cases hb : bindTg [] tg xs[i] envi with
    | none => rw [hb] at hg; cases hg
    | some enva =>
      rw [hb] at hg
      simp only at hg
      refine bind_ok R3 hb (al.val rfl) fun σ1 R4 o4 a4 g4 l4 => ?_
      have hw : wipe σ1 vs = wipe σ vs := by rw [wipe_ext l4 fun j hj => g4 j fun z => hj (sub0 j z), wipe_wipe]
      have x4 : Ext F1 H1 (Own (wipe σ vs) (wipeE (lock env1 l) vs)) F2 H' (Own σ1 enva) := x3.sub o4
      have hh4 : HeldO g F2 H' σ1 enva (New H1 (Own (wipe σ vs) (wipeE (lock env1 l) vs))) (.vl (.lst acc) true) (.ref D) := by
        obtain ⟨_, eD, q1, q2, q3, q4⟩ := hh3
        cases eD
        exact ⟨D, rfl, q1, q2, q3, a4 _ q4⟩
      refine ⟨hw, ?_⟩
      cases hif : evIfs M C ifs enva with
      | none => rw [hif] at hg; cases hg
      | some be =>
        obtain ⟨b, envb⟩ := be
        rw [hif] at hg
        refine tIf_run hl R4 hif fun F5 H5 x5 R5 => ?_
        have hh5 := hh4.ext R4 x5 (evIfs_rel _ hif) fun _ z => z
        have x5' := x4.tr x5
        -- back at the outer loop
        have back : ∀ {Fe : Ad} {He : Hp} {enve : En} {acc' rest' : List PV}, lcGo2 turn (xs.drop (i + 1)) (wipeE enve vs) = some (rest', env3) → ys = acc' ++ rest' → Ext F1 H1 (Own (wipe σ vs) (wipeE (lock env1 l) vs)) Fe He (Own σ1 enve) → Rep g Fe He σ1 enve →
            HeldO g Fe He σ1 enve (New H1 (Own (wipe σ vs) (wipeE (lock env1 l) vs))) (.vl (.lst acc') true) (.ref D) → ∃ F' envi' acc' rest', lcGo2 turn (xs.drop (i + 1)) envi' = some (rest', env3) ∧ ys = acc' ++ rest' ∧ Ext F1 H1 (Own (wipe σ vs) (wipeE (lock env1 l) vs)) F' He (Own (wipe σ vs) envi') ∧ Rep g F' He (wipe σ vs) envi' ∧
            HeldO g F' He (wipe σ vs) envi' (New H1 (Own (wipe σ vs) (wipeE (lock env1 l) vs))) (.vl (.lst acc') true) (.ref D) := by
          intro Fe He enve acc' rest' g1 g2 g3 g4 g5
          refine ⟨Fe, wipeE enve vs, acc', rest', g1, g2, ?_, ?_, ?_⟩
          · have := g3.sub fun a h => Own.wiped (vs := vs) h
            rw [hw] at this; exact this
          · rw [← hw]; exact g4.wiped _
          · obtain ⟨_, eD, q1, q2, q3, q4⟩ := g5
            cases eD
            refine ⟨D, rfl, q1, q2, q3, ?_⟩
            rw [← hw]; exact q4.wiped
        cases b with
        | false =>
          rw [if_neg Bool.false_ne_true]
          simp only at hg
          split at hg
          case h_2 => cases hg
          rename_i rest' env3' hr
          cases hg
          exact back hr hy x5' R5 hh5
        | true =>
          rw [if_pos rfl]
          simp only at hg
          cases hi1 : ev M C it1 envb with
          | none => rw [hi1] at hg; cases hg
          | some xe =>
          obtain ⟨w1, env5⟩ := xe
          rw [hi1] at hg
          simp only at hg
          cases hwk : walkO env5 w1 with
          | none => rw [hwk] at hg; cases hg
          | some zl =>
          obtain ⟨zs0, l1⟩ := zl
          rw [hwk] at hg
          simp only at hg
          cases hlc : lcGo (turn1F M C tg1.slots tg1 ifs1 elt) zs0 (wipeE (lock env5 l1) tg1.slots) with
          | none =>
            have hlc' := hlc
            rw [hlc'] at hg; cases hg
          | some ze =>
          obtain ⟨zs, env6⟩ := ze
          have hlc' := hlc
          rw [hlc'] at hg
          simp only at hg
          split at hg
          case h_2 => cases hg
          rename_i rest' env3' hr
          cases hg
          have er6 := turn1_rel hlc
          refine ⟨F5, envb, w1, env5, zs0, l1, R5, hi1, hwk, fun J1 F6 H6 x6 R6 wl10 => ?_⟩
          have old : OldA g F5 H5 σ1 envb D := by
            obtain ⟨_, eD, q1, q2, q3, q4⟩ := hh5
            cases eD
            exact ⟨q2.dom, q1, q4⟩
          have wl1 := wl10 (fun a => Own σ1 (lock env5 l1) a ∨ a = D) fun a h => h.imp id fun z => by rw [z]; exact old
          have hh6 := hh5.ext R5 x6 (ev_rel _ hi1) fun _ z => z
          have x6' := x5'.tr x6
          have R7 : Rep g F6 H6 (wipe σ1 tg1.slots) (wipeE (lock env5 l1) tg1.slots) := (R6.lkr (lock_lkr env5 l1)).wiped _
          have subO1 : ∀ a, (Own (wipe σ1 tg1.slots) (wipeE (lock env5 l1) tg1.slots) a ∨ a = D) → (Own σ1 (lock env5 l1) a ∨ a = D) := fun a h => h.imp (fun h => h.wiped) id
          have hD6 : ¬ F6 D ∧ Away g F6 H6 σ1 env5 D := by
            obtain ⟨_, eD, q1, q2, q3, q4⟩ := hh6
            cases eD
            exact ⟨q1, q4⟩
          generalize hturn1 : turn1F M C tg1.slots tg1 ifs1 elt = turn1 at hlc
          refine ⟨fun j k Hj => k = zs0.length - j ∧ j ≤ zs0.length ∧ ∃ Fj envj acc1 rest1, lcGo turn1 (zs0.drop j) envj = some (rest1, env6) ∧ zs = acc1 ++ rest1 ∧ Ext F6 H6 (fun a => Own (wipe σ1 tg1.slots) (wipeE (lock env5 l1) tg1.slots) a ∨ a = D) Fj Hj (Own (wipe σ1 tg1.slots) envj) ∧
              Ext F1 H1 (Own (wipe σ vs) (wipeE (lock env1 l) vs)) Fj Hj (Own (wipe σ1 tg1.slots) envj) ∧ Rep g Fj Hj (wipe σ1 tg1.slots) envj ∧ HeldO g Fj Hj (wipe σ1 tg1.slots) envj (New H1 (Own (wipe σ vs) (wipeE (lock env1 l) vs))) (.vl (.lst (acc ++ acc1)) true) (.ref D),
            ⟨zs0.length, by simp, Nat.zero_le _, F6, wipeE (lock env5 l1) tg1.slots, [], zs, hlc, rfl, ?_, ?_, R7, ?_⟩, ?_⟩
          · exact Ext.refl.wid fun _ h => .inl h
          · exact x6'.sub fun a h => h.wiped.lock
          · rw [List.append_nil]
            obtain ⟨_, eD, q1, q2, q3, q4⟩ := hh6
            cases eD
            exact ⟨D, rfl, q1, q2, q3, (q4.lkr (lock_lkr env5 l1)).wiped⟩
          rintro j k Hj ⟨rfl, hj, Fj, envj, acc1, rest1, hg1, hy1, xj, xj1, Rj, hhj⟩
          by_cases hltj : j < zs0.length
          · right
            have hzj : zs0[j]? = some zs0[j] := List.getElem?_eq_getElem hltj
            have xwj := xj.wid subO1
            refine ⟨wl1.go _ _ _ xwj j _ hzj, fun H' => ∃ F' envj' acc1' rest1', lcGo turn1 (zs0.drop (j + 1)) envj' = some (rest1', env6) ∧ zs = acc1' ++ rest1' ∧ Ext F6 H6 (fun a => Own (wipe σ1 tg1.slots) (wipeE (lock env5 l1) tg1.slots) a ∨ a = D) F' H' (Own (wipe σ1 tg1.slots) envj') ∧
              Ext F1 H1 (Own (wipe σ vs) (wipeE (lock env1 l) vs)) F' H' (Own (wipe σ1 tg1.slots) envj') ∧ Rep g F' H' (wipe σ1 tg1.slots) envj' ∧ HeldO g F' H' (wipe σ1 tg1.slots) envj' (New H1 (Own (wipe σ vs) (wipeE (lock env1 l) vs))) (.vl (.lst (acc ++ acc1')) true) (.ref D),
              fun H' hn => ⟨zs0.length - (j + 1), by omega, rfl, hltj, hn⟩, fun v8 H8 hyl8 => ?_⟩
            obtain ⟨F8, al8⟩ := wl1.yld _ _ _ xwj j _ v8 H8 hzj hyl8
            have R8 := al8.rep Rj
            have hh8 := hhj.ext Rj (al8.ext _) .refl fun _ z => z
            have x8 := xj.tr (al8.ext (Own (wipe σ1 tg1.slots) envj))
            have x81 := xj1.tr (al8.ext (Own (wipe σ1 tg1.slots) envj))
            rw [drop_cons hzj] at hg1
            simp only [lcGo] at hg1
            have ht1 : turn1F M C tg1.slots tg1 ifs1 elt zs0[j] envj = turn1 zs0[j] envj := congrFun (congrFun hturn1 zs0[j]) envj
            rw [← ht1] at hg1
            simp only [turn1F] at hg1
            cases hb1 : bindTg [] tg1 zs0[j] envj with
            | none => rw [hb1] at hg1; cases hg1
            | some enva1 =>
            rw [hb1] at hg1
            simp only at hg1
            refine bind_ok R8 hb1 (al8.val rfl) fun σ2 R9 o9 a9 g9 l9 => ?_
            have hw1 : wipe σ2 tg1.slots = wipe σ1 tg1.slots := by rw [wipe_ext l9 g9, wipe_wipe]
            have x9 : Ext F6 H6 (fun a => Own (wipe σ1 tg1.slots) (wipeE (lock env5 l1) tg1.slots) a ∨ a = D) F8 H8 (Own σ2 enva1) := x8.sub o9
            have x91 : Ext F1 H1 (Own (wipe σ vs) (wipeE (lock env1 l) vs)) F8 H8 (Own σ2 enva1) := x81.sub o9
            have hh9 : HeldO g F8 H8 σ2 enva1 (New H1 (Own (wipe σ vs) (wipeE (lock env1 l) vs))) (.vl (.lst (acc ++ acc1)) true) (.ref D) := by
              obtain ⟨_, eD, q1, q2, q3, q4⟩ := hh8
              cases eD
              exact ⟨D, rfl, q1, q2, q3, a9 _ q4⟩
            refine ⟨hw1, ?_⟩
            cases hif1 : evIfs M C ifs1 enva1 with
            | none => rw [hif1] at hg1; cases hg1
            | some be1 =>
            obtain ⟨b1, envb1⟩ := be1
            rw [hif1] at hg1
            refine tIf_run hl1 R9 hif1 fun Fa Ha xa Ra => ?_
            have hha := hh9.ext R9 xa (evIfs_rel _ hif1) fun _ z => z
            have xa' := x9.tr xa
            have xa1 := x91.tr xa
            cases b1 with
            | false =>
              rw [if_neg Bool.false_ne_true]
              simp only at hg1
              refine ⟨Fa, wipeE envb1 tg1.slots, acc1, rest1, hg1, hy1, ?_, ?_, ?_, ?_⟩
              · have := xa'.sub fun a h => Own.wiped (vs := tg1.slots) h
                rw [hw1] at this; exact this
              · have := xa1.sub fun a h => Own.wiped (vs := tg1.slots) h
                rw [hw1] at this; exact this
              · rw [← hw1]; exact Ra.wiped _
              · obtain ⟨_, eD, q1, q2, q3, q4⟩ := hha
                cases eD
                refine ⟨D, rfl, q1, q2, q3, ?_⟩
                rw [← hw1]; exact q4.wiped
            | true =>
              rw [if_pos rfl]
              simp only at hg1
              cases hel : ev M C elt envb1 with
              | none => rw [hel] at hg1; cases hg1
              | some oe =>
              obtain ⟨y, envc⟩ := oe
              rw [hel] at hg1
              simp only at hg1
              cases hco : consume envc y with
              | none => rw [hco] at hg1; cases hg1
              | some pe =>
              obtain ⟨py, envd⟩ := pe
              rw [hco] at hg1
              simp only at hg1
              split at hg1
              case h_2 => cases hg1
              rename_i rest2 env62 hr1
              cases hg1
              refine ⟨Fa, envb1, y, envc, Ra, hel, ok_c hco, fun w Fb Hb xb Rb hwb => ?_⟩
              have hhb := hha.ext Ra xb (ev_rel _ hel) fun _ z => z
              have ne := own_ne (H0 := Hb) (O0 := fun _ => True) Ra hha hwb
              obtain ⟨Fc, ws, q1, q2, q3, q4, q5, q6, q7⟩ := acc_step hD Rb (xa1.tr xb) hhb (hwb.wid (xa1.new)) ne hco
              have q8 := q7 F6 _ H6 (xa'.tr xb) (.inr rfl) (hwb.wid (xa'.new))
              refine ⟨ws, q1, ?_, Fc, wipeE envd tg1.slots, acc1 ++ [py], rest2, hr1, ?_, ?_, ?_, ?_, ?_⟩
              · rw [q2]
                rw [hy, hy1] at hz
                simp only [List.length_append, List.length_cons] at hz ⊢
                omega
              · rw [hy1, List.append_assoc]; rfl
              · have := q8.sub fun a h => Own.wiped (vs := tg1.slots) h
                rw [hw1] at this; exact this
              · have := q3.sub fun a h => Own.wiped (vs := tg1.slots) h
                rw [hw1] at this; exact this
              · rw [← hw1]; exact q4.wiped _
              · obtain ⟨_, eD, z1, z2, z3, z4⟩ := q6
                cases eD
                rw [List.append_assoc] at z2
                refine ⟨D, rfl, z1, z2, z3, ?_⟩
                rw [← hw1]; exact z4.wiped
          · left
            have hj' : j = zs0.length := by omega
            subst hj'
            rw [List.drop_length] at hg1
            simp only [lcGo] at hg1
            cases hg1
            rw [List.append_nil] at hy1
            subst hy1
            refine ⟨wl1.stop _ _ _ (xj.wid subO1), ?_⟩
            obtain ⟨b1, b2, b3⟩ := blk_back (E := fun a => a = D) R6 (fun a h => by rw [h]; exact hD6) xj Rj er6
            refine back (acc' := acc ++ zs) hr (by rw [List.append_assoc]; exact hy) (xj1.own' fun a h => x6'.newO a ((loop_rel er6).own h)) b2 ?_
            obtain ⟨_, eD, q1, q2, q3, q4⟩ := hhj
            cases eD
            exact ⟨D, rfl, q1, q2, q3, b3 D hD6.1 hD6.2 q4⟩
  · left
    have hi' : i = xs.length := by omega
    subst hi'
    rw [List.drop_length] at hg
    simp only [lcGo2] at hg
    cases hg
    rw [List.append_nil] at hy
    subst hy
    refine ⟨wl.stop _ _ _ (xi.wid subO), ?_⟩
    obtain ⟨b1, b2, b3⟩ := blk_back (E := fun _ => False) R1 (fun _ h => h.elim) (xi.wid fun _ h => .inl h) Ri er3
    have b1 : Ext F1 H1 (Own σ env1) Fi Hi _ := b1.less fun a h => h.elim id False.elim
    obtain ⟨_, eD, q1, q2, q3, q4⟩ := hh
    cases eD
    rw [hvs] at fin
    refine fin (.ref D) Fi Hi (x1.tr b1) b2 ⟨D, rfl, q1, q2, ?_, b3 D (fun h => R1.dom D h hD) (away_none R1 hD) q4⟩
    exact .inr (x1.dom D hD)
end
end L2.Pz
set_option Elab.async false
set_option linter.all false
set_option maxRecDepth 100000
set_option maxHeartbeats 4000000
namespace L2.Pz
set_option autoImplicit false
open PySem PySem.Spec PyProof.Rows L2

/-! ## Pz17: methods -/
section
variable {g : Gw} {M : Nat → List Md} {C : Cl} {d : Nat} {N : List Str} {nf : Nf} {X : Cx} {F F0 F' : Ad} {H H0 H' : Hp} {σ : St} {env env' : En} {O0 N0 : Ad} {o : Opd} {v : V} {p p' : PV} {a : Addr} {i : Nat} {f : Bool}
theorem base_ok {o : Expr} (h : plainO o = true) (m : Str) (env : Env) : attributeBase o m env (eval o env) = eval o env := by
  cases o with
  | Call f as ks q =>
    cases f with
    | Name x px =>
      cases as with
      | nil => cases ks with
        | nil => cases h
        | cons _ _ => rfl
      | cons _ _ => rfl
    | _ => rfl
  | _ => rfl
/-- the one object of a name changes -/
theorem rep_own {u : HO} (R : Rep g F H σ env) (e : env[i]? = some (some ⟨p, .own⟩)) (es : σ[i]? = some (some (.ref a))) (c' : RepC g F (upd H a u) a p') :
    Rep g F (upd H a u) σ (env.set i (some ⟨p', .own⟩)) ∧ Ext F H (Own σ env) F (upd H a u) (Own σ (env.set i (some ⟨p', .own⟩))) := by
  obtain ⟨b, eb, nf, c⟩ := R.exc e rfl
  rw [es] at eb; cases eb
  have up : ∀ {q : PV} {w : V}, RepV g F H q w → RepV g F (upd H a u) q w := fun r => r.mono (fun _ h => h) fun b o hb e => by rw [upd_ne (ne_nf nf hb)]; exact e
  have upC : ∀ {q : PV} {b : Addr}, b ≠ a → RepC g F H b q → RepC g F (upd H a u) b q := fun n r => r.mono (fun _ h => h) (fun b o hb e => by rw [upd_ne (ne_nf nf hb)]; exact e) fun o e => by rw [upd_ne n]; exact e
  have er : EnvRel env (env.set i (some ⟨p', .own⟩)) := EnvRel.setFz e (.inl rfl)
  refine ⟨⟨by simpa using R.len, fun j s ej => ?_, fun j k x s b hjk e1 k1 e2 k2 ej ek => ?_, fun b hb => by rw [upd_ne (ne_nf nf hb)]; exact R.dom b hb⟩, ⟨fun b o eb n => ?_, fun b eb => ?_, fun b h => h, fun b h => .inl h, fun b h => .inl (er.own h)⟩⟩
  · rcases set_get ej with ⟨rfl, q⟩ | ⟨hij, ej⟩
    · cases q; exact ⟨_, es, a, rfl, nf, c'⟩
    · obtain ⟨w, ew, r⟩ := R.slot j s ej
      refine ⟨w, ew, ?_⟩
      have ne : ∀ b, w = .ref b → s.k ≠ .fz → RepC g F H b s.v → ¬ F b → b ≠ a := fun b eb kk c1 nb z => by
        subst z; subst eb
        exact nb (c1.inF (R.sep i j _ _ _ hij e rfl ej kk es ew))
      obtain ⟨q, k⟩ := s
      cases k with
      | fz => exact up r
      | own => obtain ⟨b, eb, nb, c1⟩ := r; exact ⟨b, eb, nb, upC (ne b eb (fun h => nomatch h) c1 nb) c1⟩
      | lk => obtain ⟨b, eb, nb, c1⟩ := r; exact ⟨b, eb, nb, upC (ne b eb (fun h => nomatch h) c1 nb) c1⟩
      | ro =>
        rcases r with r | ⟨b, eb, c1⟩
        · exact .inl (up r)
        · by_cases z : b = a
          · subst z; subst eb
            exact .inl (up (R.sep i j _ _ _ hij e rfl ej (fun h => nomatch h) es ew))
          · exact .inr ⟨b, eb, upC z c1⟩
  · obtain ⟨x0, f1, g1⟩ := er.back e1
    obtain ⟨s0, f2, g2⟩ := er.back e2
    have k1' : x0.k.ex = true := by
      rcases g1 with rfl | ⟨z, _⟩
      · exact k1
      · rw [z]; rfl
    have k2' : s0.k ≠ .fz := by
      rcases g2 with rfl | ⟨z, _⟩
      · exact k2
      · rw [z]; exact fun h => nomatch h
    have r := R.sep j k x0 s0 b hjk f1 k1' f2 k2' ej ek
    rcases g2 with rfl | ⟨z, _⟩
    · exact up r
    · obtain ⟨b', eb, nb, c⟩ := R.exc f2 (by rw [z]; rfl)
      rw [ek] at eb; cases eb
      exact (nb (c.inF r)).elim
  · rw [upd_ne fun z => n ⟨i, p, e, by rw [z]; exact es⟩]; exact eb
  · by_cases z : b = a
    · rw [z, upd_same] at eb; cases eb
    · rw [upd_ne z] at eb; exact eb
theorem kn_list {p q : PV} (h : p.kn = q.kn) {xs : List PV} (hq : q = .lst xs) (hc : ∀ ns, p ≠ .scr ns) : ∃ ys, p = .lst ys := by
  subst hq
  cases p with
  | lst ys => exact ⟨ys, rfl⟩
  | scr ns => exact (hc ns rfl).elim
  | _ => cases h
/-- the object of a name, a list, before the arguments -/
theorem mm_list {xs : List PV} {s0 : Slot} (R : Rep g F H σ env) (er : EnvRel env env') (e0 : env[i]? = some (some s0)) (e1 : env'[i]? = some (some ⟨.lst xs, .own⟩)) (k : s0.v.kn = (PV.lst xs).kn) : ∃ l vs, σ[i]? = some (some (.ref l)) ∧ H l = some (.lst vs) := by
  obtain ⟨s, f, h⟩ := er.back e1
  rw [e0] at f; cases f
  have hk : s0.k.ex = true := by
    rcases h with h | ⟨h, _⟩
    · rw [← h]; rfl
    · rw [h]; rfl
  obtain ⟨l, es, nf, c⟩ := R.exc e0 hk
  have : ∃ ys, s0.v = .lst ys := kn_list k rfl fun ns z => by rw [z] at c; cases c
  obtain ⟨ys, hy⟩ := this
  rw [hy] at c
  cases c with
  | lst eH _ => exact ⟨l, _, es, eH⟩
theorem nm_pe (ok : CxOk g M C d N nf X) {i : Nat} {x : Str} {p : Pos} (h : nmB N X.env.scope i x = true) : PE X (.Name x p) (tVar i) := by
  obtain ⟨h1, h2, h3, h4⟩ := nmB_ok h
  exact pe_var (i := i) (by rw [ok.hN]; exact h1) h2 h3 h4
theorem app_snd (ok : CxOk g M C d N nf X) {es : List E} {y : Str} {yp ap cp : Pos} {es' : List Expr} (hn : nmB N X.env.scope i y = true) (hl : es'.length = 1) (hline : (ap.endLine == cp.line) = true) (hc : chkEs N nf X.env.scope es es' = true) (h : PA X es' (tEs g M C es)) :
    PE X (.Call (.Attribute (.Name y yp) "append" ap) es' [] cp) (tEv g M C (.mm .append i es)) := by
  cases es' with
  | nil => cases hl
  | cons e' r =>
    cases r with
    | cons _ _ => cases hl
    | nil =>
      cases es with
      | nil => simp [chkEs] at hc
      | cons c cs =>
        simp only [chkEs, Bool.and_eq_true] at hc
        have st := star_cons hc.1.2 [] X.env
        refine peI (pe_bm (T := "list") (id := "list.append") F.plainAttrs_list F.slot_list_append F.type_list_append (mt_append (X := X)) (nm_pe ok hn) h rfl (by rw [st]; rfl) hline st rfl) fun σ H Q ⟨F, env, o, env', R, e, hk, fin⟩ => ?_
        simp only [ev] at e
        split at e
        case h_2 => cases e
        rename_i s0 e0
        split at e
        case h_2 => cases e
        rename_i os env1 h1
        split at e
        case h_2 => cases e
        rename_i ps env2 h2
        split at e
        case h_2 => cases e
        rename_i p e2
        split at e
        case isFalse => cases e
        rename_i hkn
        split at e
        case h_2 => cases e
        rename_i p2 r h3
        cases e
        simp only [mutF, appendF] at h3
        split at h3
        case h_2 => cases h3
        rename_i xs yv
        split at h3
        case isFalse => cases h3
        rename_i hz
        cases h3
        have er := (evs_rel _ h1).trans (consumes_rel h2)
        obtain ⟨l, vs0, es0, eH0⟩ := mm_list R er e0 e2 hkn
        refine ⟨.ref l, es0, .inl ⟨rfl, vs0, SqL.of eH0⟩, F, env, os, env1, R, h1, ok_cs h2, fun vs F1 H1 x1 R1 hl1 => ?_⟩
        obtain ⟨F2, m2, x2, R2, _, l2⟩ := consumes_ok R1 x1 hl1 h2
        obtain ⟨l', es', nf', c'⟩ := R2.exc e2 rfl
        rw [es0] at es'; cases es'
        cases c' with
        | lst eH lv =>
          rename_i us
          cases l2 with
          | cons r1 r2 =>
            cases r2
            rename_i w
            have kp : ∀ b o, F2 b → H1 b = some o → (upd H1 l (.lst (us ++ [w]))) b = some o := fun b o hb e => by rw [upd_ne (ne_nf nf' hb)]; exact e
            obtain ⟨R3, x3⟩ := rep_own (u := .lst (us ++ [w])) R2 e2 es0 (.lst upd_same ((lv.append (.cons r1 .nil)).mono (fun _ h => h) kp))
            exact ⟨l, us, w, rfl, rfl, eH, by rw [← lv.length]; exact hz, fin.val (x2.tr x3) R3 .non⟩
theorem RepL.dropLast : ∀ {xs : List PV} {vs : List V}, RepL g F H xs vs → RepL g F H xs.dropLast vs.dropLast
  | _, _, .nil => .nil
  | _, _, .cons a .nil => .nil
  | _, _, .cons a (.cons b c) => .cons a (RepL.dropLast (.cons b c))
theorem RepL.eraseIdx : ∀ {xs : List PV} {vs : List V} (n : Nat), RepL g F H xs vs → RepL g F H (xs.eraseIdx n) (vs.eraseIdx n)
  | _, _, _, .nil => .nil
  | _, _, 0, .cons _ b => b
  | _, _, n + 1, .cons a b => .cons a (b.eraseIdx n)
theorem pop_snd (ok : CxOk g M C d N nf X) {es : List E} {y : Str} {yp ap cp : Pos} {es' : List Expr} (hn : nmB N X.env.scope i y = true) (hl : es'.length ≤ 1) (hline : (ap.endLine == cp.line) = true) (hc : chkEs N nf X.env.scope es es' = true) (h : PA X es' (tEs g M C es)) :
    PE X (.Call (.Attribute (.Name y yp) "pop" ap) es' [] cp) (tEv g M C (.mm .pop i es)) := by
  have key : ∀ {σ : St} {H : Hp} {Q : VK}, tEv g M C (.mm .pop i es) σ H Q → ∃ l vs0, σ[i]? = some (some (.ref l)) ∧ H l = some (.lst vs0) ∧ tEs g M C es σ H fun vs H1 => ∃ us w, H1 l = some (.lst us) ∧
      ((vs = [] ∧ us[us.length - 1]? = some w ∧ Q w (upd H1 l (.lst us.dropLast))) ∨ (∃ (j : Int) (k : Nat), vs = [.int j] ∧ -(2 ^ 63) ≤ j ∧ j < 2 ^ 63 ∧ seqIndex? j us.length = some k ∧ us[k]? = some w ∧ Q w (upd H1 l (.lst (us.eraseIdx k))))) := by
    rintro σ H Q ⟨F, env, o, env', R, e, hk, fin⟩
    simp only [ev] at e
    split at e
    case h_2 => cases e
    rename_i s0 e0
    split at e
    case h_2 => cases e
    rename_i os env1 h1
    split at e
    case h_2 => cases e
    rename_i ps env2 h2
    split at e
    case h_2 => cases e
    rename_i p e2
    split at e
    case isFalse => cases e
    rename_i hkn
    split at e
    case h_2 => cases e
    rename_i p2 r h3
    cases e
    have er := (evs_rel _ h1).trans (consumes_rel h2)
    simp only [mutF, popF] at h3
    split at h3
    · rename_i xs
      split at h3
      case h_2 => cases h3
      rename_i yv hy
      cases h3
      obtain ⟨l, vs0, es0, eH0⟩ := mm_list R er e0 e2 hkn
      refine ⟨l, vs0, es0, eH0, F, env, os, env1, R, h1, ok_cs h2, fun vs F1 H1 x1 R1 hl1 => ?_⟩
      obtain ⟨F2, m2, x2, R2, _, l2⟩ := consumes_ok R1 x1 hl1 h2
      obtain ⟨l', es', nf', c'⟩ := R2.exc e2 rfl
      rw [es0] at es'; cases es'
      cases c' with
      | lst eH lv =>
        rename_i us
        cases l2
        have kp : ∀ b o, F2 b → H1 b = some o → (upd H1 l (.lst us.dropLast)) b = some o := fun b o hb e => by rw [upd_ne (ne_nf nf' hb)]; exact e
        obtain ⟨R3, x3⟩ := rep_own (u := .lst us.dropLast) R2 e2 es0 (.lst upd_same (lv.dropLast.mono (fun _ h => h) kp))
        rw [List.getLast?_eq_getElem?] at hy
        obtain ⟨w, hw, rw'⟩ := lv.get hy
        exact ⟨us, w, eH, .inl ⟨rfl, by rw [← lv.length]; exact hw, fin.val (x2.tr x3) R3 (rw'.mono (fun _ h => h) kp)⟩⟩
    · rename_i xs j
      split at h3
      case isFalse => cases h3
      rename_i hb
      split at h3
      case h_2 => cases h3
      rename_i k hk1
      split at h3
      case h_2 => cases h3
      rename_i yv hy
      cases h3
      obtain ⟨l, vs0, es0, eH0⟩ := mm_list R er e0 e2 hkn
      refine ⟨l, vs0, es0, eH0, F, env, os, env1, R, h1, ok_cs h2, fun vs F1 H1 x1 R1 hl1 => ?_⟩
      obtain ⟨F2, m2, x2, R2, _, l2⟩ := consumes_ok R1 x1 hl1 h2
      obtain ⟨l', es', nf', c'⟩ := R2.exc e2 rfl
      rw [es0] at es'; cases es'
      cases c' with
      | lst eH lv =>
        rename_i us
        cases l2 with
        | cons r1 r2 =>
          cases r2
          cases r1
          have kp : ∀ b o, F2 b → H1 b = some o → (upd H1 l (.lst (us.eraseIdx k))) b = some o := fun b o hb e => by rw [upd_ne (ne_nf nf' hb)]; exact e
          obtain ⟨R3, x3⟩ := rep_own (u := .lst (us.eraseIdx k)) R2 e2 es0 (.lst upd_same ((lv.eraseIdx k).mono (fun _ h => h) kp))
          obtain ⟨w, hw, rw'⟩ := lv.get hy
          unfold inB at hb
          simp only [Bool.and_eq_true, decide_eq_true_eq] at hb
          exact ⟨us, w, eH, .inr ⟨j, k, rfl, by omega, by omega, by rw [← lv.length]; exact (ixN_seq hk1).1, hw, fin.val (x2.tr x3) R3 (rw'.mono (fun _ h => h) kp)⟩⟩
    · cases h3
  cases es' with
  | nil =>
    cases es with
    | cons _ _ => simp [chkEs] at hc
    | nil =>
      refine peI (pe_bm0 (T := "list") (id := "list.pop") F.plainAttrs_list F.slot_list_pop F.type_list_pop (mt_pop (X := X)) (nm_pe ok hn) rfl hline) fun σ H Q q => ?_
      obtain ⟨l, vs0, es0, eH0, q⟩ := key q
      obtain ⟨us, w, q1, q2⟩ := tEs_nil q
      refine ⟨.ref l, es0, .inl ⟨rfl, vs0, SqL.of eH0⟩, l, us, w, rfl, rfl, q1, ?_⟩
      rcases q2 with ⟨_, q2, q3⟩ | ⟨j, k, q2, _⟩
      · exact ⟨q2, q3⟩
      · cases q2
  | cons e' r =>
    cases r with
    | cons _ _ => simp at hl
    | nil =>
      cases es with
      | nil => simp [chkEs] at hc
      | cons c cs =>
        simp only [chkEs, Bool.and_eq_true] at hc
        have cn : cs = [] := by
          cases cs with
          | nil => rfl
          | cons _ _ => simp [chkEs] at hc
        have st := star_cons hc.1.2 [] X.env
        refine peI (pe_bm (T := "list") (id := "list.pop") F.plainAttrs_list F.slot_list_pop F.type_list_pop (mt_popAt (X := X)) (nm_pe ok hn) h rfl (by rw [st]; rfl) hline st rfl) fun σ H Q q => ?_
        obtain ⟨l, vs0, es0, eH0, F, env, os, env1, R, h1, h2, q⟩ := key q
        refine ⟨.ref l, es0, .inl ⟨rfl, vs0, SqL.of eH0⟩, F, env, os, env1, R, h1, h2, fun vs F1 H1 x1 R1 hl1 => ?_⟩
        obtain ⟨us, w, q1, q2⟩ := q vs F1 H1 x1 R1 hl1
        rcases q2 with ⟨q2, _⟩ | ⟨j, k, q2, q3, q4, q5, q6, q7⟩
        · subst q2
          subst cn
          have := hl1.length
          simp only [evs] at h1
          split at h1
          · cases h1; simp at this
          · cases h1
        · exact ⟨l, us, j, k, w, rfl, q2, q1, q3, q4, q5, q6, q7⟩
/-- what a dict answers, with a value for what is not there -/
theorem get_val {x y z : V} {d k q r : PV} {kk : Option Key} (hd : Peek g F H d x) (hk : Peek g F H k y) (hz : RepV g F H q z) (e : (match d with
    | .dk kvs => (toKey k).map fun k => (lookP kvs k).getD q
    | .dt kvs => match k with
      | .tup k => (toKeys k).map fun k => (lookP kvs k).getD q
      | _ => none
    | _ => none) = some r) : ∃ a o, x = .ref a ∧ DGet H a y o ∧ RepV g F H r (o.getD z) := by
  cases d with
  | dk kvs =>
    obtain ⟨kk, ek, rfl⟩ := Option.map_eq_some_iff.mp e
    obtain ⟨a, o, rfl, h1, h2, h3⟩ := dget hd hk rfl ek
    refine ⟨a, o, rfl, h1, ?_⟩
    cases q1 : lookP kvs kk with
    | some w => obtain ⟨v, rfl, rv⟩ := h2 w q1; exact rv
    | none =>
      rw [q1] at h3
      cases o with
      | none => exact hz
      | some _ => cases h3
  | dt kvs =>
    cases k with
    | tup ks =>
      obtain ⟨kk, ek, rfl⟩ := Option.map_eq_some_iff.mp e
      obtain ⟨a, o, rfl, h1, h2, h3⟩ := dgetT hd hk rfl ek
      refine ⟨a, o, rfl, h1, ?_⟩
      cases q1 : lookP kvs kk with
      | some w => obtain ⟨v, rfl, rv⟩ := h2 w q1; exact rv
      | none =>
        rw [q1] at h3
        cases o with
        | none => exact hz
        | some _ => cases h3
    | _ => cases e
  | _ => cases e
theorem isD_of {x : V} {p0 p : PV} (h : Peek g F H p0 x) (k : p0.kn = p.kn) (hp : p.kn = some .dict) : ∃ a, x = .ref a ∧ IsD H a := by
  rw [hp] at k
  cases p0 with
  | dk kvs => obtain ⟨a, vs, rfl, ea, _⟩ := h.dk; exact ⟨a, rfl, .inl ⟨vs, .inl ea⟩⟩
  | dt kvs => obtain ⟨a, vs, rfl, ea, _⟩ := h.dt; exact ⟨a, rfl, .inr ⟨vs, .inl ea⟩⟩
  | _ => cases k
theorem get_snd (ok : CxOk g M C d N nf X) {c : E} {es : List E} {o' : Expr} {ap cp : Pos} {e' : Expr} {es' : List Expr} (ho : PE X o' (tEv g M C c)) (hp : plainO o' = true) (hl : es'.length < 2) (hline : (ap.endLine == cp.line) = true) (hc : chkEs N nf X.env.scope es (e' :: es') = true) (ih : ∀ c ∈ es, ∀ e, chkE N nf X.env.scope c e = true → PE X e (tEv g M C c)) :
    PE X (.Call (.Attribute o' "get" ap) (e' :: es') [] cp) (tEv g M C (.met .get c es)) := by
  cases es with
  | nil => simp [chkEs] at hc
  | cons c1 cs =>
    simp only [chkEs, Bool.and_eq_true] at hc
    cases es' with
    | nil =>
      have cn : cs = [] := by
        cases cs with
        | nil => rfl
        | cons _ _ => simp [chkEs] at hc
      subst cn
      have st := star_cons hc.1.2 [] X.env
      refine peI (pe_dget1 (by have := ok.line; omega) ho (ih c1 (List.mem_cons_self ..) e' hc.1.1) ⟨base_ok hp _ _, by rw [st]; rfl, hline, by rw [st]; rfl⟩) fun σ H Q ⟨F, env, o, env', R, e, hk, fin⟩ => ?_
      simp only [ev] at e
      split at e
      case h_2 => cases e
      rename_i x env1 h1
      split at e
      case h_2 => cases e
      rename_i p0 h2
      split at e
      case h_2 => cases e
      rename_i os env2 h3
      simp only [evs] at h3
      split at h3
      case h_2 => cases h3
      rename_i y env3 h4
      simp only [Option.some.injEq, Prod.mk.injEq] at h3
      obtain ⟨rfl, rfl⟩ := h3
      split at e
      case h_2 => cases e
      rename_i p ps h5 h6
      split at e
      case isFalse => cases e
      rename_i hkn
      split at e
      case h_2 => cases e
      rename_i r f h7
      cases e
      simp only [derefs] at h6
      cases h8 : deref env' y with
      | none => rw [h8] at h6; cases h6
      | some q =>
        rw [h8] at h6
        cases h6
        simp only [metF] at h7
        have hpk : p.kn = some .dict := by
          unfold getF at h7
          split at h7 <;> first | rfl | cases h7
        have hf : f = false := by
          unfold getF at h7
          split at h7 <;> first | (obtain ⟨_, _, z⟩ := Option.map_eq_some_iff.mp h7; cases z; rfl) | cases h7 | (split at h7 <;> first | (obtain ⟨_, _, z⟩ := Option.map_eq_some_iff.mp h7; cases z; rfl) | cases h7)
        subst hf
        refine ⟨F, env, x, env1, R, h1, ok_d h2, fun v F1 H1 x1 R1 hv => ?_⟩
        obtain ⟨a, rfl, hd⟩ := isD_of (hv.peek R1 h2) hkn hpk
        refine ⟨a, rfl, hd, F1, env1, y, _, R1, h4, ok_d h8, fun w F2 H2 x2 R2 hw => ?_⟩
        have pd := (hv.ext R1 x2 (ev_rel _ h4) fun _ z => z).peek R2 h5
        have pk := hw.peek R2 h8
        obtain ⟨a', o, ea, q1, q2⟩ := get_val (kk := none) (q := .non) (r := r) pd pk .non (by
          unfold getF at h7
          split at h7 <;> rename_i heq <;> try (cases heq)
          · obtain ⟨kk, z1, z2⟩ := Option.map_eq_some_iff.mp h7; cases z2; simp [z1]
          · obtain ⟨kk, z1, z2⟩ := Option.map_eq_some_iff.mp h7; cases z2; simp [z1]
          · cases h7)
        cases ea
        exact ⟨o, q1, fin.val (x1.tr x2) R2 q2⟩
    | cons f' es' =>
      cases es' with
      | cons _ _ => simp only [List.length_cons] at hl; omega
      | nil =>
        cases cs with
        | nil => simp [chkEs] at hc
        | cons c2 cs =>
          have hc2 := hc.2
          simp only [chkEs, Bool.and_eq_true] at hc2
          have cn : cs = [] := by
            cases cs with
            | nil => rfl
            | cons _ _ => simp [chkEs] at hc2
          subst cn
          have st2 := star_cons hc2.1.2 [] X.env
          have st := star_cons hc.1.2 [f'] X.env
          refine peI (pe_dget2 (by have := ok.line; omega) ho (ih c1 (List.mem_cons_self ..) e' hc.1.1) (ih c2 (List.mem_cons_of_mem _ (List.mem_cons_self ..)) f' hc2.1.1) ⟨base_ok hp _ _, by rw [st, st2]; rfl, hline, by rw [st, st2]; rfl⟩) fun σ H Q ⟨F, env, o, env', R, e, hk, fin⟩ => ?_
          simp only [ev] at e
          split at e
          case h_2 => cases e
          rename_i x env1 h1
          split at e
          case h_2 => cases e
          rename_i p0 h2
          split at e
          case h_2 => cases e
          rename_i os env2 h3
          simp only [evs] at h3
          split at h3
          case h_2 => cases h3
          rename_i y env3 h4
          split at h3
          case h_2 => cases h3
          rename_i os2 env4 h9
          split at h9
          case h_2 => cases h9
          rename_i z env5 h10
          simp only [Option.some.injEq, Prod.mk.injEq] at h9
          obtain ⟨rfl, rfl⟩ := h9
          simp only [Option.some.injEq, Prod.mk.injEq] at h3
          obtain ⟨rfl, rfl⟩ := h3
          split at e
          case h_2 => cases e
          rename_i p ps h5 h6
          split at e
          case isFalse => cases e
          rename_i hkn
          split at e
          case h_2 => cases e
          rename_i r f h7
          cases e
          simp only [derefs] at h6
          cases h8 : deref env' y with
          | none => rw [h8] at h6; cases h6
          | some q =>
            cases h11 : deref env' z with
            | none => rw [h8, h11] at h6; cases h6
            | some qz =>
              rw [h8, h11] at h6
              cases h6
              simp only [metF] at h7
              have hpk : p.kn = some .dict := by
                unfold getF at h7
                split at h7 <;> first | rfl | cases h7
              have hf : f = false ∧ qz.imm = true := by
                unfold getF at h7
                split at h7 <;> rename_i heq <;> (try cases heq) <;> (try (cases h7; done))
                all_goals
                  split at h7
                  case isFalse => cases h7
                  rename_i him
                  obtain ⟨_, _, z⟩ := Option.map_eq_some_iff.mp h7
                  cases z
                  exact ⟨rfl, him⟩
              obtain ⟨rfl, him⟩ := hf
              refine ⟨F, env, x, env1, R, h1, ok_d h2, fun v F1 H1 x1 R1 hv => ?_⟩
              obtain ⟨a, rfl, hd⟩ := isD_of (hv.peek R1 h2) hkn hpk
              refine ⟨a, rfl, hd, F1, env1, y, _, R1, h4, ok_d h8, fun w F2 H2 x2 R2 hw => ?_⟩
              refine ⟨F2, _, z, _, R2, h10, ok_d h11, fun u F3 H3 x3 R3 hu => ?_⟩
              have pd := ((hv.ext R1 x2 (ev_rel _ h4) fun _ z => z).ext R2 x3 (ev_rel _ h10) fun _ z => z).peek R3 h5
              have pk := (hw.ext R2 x3 (ev_rel _ h10) fun _ z => z).peek R3 h8
              obtain ⟨a', o, ea, q1, q2⟩ := get_val (kk := none) (q := qz) (r := r) pd pk ((hu.peek R3 h11).imm him) (by
                unfold getF at h7
                split at h7 <;> rename_i heq <;> (try cases heq) <;> (try (cases h7; done))
                all_goals
                  rw [if_pos him] at h7
                  obtain ⟨kk, z1, z2⟩ := Option.map_eq_some_iff.mp h7
                  cases z2; simp [z1])
              cases ea
              exact ⟨o, q1, fin.val ((x1.tr x2).tr x3) R3 q2⟩
end
end L2.Pz
set_option Elab.async false
set_option linter.all false
set_option maxRecDepth 100000
set_option maxHeartbeats 4000000
namespace L2.Pz
set_option autoImplicit false
open PySem PySem.Spec PyProof.Rows L2

/-! ## Pz18: checked code means what the text means -/
section
variable {g : Gw} {M : Nat → List Md} {C : Cl} {d : Nat} {N : List Str} {nf : Nf}
structure SndI (g : Gw) (M : Nat → List Md) (C : Cl) (X : Cx) (c : E) (e : Expr) : Prop where
  s : Snd g M C X c e
  pi : ∀ tg, itB c tg e = true → PI X tg e (tIt g M C c)
theorem sndi_of {X : Cx} {c : E} {e : Expr} (h : Snd g M C X c e) (hs : c.sv = true ∨ ∀ tg, itB c tg e = false) : SndI g M C X c e := ⟨h, fun tg ht => by
  rcases hs with hs | hs
  · exact pi_val h.pe hs
  · rw [hs tg] at ht; cases ht⟩
theorem glo_ok {X : Cx} (ok : CxOk g M C d N nf X) {x : Str} {c : PV} {y : Str} {p : Pos} (h : chkE N nf X.env.scope (.glo x c) (.Name y p) = true) : PE X (.Name y p) (tEv g M C (.glo x c)) := by
  simp only [chkE, Bool.and_eq_true, decide_eq_true_eq, List.any_eq_true] at h
  obtain ⟨⟨rfl, hg⟩, q, hq, rfl, hc⟩ := h
  obtain ⟨h1, h2, h3⟩ := glB_ok hg
  obtain ⟨u, v, m1, r, rep⟩ := ok.cst q hq
  have ec : q.2 = c := by
    split at hc
    · rename_i i j z; rw [z, of_decide_eq_true hc]
    · rename_i i j z; rw [z, of_decide_eq_true hc]
    · cases hc
  refine peI (pe_glob h1 m1 r h2) fun σ H Q ⟨F, env, o, env', R, e, hk, fin⟩ => ?_
  simp only [ev] at e; cases e
  exact fin.val .refl R (by rw [← ec]; exact rep F H)
/-- what has no value of its own -/
theorem vac {X : Cx} {c : E} {e : Expr} (h : ∀ env o env', ev M C c env = some (o, env') → o.ok = false) (hb : ∀ op l p, e ≠ .BoolOp op l p) : Snd g M C X c e :=
  ⟨⟨fun pins s σ H Q I ⟨F, env, o, env', R, e, hk, fin⟩ => by rw [h _ _ _ e] at hk; cases hk⟩,
   ⟨fun pins s σ H Q I ⟨F, env, o, env', k, R, e, dk, fin⟩ => by have := ok_d dk; rw [h _ _ _ e] at this; cases this⟩, fun op l p z => (hb op l p z).elim⟩
theorem lc_snd {X : Cx} (ok : CxOk g M C d N nf X) {tg : Tg} {it : E} {ifs : List E} {elt : E} {elt' tg' it' : Expr} {ifs' : List Expr} {scope : Scope} {pos : Pos} (hi : PI X tg' it' (tIt g M C it)) (hs : notSetE it' = true) (ht : tgB N scope tg tg' = true) (hb : blkC N X.env.scope scope (ownN N tg.slots) = true)
    (hif : chkIf N nf (relS scope X.env.scope) ifs ifs' = true) (ihf : ∀ (Y : Cx), CxOk g M C d N nf Y → ∀ c ∈ ifs, ∀ e, chkE N nf Y.env.scope c e = true → PT Y e (tTs g M C c))
    (ihe : ∀ (Y : Cx), CxOk g M C d N nf Y → Y.env.scope = relS scope X.env.scope → PE Y elt' (tEv g M C elt)) : PE X (.ListComp elt' [⟨tg', it', ifs', 0⟩] scope pos) (tEv g M C (.lc tg it ifs elt)) := by
  have hl : ifs.length ≤ 1 := by
    cases ifs with
    | nil => simp
    | cons c cs => cases cs with
      | nil => simp
      | cons _ _ => simp [chkIf] at hif
  have bk : BlkOk X.N X.env.scope scope (ownN N tg.slots) := blkOk_by (by rw [ok.hN]; exact hb)
  have := pe_lc (pos := pos) ok.calm (by rw [ok.hN]; exact ok.nd) hi bk
    (fun s H C0 cl fp => pg_tg (X := X.blk s H scope (compEnvC scope cl C0 X.env) fp) (N := N) (Γ := scope) ok.calm (by rw [ok.hN]; exact ok.nd) ok.hN (blk_loc rfl) ht)
    (fun s H C0 cl fp => (pts_if (nf := nf) (N := N) (X := X.blk s H scope (compEnvC scope cl C0 X.env) fp) hif fun c hc e he => ihf _ ok.blk c hc e he).1)
    (fun s H C0 cl fp => ihe _ ok.blk rfl) (fun x => fold_ok hs _ x)
  rw [own_map] at this
  exact peI this fun σ H Q ⟨F, env, o, env', R, e, hk, fin⟩ => lc_rd hl R e fin
theorem lc2_snd {X : Cx} (ok : CxOk g M C d N nf X) {tg tg1 : Tg} {it it1 : E} {ifs ifs1 : List E} {elt : E} {elt' tg' it' tg1' it1' : Expr} {ifs' ifs1' : List Expr} {scope : Scope} {pos : Pos} (hi : PI X tg' it' (tIt g M C it)) (hs : notSetE it' = true) (hs1 : notSetE it1' = true) (ht : tgB N scope tg tg' = true) (ht1 : tgB N scope tg1 tg1' = true)
    (hb : blkC N X.env.scope scope (ownN N (tg.slots ++ tg1.slots)) = true) (hif : chkIf N nf (relS scope X.env.scope) ifs ifs' = true) (hif1 : chkIf N nf (relS scope X.env.scope) ifs1 ifs1' = true)
    (ihf : ∀ (Y : Cx), CxOk g M C d N nf Y → ∀ c ∈ ifs, ∀ e, chkE N nf Y.env.scope c e = true → PT Y e (tTs g M C c)) (ihf1 : ∀ (Y : Cx), CxOk g M C d N nf Y → ∀ c ∈ ifs1, ∀ e, chkE N nf Y.env.scope c e = true → PT Y e (tTs g M C c))
    (ihi : ∀ (Y : Cx), CxOk g M C d N nf Y → Y.env.scope = relS scope X.env.scope → PI Y tg1' it1' (tIt g M C it1))
    (ihe : ∀ (Y : Cx), CxOk g M C d N nf Y → Y.env.scope = relS scope X.env.scope → PE Y elt' (tEv g M C elt)) : PE X (.ListComp elt' [⟨tg', it', ifs', 0⟩, ⟨tg1', it1', ifs1', 0⟩] scope pos) (tEv g M C (.lc2 tg it ifs tg1 it1 ifs1 elt)) := by
  have len : ∀ {ifs : List E} {ifs' : List Expr} {Γ : Scope}, chkIf N nf Γ ifs ifs' = true → ifs.length ≤ 1 := by
    intro ifs ifs' Γ hif
    cases ifs with
    | nil => simp
    | cons c cs => cases cs with
      | nil => simp
      | cons _ _ => simp [chkIf] at hif
  have bk : BlkOk X.N X.env.scope scope (ownN N (tg.slots ++ tg1.slots)) := blkOk_by (by rw [ok.hN]; exact hb)
  have := pe_lc2 (pos := pos) (vs1 := tg1.slots) ok.calm (by rw [ok.hN]; exact ok.nd) hi bk (by rw [own_map]; exact fun i h => List.mem_append_right _ h)
    (fun s H C0 cl fp => pg_tg (X := X.blk s H scope (compEnvC scope cl C0 X.env) fp) (N := N) (Γ := scope) ok.calm (by rw [ok.hN]; exact ok.nd) ok.hN (blk_loc rfl) ht)
    (fun s H C0 cl fp => (pts_if (nf := nf) (N := N) (X := X.blk s H scope (compEnvC scope cl C0 X.env) fp) hif fun c hc e he => ihf _ ok.blk c hc e he).1)
    (fun s H C0 cl fp => ihi _ ok.blk rfl)
    (fun s H C0 cl fp => pg_tg (X := X.blk s H scope (compEnvC scope cl C0 X.env) fp) (N := N) (Γ := scope) ok.calm (by rw [ok.hN]; exact ok.nd) ok.hN (blk_loc rfl) ht1)
    (fun s H C0 cl fp => (pts_if (nf := nf) (N := N) (X := X.blk s H scope (compEnvC scope cl C0 X.env) fp) hif1 fun c hc e he => ihf1 _ ok.blk c hc e he).1)
    (fun s H C0 cl fp => ihe _ ok.blk rfl) (fun x => fold_ok hs _ x) (fun env x => fold_ok hs1 _ x)
  rw [own_map] at this
  exact peI this fun σ H Q ⟨F, env, o, env', R, e, hk, fin⟩ => lc2_rd (len hif) (len hif1) R e fin
theorem kvs_ok {X : Cx} {Γ : Scope} {p : Pos} : ∀ {cs : List E} {ks : List (Option Expr)} {vs : List Expr}, chkKV N nf Γ cs ks vs = true → (∀ c ∈ cs, ∀ e, chkE N nf Γ c e = true → Snd g M C X c e) → PPs X p ks vs (trsOf g M C cs) ∧ evenE cs = true ∧ ks.all (·.isSome) = true ∧ ks.length = vs.length
  | [], [], [], _, _ => ⟨pps_nil, rfl, rfl, rfl⟩
  | [], [], _ :: _, h, _ => by simp [chkKV] at h
  | [], _ :: _, _, h, _ => by simp [chkKV] at h
  | [_], _, _, h, _ => by simp [chkKV] at h
  | _ :: _ :: _, [], _, h, _ => by simp [chkKV] at h
  | _ :: _ :: _, none :: _, _, h, _ => by simp [chkKV] at h
  | _ :: _ :: _, some _ :: _, [], h, _ => by simp [chkKV] at h
  | c :: d :: cs, some k :: ks, v :: vs, h, f => by
    simp only [chkKV, Bool.and_eq_true] at h
    obtain ⟨⟨h1, h2⟩, h3⟩ := h
    obtain ⟨k1, k2, k3, k4⟩ := kvs_ok h3 fun c hc => f c (List.mem_cons_of_mem _ (List.mem_cons_of_mem _ hc))
    exact ⟨pps_cons (f c (List.mem_cons_self ..) k h1).pe (f d (List.mem_cons_of_mem _ (List.mem_cons_self ..)) v h2).pe k1, k2, by rw [List.all_cons, k3]; rfl, by rw [List.length_cons, List.length_cons, k4]⟩
mutual
theorem snd : ∀ (c : E) {X : Cx} (_ : CxOk g M C d N nf X) {e : Expr}, chkE N nf X.env.scope c e = true → SndI g M C X c e
  | .con c, X, ok, e, h => by
    simp only [chkE] at h
    obtain ⟨h1, h2⟩ := con_ok (X := X) (g := g) (M := M) (C := C) h
    exact sndi_of (snd_of h1 h2) (.inl rfl)
  | .glo x c, X, ok, e, h => by
    cases e with
    | Name y p => exact sndi_of (snd_of (glo_ok ok h) rfl) (.inl rfl)
    | _ => simp [chkE] at h
  | .var i, X, ok, e, h => by
    cases e with
    | Name x p => simp only [chkE] at h; exact sndi_of (snd_of (var_ok ok h) rfl) (.inl rfl)
    | _ => simp [chkE] at h
  | .bin o a b, X, ok, e, h => by
    cases e with
    | BinOp a' o' b' p =>
      simp only [chkE, Bool.and_eq_true] at h
      exact sndi_of (snd_of (bin_snd ok h.1.1 (snd a ok h.1.2).s.pe (snd b ok h.2).s.pe) rfl) (.inl rfl)
    | _ => simp [chkE] at h
  | .un u a, X, ok, e, h => by
    cases e with
    | UnaryOp o' a' p =>
      simp only [chkE, Bool.and_eq_true] at h
      refine sndi_of (snd_of (un_snd h.1 (snd a ok h.2).s.pe) ?_) (.inl rfl)
      have h1 := h.1
      cases u <;> cases o' <;> first | rfl | cases h1
    | _ => simp [chkE] at h
  | .cmp o a b, X, ok, e, h => by
    unfold chkE at h
    split at h <;> first | (cases h; done) | skip
    all_goals rename_i heq; cases heq
    simp only [Bool.and_eq_true, Bool.not_eq_true'] at h
    exact sndi_of (cmp_snd ok h.1.1.1 h.2 (snd a ok h.1.1.2).s.pe (snd b ok h.1.2).s.pe) (.inl rfl)
  | .cmp2 o p a b c, X, ok, e, h => by
    unfold chkE at h
    split at h <;> first | (cases h; done) | skip
    all_goals rename_i heq; cases heq
    simp only [Bool.and_eq_true, Bool.not_eq_true'] at h
    exact sndi_of (cmp2_snd ok h.1.1.1.1.1 h.1.1.1.1.2 h.2 (snd a ok h.1.1.1.2).s.pe (snd b ok h.1.1.2).s.pe (snd c ok h.1.2).s.pe) (.inl rfl)
  | .and a b, X, ok, e, h => by
    cases e with
    | BoolOp op l p =>
      cases op with
      | Or => simp [chkE] at h
      | And =>
        cases l with
        | nil => simp [chkE] at h
        | cons x l =>
          cases l with
          | nil => simp [chkE] at h
          | cons y r =>
            simp only [chkE, Bool.and_eq_true] at h
            cases r with
            | nil =>
              have hb := (snd b ok h.2).s
              exact sndi_of (and_snd (snd a ok h.1).s (pe_one hb.pe) (pw_and1 hb.pt)) (.inr fun _ => rfl)
            | cons z r =>
              have hb := (snd b ok h.2).s
              exact sndi_of (and_snd (snd a ok h.1).s hb.pe (hb.pw _ _ _ rfl)) (.inr fun _ => rfl)
    | _ => simp [chkE] at h
  | .or a b, X, ok, e, h => by
    cases e with
    | BoolOp op l p =>
      cases op with
      | And => simp [chkE] at h
      | Or =>
        cases l with
        | nil => simp [chkE] at h
        | cons x l =>
          cases l with
          | nil => simp [chkE] at h
          | cons y r =>
            simp only [chkE, Bool.and_eq_true] at h
            cases r with
            | nil =>
              have hb := (snd b ok h.2).s
              exact sndi_of (or_snd (snd a ok h.1).s (pe_one hb.pe) (pw_or1 hb.pt)) (.inr fun _ => rfl)
            | cons z r =>
              have hb := (snd b ok h.2).s
              exact sndi_of (or_snd (snd a ok h.1).s hb.pe (hb.pw _ _ _ rfl)) (.inr fun _ => rfl)
    | _ => simp [chkE] at h
  | .not a, X, ok, e, h => by
    cases e with
    | UnaryOp o' a' p =>
      cases o' with
      | Not => simp only [chkE] at h; exact sndi_of (not_snd (snd a ok h).s) (.inl rfl)
      | _ => simp [chkE] at h
    | _ => simp [chkE] at h
  | .ite c a b, X, ok, e, h => by
    cases e with
    | IfExp c' a' b' p =>
      simp only [chkE, Bool.and_eq_true] at h
      exact sndi_of (ite_snd (snd c ok h.1.1).s (snd a ok h.1.2).s (snd b ok h.2).s) (.inr fun _ => rfl)
    | _ => simp [chkE] at h
  | .tup es, X, ok, e, h => by
    cases e with
    | Tuple es' k p =>
      simp only [chkE] at h
      exact sndi_of (snd_of (tup_ok (pes_ok h fun c hc e he => (snds es c hc ok he).s)) rfl) (.inl rfl)
    | _ => simp [chkE] at h
  | .lst es, X, ok, e, h => by
    cases e with
    | List es' p =>
      simp only [chkE] at h
      exact sndi_of (snd_of (lst_ok (pes_ok h fun c hc e he => (snds es c hc ok he).s)) rfl) (.inl rfl)
    | _ => simp [chkE] at h
  | .dsp es, X, ok, e, h => by
    cases e with
    | Dict ks vs p =>
      simp only [chkE, Bool.and_eq_true, decide_eq_true_eq, Bool.not_eq_true'] at h
      obtain ⟨⟨h1, h2⟩, h3⟩ := h
      obtain ⟨k1, k2, k3, k4⟩ := kvs_ok (p := p) h1 fun c hc e he => (snds es c hc ok he).s
      exact sndi_of (snd_of (dsp_ok k1 k2 k3 k4 (by intro z; rw [z] at h2; cases h2) h3) rfl) (.inl rfl)
    | _ => simp [chkE] at h
  | .dnk, X, ok, e, h => by
    unfold chkE at h
    split at h <;> first | (cases h; done) | skip
    all_goals rename_i heq; cases heq
    exact sndi_of (snd_of dnk_ok rfl) (.inl rfl)
  | .dnt, X, ok, e, h => by
    unfold chkE at h
    split at h <;> first | (cases h; done) | skip
    all_goals rename_i heq; cases heq
    exact sndi_of (snd_of dnt_ok rfl) (.inl rfl)
  | .idx a i, X, ok, e, h => by
    cases e with
    | Subscript a' i' p =>
      simp only [chkE, Bool.and_eq_true] at h
      exact sndi_of (snd_of (idx_snd ok (snd a ok h.1.1).s.pe (snd i ok h.1.2).s.pe h.2) rfl) (.inl rfl)
    | _ => simp [chkE] at h
  | .slc a lo hi, X, ok, e, h => by
    unfold chkE at h
    split at h <;> first | (cases h; done) | skip
    all_goals rename_i heq; cases heq
    simp only [Bool.and_eq_true] at h
    have po : ∀ {cs : List E} {oe : Option Expr}, chkO N nf X.env.scope cs oe = true → (∀ c ∈ cs, ∀ e, chkE N nf X.env.scope c e = true → PE X e (tEv g M C c)) → cs.length ≤ 1 ∧ PO X oe (tO g M C cs) := by
      intro cs oe hc ih
      cases cs with
      | nil => cases oe with
        | none => exact ⟨Nat.zero_le _, po_none⟩
        | some _ => simp [chkO] at hc
      | cons c cs => cases cs with
        | cons _ _ => simp [chkO] at hc
        | nil => cases oe with
          | none => simp [chkO] at hc
          | some e => simp only [chkO] at hc; exact ⟨Nat.le_refl _, po_some (ih c (List.mem_cons_self ..) e hc)⟩
    obtain ⟨l1, p1⟩ := po h.1.2 fun c hc e he => (snds lo c hc ok he).s.pe
    obtain ⟨l2, p2⟩ := po h.2 fun c hc e he => (snds hi c hc ok he).s.pe
    exact sndi_of (snd_of (slc_snd ok (snd a ok h.1.1).s.pe l1 l2 p1 p2) rfl) (.inl rfl)
  | .rev a, X, ok, e, h => by
    unfold chkE at h
    split at h <;> first | (cases h; done) | skip
    all_goals rename_i heq; cases heq
    exact sndi_of (snd_of (rev_ok (snd a ok h).s.pe) rfl) (.inl rfl)
  | .isi t a, X, ok, e, h => by
    unfold chkE at h
    split at h <;> first | (cases h; done) | skip
    all_goals rename_i heq; cases heq
    simp only [Bool.and_eq_true, decide_eq_true_eq] at h
    exact sndi_of (snd_of (isi_snd ok h.1.1.1.1.1.1.1 h.1.1.1.1.1.1.2 h.1.1.1.1.1.2 (snd a ok h.1.1.1.1.2).s.pe h.1.1.1.2 h.1.1.2 h.1.2 h.2) rfl) (.inl rfl)
  | .call f es, X, ok, e, h => by
    unfold chkE at h
    split at h <;> first | (cases h; done) | skip
    all_goals rename_i heq; cases heq
    simp only [Bool.and_eq_true, decide_eq_true_eq] at h
    exact sndi_of (snd_of (call_snd ok h.1.1 h.1.2 h.2 (pes_ok h.2 fun c hc e he => (snds es c hc ok he).s)) rfl) (.inl rfl)
  | .bi b es, X, ok, e, h => by
    unfold chkE at h
    split at h <;> first | (cases h; done) | skip
    all_goals rename_i heq; cases heq
    simp only [Bool.and_eq_true, decide_eq_true_eq] at h
    exact sndi_of (snd_of (bi_snd ok h.1.1.1.1 h.1.1.1.2 h.1.1.2 h.1.2 h.2 (pes_ok h.2 fun c hc e he => (snds es c hc ok he).s)) rfl) (.inl rfl)
  | .met m o es, X, ok, e, h => by
    unfold chkE at h
    split at h <;> first | (cases h; done) | skip
    all_goals rename_i heq; cases heq
    simp only [Bool.and_eq_true, decide_eq_true_eq] at h
    obtain ⟨⟨⟨⟨⟨⟨hm, rfl⟩, h1⟩, h2⟩, h3⟩, h4⟩, h5⟩ := h
    cases m <;> first | (cases hm; done) | skip
    exact sndi_of (snd_of (get_snd ok (snd o ok h1).s.pe h2 h5 h4 h3 fun c hc e he => (snds es c hc ok he).s.pe) rfl) (.inl rfl)
  | .mm m i es, X, ok, e, h => by
    unfold chkE at h
    split at h <;> first | (cases h; done) | skip
    all_goals rename_i heq; cases heq
    simp only [Bool.and_eq_true, decide_eq_true_eq] at h
    obtain ⟨⟨⟨⟨hm, rfl⟩, h1⟩, h2⟩, h3⟩ := h
    have pa := pes_ok h2 fun c hc e he => (snds es c hc ok he).s
    unfold mmOk at hm
    split at hm
    · rename_i hl; exact sndi_of (snd_of (app_snd ok h1 hl h3 h2 pa) rfl) (.inl rfl)
    · rename_i hl; exact sndi_of (snd_of (pop_snd ok h1 (by rw [hl]; exact Nat.zero_le _) h3 h2 pa) rfl) (.inl rfl)
    · rename_i hl; exact sndi_of (snd_of (pop_snd ok h1 (by rw [hl]; exact Nat.le_refl _) h3 h2 pa) rfl) (.inl rfl)
    · cases hm
  | .zip a b, X, ok, e, h => by
    unfold chkE at h
    split at h <;> first | (cases h; done) | skip
    all_goals rename_i heq; cases heq
    simp only [Bool.and_eq_true, decide_eq_true_eq] at h
    obtain ⟨⟨⟨⟨⟨⟨h1, h2⟩, h3⟩, h4⟩, h5⟩, h6⟩, h7⟩ := h
    refine ⟨vac (fun env o env' e => ?_) (fun _ _ _ z => by cases z), fun tg ht => ?_⟩
    · simp only [ev] at e
      repeat' (split at e)
      all_goals first | (cases e; done) | (cases e; rfl)
    · cases tg <;> first | (cases ht; done) | skip
      exact pi_zipB ok h1 h2 h3 h5 h7 (snd a ok h4).s.pe (snd b ok h6).s.pe
  | .enum a, X, ok, e, h => by
    unfold chkE at h
    split at h <;> first | (cases h; done) | skip
    all_goals rename_i heq; cases heq
    simp only [Bool.and_eq_true, decide_eq_true_eq] at h
    obtain ⟨⟨⟨⟨h1, h2⟩, h3⟩, h4⟩, h5⟩ := h
    refine ⟨vac (fun env o env' e => ?_) (fun _ _ _ z => by cases z), fun tg ht => ?_⟩
    · simp only [ev] at e
      repeat' (split at e)
      all_goals first | (cases e; done) | (cases e; rfl)
    · cases tg <;> first | (cases ht; done) | skip
      exact pi_enumB ok h1 h2 h3 h5 (snd a ok h4).s.pe
  | .rngI es, X, ok, e, h => by
    unfold chkE at h
    split at h <;> first | (cases h; done) | skip
    all_goals rename_i heq; cases heq
    simp only [Bool.and_eq_true, decide_eq_true_eq] at h
    obtain ⟨⟨⟨h1, h2⟩, h3⟩, h4⟩ := h
    refine ⟨vac (fun env o env' e => ?_) (fun _ _ _ z => by cases z), fun tg ht => ?_⟩
    · simp only [ev] at e
      repeat' (split at e)
      all_goals first | (cases e; done) | (cases e; rfl)
    · exact pi_rng ok h1 h2 h3 h4 (pes_ok h4 fun c hc e he => (snds es c hc ok he).s)
  | .lc tg it ifs elt, X, ok, e, h => by
    unfold chkE at h
    split at h <;> first | (cases h; done) | skip
    all_goals rename_i heq; cases heq
    simp only [Bool.and_eq_true, decide_eq_true_eq] at h
    obtain ⟨⟨⟨⟨⟨⟨rfl, h1⟩, h2⟩, h3⟩, h4⟩, h5⟩, h6⟩ := h
    have h2' := h2
    unfold itB at h2'
    simp only [Bool.and_eq_true] at h2'
    exact sndi_of (snd_of (lc_snd ok ((snd it ok h1).pi _ h2) h2'.2 h3 h4 h5 (fun Y okY c hc e he => (snds ifs c hc okY he).s.pt) fun Y okY hY => (snd elt okY (by rw [hY]; exact h6)).s.pe) rfl) (.inl rfl)
  | .lc2 tg it ifs tg1 it1 ifs1 elt, X, ok, e, h => by
    unfold chkE at h
    split at h <;> first | (cases h; done) | skip
    all_goals rename_i heq; cases heq
    simp only [Bool.and_eq_true, decide_eq_true_eq] at h
    obtain ⟨⟨⟨⟨⟨⟨⟨⟨⟨⟨⟨rfl, rfl⟩, h1⟩, h2⟩, h3⟩, h4⟩, h5⟩, h6⟩, h7⟩, h8⟩, h9⟩, h10⟩ := h
    have h2' := h2
    unfold itB at h2'
    simp only [Bool.and_eq_true] at h2'
    have h7' := h7
    unfold itB at h7'
    simp only [Bool.and_eq_true] at h7'
    exact sndi_of (snd_of (lc2_snd ok ((snd it ok h1).pi _ h2) h2'.2 h7'.2 h3 h8 h4 h5 h9 (fun Y okY c hc e he => (snds ifs c hc okY he).s.pt) (fun Y okY c hc e he => (snds ifs1 c hc okY he).s.pt)
      (fun Y okY hY => (snd it1 okY (by rw [hY]; exact h6)).pi _ h7) fun Y okY hY => (snd elt okY (by rw [hY]; exact h10)).s.pe) rfl) (.inl rfl)
theorem snds : ∀ (cs : List E) (c : E) (_ : c ∈ cs) {X : Cx} (_ : CxOk g M C d N nf X) {e : Expr}, chkE N nf X.env.scope c e = true → SndI g M C X c e
  | [], _, h, _, _, _, _ => by cases h
  | c :: cs, c', h, X, ok, e, he => by
    rcases List.mem_cons.mp h with h | h
    · rw [h] at he ⊢; exact snd c ok he
    · exact snds cs c' h ok he
end
end
end L2.Pz
set_option Elab.async false
set_option linter.all false
set_option maxRecDepth 100000
set_option maxHeartbeats 4000000
namespace L2.Pz
set_option autoImplicit false
open PySem PySem.Spec PyProof.Rows L2

/-! ## Pz19: what moves, what is stored -/
/-- slots through statements: a walked one stays, a lent one keeps its place -/
structure StR (pm : List Nat) (σ σ' : St) (env env' : En) : Prop where
  lk : ∀ (i : Nat) (q : PV), env[i]? = some (some ⟨q, .lk⟩) → env'[i]? = some (some ⟨q, .lk⟩) ∧ σ'[i]? = σ[i]?
  pm : ∀ i ∈ pm, σ'[i]? = σ[i]?
theorem StR.refl {pm : List Nat} {σ : St} {env : En} : StR pm σ σ env env := ⟨fun _ _ e => ⟨e, rfl⟩, fun _ _ => rfl⟩
theorem StR.trans {pm : List Nat} {σ σ1 σ2 : St} {env env1 env2 : En} (a : StR pm σ σ1 env env1) (b : StR pm σ1 σ2 env1 env2) : StR pm σ σ2 env env2 :=
  ⟨fun i q e => by
    obtain ⟨h1, h2⟩ := a.lk i q e
    obtain ⟨h3, h4⟩ := b.lk i q h1
    exact ⟨h3, h4.trans h2⟩, fun i hi => (b.pm i hi).trans (a.pm i hi)⟩
theorem EnvRel.str {pm : List Nat} {σ : St} {env env' : En} (er : EnvRel env env') : StR pm σ σ env env' := ⟨fun i q e => (by
  obtain ⟨s, e', h⟩ := er.pres i _ e
  rcases h with rfl | ⟨h, _⟩
  · exact ⟨e', rfl⟩
  · cases h), fun _ _ => rfl⟩
section
variable {g : Gw} {M : Nat → List Md} {C : Cl} {d : Nat} {N : List Str} {nf : Nf} {X : Cx} {F F0 F' : Ad} {H H0 H' : Hp} {σ : St} {env env' : En} {O0 N0 : Ad} {o : Opd} {v : V} {p p' : PV} {a : Addr} {i : Nat} {f : Bool} {pm : List Nat}
theorem set_none_get {j k : Nat} {s : Slot} (e : (env.set j none)[k]? = some (some s)) : env[k]? = some (some s) ∧ j ≠ k := by
  rcases set_get e with ⟨_, q⟩ | ⟨n, e⟩
  · cases q
  · exact ⟨e, n⟩
theorem Rep.drop (R : Rep g F H σ env) (j : Nat) : Rep g F H σ (env.set j none) :=
  ⟨by rw [List.length_set]; exact R.len, fun i s e => R.slot i s (set_none_get e).1, fun i k x s b hik e1 k1 e2 k2 es ek => R.sep i k x s b hik (set_none_get e1).1 k1 (set_none_get e2).1 k2 es ek, R.dom⟩
/-- what holds behind a move -/
structure Mv (g : Gw) (pm : List Nat) (F0 : Ad) (H0 : Hp) (O0 : Ad) (F : Ad) (H : Hp) (σ : St) (env : En) (o : Opd) (r : Rv) (v : V) (F' : Ad) (env' : En) : Prop where
  mono : ∀ a, F a → F' a
  ext : Ext F0 H0 O0 F' H (Own σ env')
  rep : Rep g F' H σ env'
  held : HeldO g F' H σ env' (New H0 O0) (.vl r.1 r.2) v
  str : StR pm σ σ env env'
  own : ∀ a, Own σ env' a → Own σ env a
  newF : ∀ a, F' a → F a ∨ Own σ env a ∨ (o.fr = true ∧ v = .ref a)
  away : ∀ a, (¬ F' a) → Away g F H σ env a → Away g F' H σ env' a
  keep : ∀ (k : Nat) (s : Slot), o.is k = false → env[k]? = some (some s) → env'[k]? = some (some s)
theorem cons_mv {env' : En} {p : PV} (R : Rep g F H σ env) (x : Ext F0 H0 O0 F H (Own σ env)) (h : HeldO g F H σ env (New H0 O0) o v) (e : consume env o = some (p, env')) : ∃ F', Mv g pm F0 H0 O0 F H σ env o (p, false) v F' env' := by
  obtain ⟨F1, c, r⟩ := consume_ok R x h e
  refine ⟨F1, c.mono, c.ext, c.rep, r, c.er.str, fun a => c.er.own, fun a ha => ?_, fun a nf aw i s ei k es => ?_, fun k s n ek => ?_⟩
  · rcases c.new a ha with q | ⟨q, z | z⟩
    · exact .inl q
    · exact .inr (.inr ⟨z, q⟩)
    · exact .inr (.inl z)
  · obtain ⟨s0, e0, h0⟩ := c.er.back ei
    rcases h0 with rfl | ⟨h0, _⟩
    · exact (aw i s e0 k es).mono c.mono fun _ _ _ e => e
    · obtain ⟨b, eb, nb, cb⟩ := R.exc e0 (by rw [h0]; rfl)
      rw [es] at eb; cases eb
      exact (nf (c.mono _ (cb.inF (aw i s0 e0 (by rw [h0]; exact fun h => nomatch h) es)))).elim
  · cases o with
    | wk _ _ => cases e
    | vl q f => cases e; exact ek
    | sl j =>
      have hjk : j ≠ k := fun z => by subst z; simp [Opd.is] at n
      simp only [consume] at e
      split at e
      · cases e; exact ek
      · cases e; rw [List.getElem?_set_ne hjk]; exact ek
      · split at e
        · cases e; exact ek
        · cases e
      · cases e
theorem move_ok {r : Rv} (R : Rep g F H σ env) (x : Ext F0 H0 O0 F H (Own σ env)) (h : HeldO g F H σ env (New H0 O0) o v) (e : move pm o env = some (r, env')) : ∃ F', Mv g pm F0 H0 O0 F H σ env o r v F' env' := by
  cases o with
  | wk _ _ => cases e
  | vl q f =>
    cases e
    exact ⟨F, fun _ h => h, x, R, h, .refl, fun _ h => h, fun _ h => .inl h, fun _ _ aw => aw, fun _ _ _ e => e⟩
  | sl j =>
    simp only [move] at e
    split at e
    · rename_i q ej
      obtain ⟨es, _⟩ := h
      obtain ⟨b, eb, nb, cb⟩ := R.exc ej rfl
      rw [es] at eb; cases eb
      split at e
      · rename_i hp
        cases e
        obtain ⟨F1, m⟩ := cons_mv (pm := pm) (p := q) (env' := env.set j (some ⟨q, .fz⟩)) R x (show HeldO g F H σ env (New H0 O0) (.sl j) (.ref b) from ⟨es, _, ej⟩) (by simp only [consume, ej])
        exact ⟨F1, m⟩
      · rename_i hp
        cases e
        have ow : Own σ env b := ⟨j, q, ej, es⟩
        have sub : ∀ a, Own σ (env.set j none) a → Own σ env a := fun a ⟨k, y, ek, esk⟩ => ⟨k, y, (set_none_get ek).1, esk⟩
        refine ⟨F, fun _ h => h, x.sub sub, R.drop j, ⟨b, rfl, nb, cb, x.newO b ow, fun k s ek kk esk => ?_⟩, ⟨fun k y ek => ⟨?_, rfl⟩, fun _ _ => rfl⟩, sub, fun _ h => .inl h, fun a _ aw k s ek kk esk => aw k s (set_none_get ek).1 kk esk, fun k s n ek => ?_⟩
        · obtain ⟨ek', n⟩ := set_none_get ek
          exact R.sep j k _ s b n ej rfl ek' kk es esk
        · have : j ≠ k := fun z => by subst z; rw [ej] at ek; cases ek
          rw [List.getElem?_set_ne this]; exact ek
        · have hjk : j ≠ k := fun z => by subst z; simp [Opd.is] at n
          rw [List.getElem?_set_ne hjk]; exact ek
    · split at e
      · rename_i hc
        cases e
        exact cons_mv R x h hc
      · cases e
theorem move1_ok {r : Rv} {os : List Opd} (R : Rep g F H σ env) (x : Ext F0 H0 O0 F H (Own σ env)) (h : HeldO g F H σ env (New H0 O0) o v) (e : move1 pm o os env = some (r, env')) : ∃ F', Mv g pm F0 H0 O0 F H σ env o r v F' env' := by
  cases o with
  | wk _ _ => exact move_ok R x h e
  | vl q f => exact move_ok R x h e
  | sl j =>
    simp only [move1] at e
    split at e
    · split at e
      · rename_i hc
        cases e
        exact cons_mv R x h hc
      · cases e
    · exact move_ok R x h e
/-- a slot that comes again is not emptied -/
theorem move1_slot {r : Rv} {os : List Opd} {k : Nat} {s : Slot} (e : move1 pm o os env = some (r, env')) (hk : os.any (Opd.is k) = true) (ek : env[k]? = some (some s)) (keep : o.is k = false → env'[k]? = some (some s)) : ∃ s', env'[k]? = some (some s') := by
  cases hi : o.is k with
  | false => exact ⟨s, keep hi⟩
  | true =>
    cases o with
    | wk _ _ => cases hi
    | vl _ _ => cases hi
    | sl j =>
      have : j = k := by simpa [Opd.is] using hi
      subst this
      simp only [move1, hk, if_true] at e
      split at e
      · rename_i hc
        cases e
        obtain ⟨s', e', _⟩ := (consume_rel hc).pres j s ek
        exact ⟨s', e'⟩
      · cases e
theorem Mv.heldO {r : Rv} {o1 : Opd} {v1 : V} {F' : Ad} (m : Mv g pm F0 H0 O0 F H σ env o r v F' env') (R : Rep g F H σ env) (h : HeldO g F H σ env N0 o1 v1) (hs : ∀ k, o1 = .sl k → ∃ s, env'[k]? = some (some s)) (ne : o.fr = true → o1.fr = true → v1 ≠ v) : HeldO g F' H σ env' N0 o1 v1 := by
  cases o1 with
  | sl k => exact ⟨h.1, hs k rfl⟩
  | wk _ _ => exact h
  | vl q f =>
    cases f with
    | false => exact RepV.mono m.mono (fun _ _ _ e => e) h
    | true =>
      obtain ⟨b, rfl, nb, c, nn, aw⟩ := h
      have nb' : ¬ F' b := fun hb => by
        rcases m.newF b hb with q | q | ⟨z, q⟩
        · exact nb q
        · exact aw.notOwn R nb q
        · exact ne z rfl q.symm
      exact ⟨b, rfl, nb', c.mono m.mono (fun _ _ _ e => e) fun _ e => e, nn, m.away b nb' aw⟩
theorem moves_ok : ∀ {os : List Opd} {vs : List V} {rs : List Rv} {F : Ad} {env env' : En}, Rep g F H σ env → Ext F0 H0 O0 F H (Own σ env) → HeldL g F H σ env (New H0 O0) os vs → moves pm os env = some (rs, env') →
    ∃ F', (∀ a, F a → F' a) ∧ Ext F0 H0 O0 F' H (Own σ env') ∧ Rep g F' H σ env' ∧ HeldL g F' H σ env' (New H0 O0) (rs.map fun r => .vl r.1 r.2) vs ∧ StR pm σ σ env env' ∧ (∀ b, ¬ F b → Away g F H σ env b → (∀ k : Nat, (∃ o : Opd, os[k]? = some o ∧ o.fr = true) → vs[k]? ≠ some (.ref b)) → ¬ F' b ∧ Away g F' H σ env' b) ∧
      ∀ (b : Addr) (k : Nat) (r : Rv), rs[k]? = some r → r.2 = true → vs[k]? = some (.ref b) → (∃ o : Opd, os[k]? = some o ∧ o.fr = true) ∨ Own σ env b
  | [], _, _, F, env, _, R, x, .nil, e => by
    cases e
    exact ⟨F, fun _ h => h, x, R, .nil, .refl, fun b nb aw _ => ⟨nb, aw⟩, fun b k r e => by cases e⟩
  | o :: os, _, _, F, env, envE, R, x, .cons (v := v) (vs := vs) a b c, e => by
    unfold moves at e
    split at e
    · rename_i r env1 h1
      split at e
      · rename_i rs1 env2 h2
        cases e
        obtain ⟨F1, m⟩ := move1_ok R x a h1
        have hl : HeldL g F1 H σ env1 (New H0 O0) os vs := by
          have sl : ∀ k, os.any (Opd.is k) = true → ∀ s, env[k]? = some (some s) → ∃ s', env1[k]? = some (some s') := fun k hk s ek => move1_slot h1 hk ek (fun hi => m.keep k s hi ek)
          clear h2
          have : ∀ {ps : List Opd} {ws : List V}, HeldL g F H σ env (New H0 O0) ps ws → (∀ k, ps.any (Opd.is k) = true → os.any (Opd.is k) = true) → (o.fr = true → ∀ (k : Nat) (o' : Opd), ps[k]? = some o' → o'.fr = true → ws[k]? ≠ some v) → HeldL g F1 H σ env1 (New H0 O0) ps ws := by
            intro ps
            induction ps with
            | nil => intro ws h _ _; cases h; exact .nil
            | cons q ps ih =>
              intro ws h hs hn
              cases h with
              | cons a1 b1 c1 =>
                refine .cons (m.heldO R a1 (fun k z => ?_) fun z1 z2 e => hn z1 0 _ rfl z2 (by rw [e]; rfl)) b1 (ih c1 (fun k hk => hs k (by rw [List.any_cons, hk, Bool.or_true])) fun z k o' e f => hn z (k + 1) o' e f)
                subst z
                obtain ⟨_, s, es⟩ := a1
                exact sl k (hs k (by simp [Opd.is])) s es
          exact this c (fun _ h => h) b
        obtain ⟨F2, m2, x2, R2, h3, st, aw2, nw⟩ := moves_ok m.rep m.ext hl h2
        -- the first result stays apart from the rest
        have first : HeldO g F2 H σ envE (New H0 O0) (.vl r.1 r.2) v ∧ (r.2 = true → ∀ (k : Nat) (o' : Opd), (rs1.map fun r => Opd.vl r.1 r.2)[k]? = some o' → o'.fr = true → vs[k]? ≠ some v) := by
          have hd := m.held
          obtain ⟨rp, rf⟩ := r
          cases rf with
          | false => exact ⟨RepV.mono m2 (fun _ _ _ e => e) hd, fun z => by cases z⟩
          | true =>
            obtain ⟨b1, rfl, nb, cb, nn, aw⟩ := hd
            -- what is fresh behind is elsewhere
            have apart : ∀ k : Nat, (∃ o : Opd, os[k]? = some o ∧ o.fr = true) → vs[k]? ≠ some (.ref b1) := fun k ⟨o', eo, fo⟩ ev => by
              cases fr : o.fr with
              | true => exact b fr k o' eo fo ev
              | false =>
                obtain ⟨w, ew, hw⟩ := c.get eo
                rw [ev] at ew; cases ew
                obtain ⟨b2, e2, nb2, _, _, aw2⟩ := hw.fresh fo
                cases e2
                -- o is a slot's object
                have own1 : Own σ env b1 := by
                  cases o with
                  | wk _ _ => cases a
                  | vl q f =>
                    cases f with
                    | true => cases fr
                    | false => simp [move1, move] at h1
                  | sl j =>
                    obtain ⟨es, s, esj⟩ := a
                    simp only [move1] at h1
                    split at h1
                    · split at h1
                      · cases h1
                      · cases h1
                    · simp only [move] at h1
                      split at h1
                      · rename_i q ej
                        exact ⟨j, q, ej, es⟩
                      · split at h1
                        · cases h1
                        · cases h1
                exact aw2.notOwn R nb2 own1
            obtain ⟨nb2, aw3⟩ := aw2 b1 nb aw apart
            refine ⟨⟨b1, rfl, nb2, cb.mono m2 (fun _ _ _ e => e) fun _ e => e, nn, aw3⟩, fun _ k o' e f ev => ?_⟩
            rw [List.getElem?_map] at e
            obtain ⟨r1, er1, rfl⟩ := Option.map_eq_some_iff.mp e
            have f' : r1.2 = true := by
              obtain ⟨q1, q2⟩ := r1
              cases q2 with
              | true => rfl
              | false => cases f
            rcases nw b1 k r1 er1 f' ev with z | z
            · exact apart k z ev
            · exact aw.notOwn m.rep nb z
        refine ⟨F2, fun a h => m2 a (m.mono a h), x2, R2, .cons first.1 (fun z => first.2 (by
          obtain ⟨rp, rf⟩ := r
          cases rf with
          | true => rfl
          | false => cases z)) h3, m.str.trans st, fun b1 nb aw hn => ?_, fun b1 k r1 er f ev => ?_⟩
        · have nb1 : ¬ F1 b1 := fun hb => by
            rcases m.newF b1 hb with q | q | ⟨z, q⟩
            · exact nb q
            · exact aw.notOwn R nb q
            · exact hn 0 ⟨o, rfl, z⟩ (by rw [q]; rfl)
          exact aw2 b1 nb1 (m.away b1 nb1 aw) fun k hk => hn (k + 1) hk
        · cases k with
          | zero =>
            cases er
            cases ev
            cases fr : o.fr with
            | true => exact .inl ⟨o, rfl, fr⟩
            | false =>
              right
              cases o with
              | wk _ _ => cases a
              | vl q f1 =>
                cases f1 with
                | true => cases fr
                | false =>
                  simp only [move1, move, Option.some.injEq, Prod.mk.injEq] at h1
                  rw [← h1.1] at f
                  cases f
              | sl j =>
                obtain ⟨es, s, esj⟩ := a
                simp only [move1] at h1
                split at h1
                · split at h1
                  · cases h1; cases f
                  · cases h1
                · simp only [move] at h1
                  split at h1
                  · rename_i q ej
                    exact ⟨j, q, ej, es⟩
                  · split at h1
                    · cases h1; cases f
                    · cases h1
          | succ k =>
            rcases nw b1 k r1 er f ev with z | z
            · exact .inl z
            · exact .inr (m.own _ z)
      · cases e
    · cases e
theorem str_store (e : store pm i p f env = some env') : StR pm σ (σ.set i (some v)) env env' := by
  obtain ⟨rfl, hp, hk, hl⟩ := store_eq e
  refine ⟨fun k q ek => ?_, fun k hk' => ?_⟩
  · have : i ≠ k := fun z => hk q (by rw [z]; exact ek)
    exact ⟨by rw [List.getElem?_set_ne this]; exact ek, by rw [List.getElem?_set_ne this]⟩
  · have : i ≠ k := fun z => hp (by rw [z]; exact hk')
    rw [List.getElem?_set_ne this]
theorem Away.storeT {b : Addr} (aw : Away g F H σ env a) (n : v ≠ .ref a) : Away g F H (σ.set i (some v)) (env.set i (some ⟨p, kd f⟩)) a := fun j s e k es => by
  rcases set_get e with ⟨rfl, q⟩ | ⟨m, e⟩
  · rcases set_get es with ⟨_, z⟩ | ⟨z, _⟩
    · cases z; exact (n rfl).elim
    · exact (z rfl).elim
  · rw [List.getElem?_set_ne m] at es
    exact aw j s e k es
theorem storeR_ok : ∀ {is : List Nat} {rs : List Rv} {vs : List V} {σ : St} {env env' : En}, Rep g F H σ env → storeR pm is rs env = some env' → HeldL g F H σ env N0 (rs.map fun r => .vl r.1 r.2) vs →
    Rep g F H (setL σ is vs) env' ∧ (∀ a, Own (setL σ is vs) env' a → N0 a ∨ Own σ env a) ∧ StR pm σ (setL σ is vs) env env' ∧ vs.length = is.length
  | [], [], _, σ, env, _, R, e, .nil => by cases e; exact ⟨R, fun _ h => .inr h, .refl, rfl⟩
  | i :: is, (q, f) :: rs, _, σ, env, _, R, e, .cons (v := v) (vs := vs) a b c => by
    unfold storeR at e
    split at e
    · rename_i env1 h1
      have st := str_store (σ := σ) (v := v) h1
      obtain ⟨rfl, _⟩ := store_eq h1
      have R1 := rep_store (i := i) R a
      have hl : HeldL g F H (σ.set i (some v)) (env.set i (some ⟨q, kd f⟩)) N0 (rs.map fun r => .vl r.1 r.2) vs := by
        have : ∀ {ps : List Rv} {ws : List V}, HeldL g F H σ env N0 (ps.map fun r => .vl r.1 r.2) ws → (f = true → ∀ (k : Nat) (o' : Opd), (ps.map fun r => Opd.vl r.1 r.2)[k]? = some o' → o'.fr = true → ws[k]? ≠ some v) → HeldL g F H (σ.set i (some v)) (env.set i (some ⟨q, kd f⟩)) N0 (ps.map fun r => .vl r.1 r.2) ws := by
          intro ps
          induction ps with
          | nil => intro ws h _; cases h; exact .nil
          | cons r ps ih =>
            intro ws h hn
            cases h with
            | cons a1 b1 c1 =>
              refine .cons ?_ b1 (ih c1 fun z k o' e f => hn z (k + 1) o' e f)
              obtain ⟨rp, rf⟩ := r
              cases rf with
              | false => exact a1
              | true =>
                obtain ⟨b2, rfl, nb, cb, nn, aw⟩ := a1
                refine ⟨b2, rfl, nb, cb, nn, ?_⟩
                cases f with
                | false => exact aw.storeF
                | true => exact aw.storeT (b := b2) fun z => hn rfl 0 _ rfl rfl (by rw [z]; rfl)
        exact this c fun z => b (by rw [z]; rfl)
      obtain ⟨R2, o2, s2, l2⟩ := storeR_ok R1 e hl
      refine ⟨R2, fun a1 h => ?_, st.trans s2, by simp [l2]⟩
      rcases o2 a1 h with z | z
      · exact .inl z
      · rcases own_store z with ⟨z1, z2⟩ | z
        · subst z1
          obtain ⟨b2, e2, _, _, nn, _⟩ := a
          rw [z2] at e2; cases e2
          exact .inl nn
        · exact .inr z
    · cases e
  | [], _ :: _, _, _, _, _, _, e, _ => by cases e
  | _ :: _, [], _, _, _, _, _, e, _ => by cases e
theorem RepK.put {k : Key} {y : PV} {w : V} {ps : List (Key × PV)} {vs : List (Key × V)} (l : RepK g F H ps vs) (r : RepV g F H y w) : RepK g F H (putP ps k y) (putK vs k w) := by
  have any : ∀ {ps : List (Key × PV)} {vs : List (Key × V)}, RepK g F H ps vs → (ps.any fun kv => decide (kv.1 = k)) = (vs.any fun kv => decide (kv.1 = k)) := by
    intro ps
    induction ps with
    | nil => intro vs h; cases h; rfl
    | cons q ps ih => intro vs h; cases h with | cons a b => rw [List.any_cons, List.any_cons, ih b]
  have mp : ∀ {ps : List (Key × PV)} {vs : List (Key × V)}, RepK g F H ps vs → RepK g F H (ps.map fun kv => if kv.1 = k then (kv.1, y) else kv) (vs.map fun kv => if kv.1 = k then (kv.1, w) else kv) := by
    intro ps
    induction ps with
    | nil => intro vs h; cases h; exact .nil
    | cons q ps ih =>
      intro vs h
      cases h with
      | @cons k' _ _ _ _ a b =>
        rw [List.map_cons, List.map_cons]
        by_cases hk : k' = k
        · simp only [hk, if_true]; exact .cons r (ih b)
        · simp only [hk, if_false]; exact .cons a (ih b)
  have ap : ∀ {ps : List (Key × PV)} {vs : List (Key × V)}, RepK g F H ps vs → RepK g F H (ps ++ [(k, y)]) (vs ++ [(k, w)]) := by
    intro ps
    induction ps with
    | nil => intro vs h; cases h; exact .cons r .nil
    | cons q ps ih => intro vs h; cases h with | cons a b => exact .cons a (ih b)
  unfold putP putK
  rw [any l]
  split
  · exact mp l
  · exact ap l
theorem RepT.put {k : List Key} {y : PV} {w : V} {ps : List (List Key × PV)} {vs : List (List Key × V)} (l : RepT g F H ps vs) (r : RepV g F H y w) : RepT g F H (putP ps k y) (putK vs k w) := by
  have any : ∀ {ps : List (List Key × PV)} {vs : List (List Key × V)}, RepT g F H ps vs → (ps.any fun kv => decide (kv.1 = k)) = (vs.any fun kv => decide (kv.1 = k)) := by
    intro ps
    induction ps with
    | nil => intro vs h; cases h; rfl
    | cons q ps ih => intro vs h; cases h with | cons a b => rw [List.any_cons, List.any_cons, ih b]
  have mp : ∀ {ps : List (List Key × PV)} {vs : List (List Key × V)}, RepT g F H ps vs → RepT g F H (ps.map fun kv => if kv.1 = k then (kv.1, y) else kv) (vs.map fun kv => if kv.1 = k then (kv.1, w) else kv) := by
    intro ps
    induction ps with
    | nil => intro vs h; cases h; exact .nil
    | cons q ps ih =>
      intro vs h
      cases h with
      | @cons k' _ _ _ _ a b =>
        rw [List.map_cons, List.map_cons]
        by_cases hk : k' = k
        · simp only [hk, if_true]; exact .cons r (ih b)
        · simp only [hk, if_false]; exact .cons a (ih b)
  have ap : ∀ {ps : List (List Key × PV)} {vs : List (List Key × V)}, RepT g F H ps vs → RepT g F H (ps ++ [(k, y)]) (vs ++ [(k, w)]) := by
    intro ps
    induction ps with
    | nil => intro vs h; cases h; exact .cons r .nil
    | cons q ps ih => intro vs h; cases h with | cons a b => exact .cons a (ih b)
  unfold putP putK
  rw [any l]
  split
  · exact mp l
  · exact ap l
theorem RepT.length : ∀ {ps : List (List Key × PV)} {vs : List (List Key × V)}, RepT g F H ps vs → ps.length = vs.length
  | _, _, .nil => rfl
  | _, _, .cons _ t => congrArg Nat.succ t.length
end
end L2.Pz
set_option Elab.async false
set_option linter.all false
set_option maxRecDepth 100000
set_option maxHeartbeats 4000000
namespace L2.Pz
set_option autoImplicit false
open PySem PySem.Spec PyProof.Rows L2

/-! ## Pz20: the checker of statements -/
def swBl (Γ : Scope) (x : Str) (px : Pos) : Expr → Bool
  | .ListComp _ _ s q | .SetComp _ _ s q | .DictComp _ _ _ s q => (Γ.names.lookup x == some .local) && (px.line == q.line) && !(s.names.any fun (n, k) => n == x && (k == .local || k == .cell))
  | _ => false
theorem swBl_ok {env : Env} (hk : env.scope.kind = .function) (x : Str) (px : Pos) (l : Nat) (e : Expr) : swapsWith e (some (.Name x px)) l env = pure (swBl env.scope x px e) := by
  have hb : env.blockKind = .function := by unfold Env.blockKind; rw [hk]; rfl
  cases e <;> first | rfl | (unfold swapsWith swBl; simp only [hb, Expr.pos, Env.kindOf]; rfl)
def notCompE : Expr → Bool
  | .ListComp _ _ _ _ | .SetComp _ _ _ _ | .DictComp _ _ _ _ _ => false
  | _ => true
theorem swNo {env : Env} {e : Expr} (h : notCompE e = true) (t : Option Expr) (l : Nat) : swapsWith e t l env = pure false := by
  cases e <;> first | rfl | cases h
theorem swTup {env : Env} {e : Expr} {ts : List Expr} {k : Nat} {p : Pos} (l : Nat) : swapsWithSole [.Tuple ts k p] e l env = pure false := by
  cases e <;> rfl
theorem swSub {env : Env} {e o i : Expr} {p : Pos} (l : Nat) : swapsWithSole [.Subscript o i p] e l env = pure false := by
  cases e <;> rfl
/-- the names of a tuple target that are plain locals on its line -/
def swNames (Γ : Scope) (ts : List Expr) : List Str := ts.filterMap fun
    | .Name id pos => if Γ.names.lookup id == some .local && pos.line == ((ts.head?.map (·.pos.line)).getD 0) then some id else none
    | _ => none
def noSw (Γ : Scope) (ts vs : List Expr) : Bool := !(ts.length == 2 || ts.length == 3) || vs.length != ts.length || (swNames Γ ts).length != ts.length || (swNames Γ ts).eraseDups.length != (swNames Γ ts).length || vs.all (foldedForSure 8)
def yesSw (Γ : Scope) (ts vs : List Expr) : Bool := (ts.length == 2 || ts.length == 3) && vs.length == ts.length && vs.all nstar && (swNames Γ ts).length == ts.length && (swNames Γ ts).eraseDups.length == (swNames Γ ts).length && !(vs.all (foldedForSure 8)) && !(vs.all (constantsAlone 8))
theorem yesSw_ok {env : Env} (hk : env.scope.kind = .function) {ts vs : List Expr} {k k2 : Nat} {p p2 : Pos} (h : yesSw env.scope ts vs = true) : swappedStores [.Tuple ts k p] (.Tuple vs k2 p2) env = pure (some (swNames env.scope ts)) := by
  have hb : env.blockKind = .function := by unfold Env.blockKind; rw [hk]; rfl
  unfold yesSw at h
  simp only [Bool.and_eq_true, Bool.not_eq_true'] at h
  obtain ⟨⟨⟨⟨⟨⟨h1, h2⟩, h3⟩, h4⟩, h5⟩, h6⟩, h7⟩ := h
  have h2' : (vs.length != ts.length) = false := by rw [bne, h2]; rfl
  have h4' : ((swNames env.scope ts).length != ts.length) = false := by rw [bne, h4]; rfl
  have h5' : ((swNames env.scope ts).eraseDups.length != (swNames env.scope ts).length) = false := by rw [bne, h5]; rfl
  have h3' : (vs.any fun | .Starred .. => true | _ => false) = false := by
    rw [List.any_eq_false]
    intro e he
    have := List.all_eq_true.mp h3 e he
    cases e <;> first | (simp [nstar] at this; done) | simp
  unfold swappedStores
  simp only [hb]
  split
  · rename_i n; rw [h1, h2'] at n; exact absurd n (by decide)
  · split
    · rename_i n; exact Bool.noConfusion (show false = true from h3'.symm.trans n)
    · split
      · rename_i n
        have n : ((swNames env.scope ts).length != ts.length || (swNames env.scope ts).eraseDups.length != (swNames env.scope ts).length) = true := n
        rw [h4', h5'] at n; cases n
      · split
        · rename_i n; rw [h6] at n; cases n
        · split
          · rename_i n; rw [h7] at n; cases n
          · rfl
theorem noSw_ok {env : Env} (hk : env.scope.kind = .function) {ts vs : List Expr} {k k2 : Nat} {p p2 : Pos} (h : noSw env.scope ts vs = true) : swappedStores [.Tuple ts k p] (.Tuple vs k2 p2) env = pure none := by
  have hb : env.blockKind = .function := by unfold Env.blockKind; rw [hk]; rfl
  unfold noSw at h
  simp only [Bool.or_eq_true, Bool.not_eq_true'] at h
  unfold swappedStores
  simp only [hb]
  split
  · rfl
  · split
    · rfl
    · rename_i n1 n2
      split
      · rfl
      · rename_i n3
        have n3 : ¬ ((swNames env.scope ts).length != ts.length || (swNames env.scope ts).eraseDups.length != (swNames env.scope ts).length) = true := n3
        split
        · rfl
        · rename_i n4
          simp only [Bool.or_eq_true, not_or, Bool.not_eq_true'] at n1 n3
          rcases h with (((h | h) | h) | h) | h
          · exact (n1.1.1 h).elim
          · exact (n1.1.2 h).elim
          · exact (n3.1 h).elim
          · exact (n3.2 h).elim
          · exact (n4 h).elim

section
variable (N : List Str) (nf : Nf)
def notTupE : Expr → Bool
  | .Tuple _ _ _ => false
  | _ => true
def isTupOf (Γ : Scope) (ts : List Expr) : Expr → Bool
  | .Tuple vs _ _ => noSw Γ ts vs
  | _ => true
def chkP (Γ : Scope) : Plc → Expr → Bool
  | .nm i, .Name x _ => decide (N[i]? = some x) && locB Γ x
  | .it i k, .Subscript (.Name x _) k' _ => nmB N Γ i x && chkE N nf Γ k k' && plainIxB k'
  | .mn is, .Tuple es _ _ => tgB.tgsB N Γ is es
  | _, _ => false
def chkPs (Γ : Scope) : List Plc → List Expr → Bool
  | [], [] => true
  | t :: ts, e :: es => chkP N nf Γ t e && chkPs Γ ts es
  | _, _ => false
mutual
def chkS (Γ : Scope) : S → Stmt → Bool
  | .ex e, .Expr e' _ => chkE N nf Γ e e' && notCompE e' && e.sv
  | .set i e, .Assign [.Name x px] e' _ => decide (N[i]? = some x) && locB Γ x && chkE N nf Γ e e' && (match swBl Γ x px e', e with
    | false, _ => true
    | true, .lc _ _ _ _ => true
    | true, .lc2 _ _ _ _ _ _ _ => true
    | true, _ => false)
  | .unp is e, .Assign [.Tuple ts _ _] e' _ => tgB.tgsB N Γ is ts && chkE N nf Γ e e' && isTupOf Γ ts e'
  | .par is es, .Assign [.Tuple ts _ _] (.Tuple es' _ _) _ => (decide (is.Nodup) && chkEs N nf Γ es es' && yesSw Γ ts es' && decide (swNames Γ ts = is.map fun i => N.getD i (Str.ofString "")) && is.all (fun i => (match N[i]? with
      | some x => (Γ.names.lookup x == some .local)
      | none => false)) && (match ts with
    | [.Name _ _, .Name _ _] => true
    | [.Name _ _, .Name _ _, .Name _ _] => true
    | _ => false)) || (chkEs N nf Γ es es' && tgB.tgsB N Γ is ts && noSw Γ ts es' && decide (is.length ≤ 1000))
  | .pst ts es, .Assign [.Tuple ts' _ _] (.Tuple es' _ _) _ => chkEs N nf Γ es es' && chkPs N nf Γ ts ts' && noSw Γ ts' es' && decide (ts.length ≤ 1000)
  | .sti i k e, .Assign [.Subscript (.Name x _) k' _] e' _ => nmB N Γ i x && chkE N nf Γ k k' && chkE N nf Γ e e' && plainIxB k'
  | .aug i .add e, .AugAssign (.Name x _) .Add e' _ => decide (N[i]? = some x) && locB Γ x && chkE N nf Γ e e'
  | .aug i .sub e, .AugAssign (.Name x _) .Sub e' _ => decide (N[i]? = some x) && locB Γ x && chkE N nf Γ e e'
  | .ite c a b, .If c' a' b' _ => chkE N nf Γ c c' && chkSs Γ a a' && chkSs Γ b b'
  | .whl c b, .While c' b' [] _ => chkE N nf Γ c c' && chkSs Γ b b'
  | .for_ tg it b, .For tg' it' b' [] _ => tgB N Γ tg tg' && chkE N nf Γ it it' && itB it tg' it' && chkSs Γ b b'
  | .ret e, .Return (some e') _ => chkE N nf Γ e e'
  | .retN, .Return none _ => true
  | .nev, _ => true
  | .pas, .Pass _ => true
  | .pas, .Expr (.Constant (.str _) _ _) _ => true
  | _, _ => false
def chkSs (Γ : Scope) : List S → List Stmt → Bool
  | [], [] => true
  | s :: ss, t :: ts => chkS Γ s t && chkSs Γ ss ts
  | _, _ => false
end
end

section
variable {g : Gw} {M : Nat → List Md} {C : Cl} {d : Nat} {N : List Str} {nf : Nf} {X : Cx} {F F0 F' : Ad} {H H0 H' : Hp} {σ : St} {env env' : En} {O0 N0 : Ad} {o : Opd} {v : V} {p p' : PV} {a : Addr} {i : Nat} {f : Bool} {pm : List Nat} {W : Lp}
/-- where a body's statements stand -/
structure SxOk (g : Gw) (M : Nat → List Md) (C : Cl) (d : Nat) (N : List Str) (nf : Nf) (X : Cx) : Prop where
  ok : CxOk g M C d N nf X
  kind : X.env.scope.kind = .function
  loc : ∀ x, locB X.env.scope x = true → Loc X.env.scope x ∧ (X.fn x = true ∨ X.env.scope.names.lookup x = some .local)
/-- what is wanted behind statements -/
def FinS (g : Gw) (pm : List Nat) (σ : St) (F : Ad) (H : Hp) (env : En) (fl : Fl) (D : Ends) : Prop := match fl with
  | .nx env' => ∀ σ' F' H', Ext F H (Own σ env) F' H' (Own σ' env') → Rep g F' H' σ' env' → StR pm σ σ' env env' → D.nx σ' H'
  | .rt p k env' => ∀ v σ' F' H', Ext F H (Own σ env) F' H' (Own σ' env') → Rep g F' H' σ' env' → StR pm σ σ' env env' → HeldO g F' H' σ' env' (New H (Own σ env)) (.vl p k) v → D.rt v H'
theorem FinS.pre {σ1 : St} {F1 : Ad} {H1 : Hp} {env1 : En} {fl : Fl} {D : Ends} (h : FinS g pm σ F H env fl D) (x : Ext F H (Own σ env) F1 H1 (Own σ1 env1)) (s : StR pm σ σ1 env env1) : FinS g pm σ1 F1 H1 env1 fl D := by
  cases fl with
  | nx env' => exact fun σ' F' H' x' R' s' => h σ' F' H' (x.tr x') R' (s.trans s')
  | rt p k env' => exact fun v σ' F' H' x' R' s' hv => h v σ' F' H' (x.tr x') R' (s.trans s') (hv.wid x.new)
variable (g M C W pm) in
def tS (s : S) : TS := fun D σ H => ∃ F env fl, Rep g F H σ env ∧ ex M C W pm s env = some fl ∧ FinS g pm σ F H env fl D
variable (g M C W pm) in
def tSs (ss : List S) : TS := fun D σ H => ∃ F env fl, Rep g F H σ env ∧ exs M C W pm ss env = some fl ∧ FinS g pm σ F H env fl D
theorem psI {st : Stmt} {t t' : TS} (h : PS X st t) (f : ∀ D σ H, t' D σ H → t D σ H) : PS X st t' := ⟨fun pins s σ H D I q => h.run pins s σ H D I (f D σ H q)⟩
theorem pssI {st : List Stmt} {t t' : TS} (h : PSs X st t) (f : ∀ D σ H, t' D σ H → t D σ H) : PSs X st t' := ⟨fun pins s σ H D I q => h.run pins s σ H D I (f D σ H q)⟩
theorem tSs_nil {D : Ends} {σ : St} {H : Hp} (h : tSs g M C pm W [] D σ H) : tNext D σ H := by
  obtain ⟨F, env, fl, R, e, k⟩ := h
  simp only [exs] at e
  cases e
  exact k σ F H .refl R .refl
theorem tSs_cons {s : S} {ss : List S} {D : Ends} {σ : St} {H : Hp} (h : tSs g M C pm W (s :: ss) D σ H) : tSeq (tS g M C pm W s) (tSs g M C pm W ss) D σ H := by
  obtain ⟨F, env, fl, R, e, k⟩ := h
  simp only [exs] at e
  split at e
  · rename_i env1 h1
    exact ⟨F, env, .nx env1, R, h1, fun σ1 F1 H1 x1 R1 s1 => ⟨F1, env1, fl, R1, e, k.pre x1 s1⟩⟩
  · rename_i r h1
    refine ⟨F, env, fl, R, e, ?_⟩
    cases fl with
    | nx env' => exact (h1 env' (by rw [e])).elim
    | rt p kk env' => exact k
/-- name = e, whatever the order of the line's marks -/
theorem set_go {e : E} {D : Ends} {σ : St} {H : Hp} (h : tS g M C pm W (.set i e) D σ H) : tAsg (tEv g M C e) (gName i) D σ H := by
  obtain ⟨F, env, fl, R, ee, k⟩ := h
  simp only [ex] at ee
  split at ee
  case h_2 => cases ee
  rename_i x env1 h1
  split at ee
  case h_2 => cases ee
  rename_i p f env2 h2
  split at ee
  case h_2 => cases ee
  rename_i env3 h3
  cases ee
  refine ⟨F, env, x, env1, R, h1, ?_, fun v F1 H1 x1 R1 hv => ?_⟩
  · cases x with
    | wk _ _ => cases h2
    | vl _ _ => rfl
    | sl _ => rfl
  obtain ⟨F2, m⟩ := move_ok R1 x1 hv h2
  have st := str_store (σ := σ) (v := v) h3
  obtain ⟨rfl, _⟩ := store_eq h3
  refine k _ F2 H1 (m.ext.own' fun a h => ?_) (rep_store m.rep m.held) (((ev_rel e h1).str.trans m.str).trans st)
  rcases own_store h with ⟨z1, z2⟩ | z
  · subst z1
    obtain ⟨b, eb, _, _, nb, _⟩ := m.held
    rw [z2] at eb; cases eb
    exact nb
  · exact m.ext.newO a z
theorem ret_go {e : E} {D : Ends} {σ : St} {H : Hp} (h : tS g M C pm W (.ret e) D σ H) : tRet (tEv g M C e) D σ H := by
  obtain ⟨F, env, fl, R, ee, k⟩ := h
  simp only [ex] at ee
  split at ee
  case h_2 => cases ee
  rename_i x env1 h1
  split at ee
  case h_2 => cases ee
  rename_i p f env2 h2
  cases ee
  refine ⟨F, env, x, env1, R, h1, ?_, fun v F1 H1 x1 R1 hv => ?_⟩
  · cases x with
    | wk _ _ => cases h2
    | vl _ _ => rfl
    | sl _ => rfl
  obtain ⟨F2, m⟩ := move_ok R1 x1 hv h2
  exact k v σ F2 H1 m.ext m.rep ((ev_rel e h1).str.trans m.str) m.held
theorem str_stores {is : List Nat} {ps : List PV} {σ σ1 : St} {env1 env2 : En} (h3 : stores pm is ps env1 = some env2) (g2 : ∀ j, j ∉ is → σ1[j]? = σ[j]?) : StR pm σ σ1 env1 env2 := by
  have this : ∀ {is : List Nat} {ps : List PV} {env env' : En}, stores pm is ps env = some env' → (∀ (i : Nat) (q : PV), env[i]? = some (some ⟨q, .lk⟩) → i ∉ is ∧ env'[i]? = some (some ⟨q, .lk⟩)) ∧ ∀ i ∈ pm, i ∉ is := by
    intro is
    induction is with
    | nil => intro ps env env' h; cases ps with
      | nil => cases h; exact ⟨fun i q e => ⟨by simp, e⟩, fun i _ => by simp⟩
      | cons _ _ => cases h
    | cons j is ih =>
      intro ps env env' h
      cases ps with
      | nil => cases h
      | cons q ps =>
        unfold stores at h
        split at h
        · rename_i env1 h1
          obtain ⟨i1, i2⟩ := ih h
          obtain ⟨rfl, hp, hk, _⟩ := store_eq h1
          refine ⟨fun i q e => ?_, fun i hi => ?_⟩
          · have hj : j ≠ i := fun z => hk q (by rw [z]; exact e)
            obtain ⟨z1, z2⟩ := i1 i q (by rw [List.getElem?_set_ne hj]; exact e)
            exact ⟨by simp only [List.mem_cons, not_or]; exact ⟨hj.symm, z1⟩, z2⟩
          · simp only [List.mem_cons, not_or]
            exact ⟨fun z => hp (by rw [← z]; exact hi), i2 i hi⟩
        · cases h
  obtain ⟨s1, s2⟩ := this h3
  exact ⟨fun i q e => ⟨(s1 i q e).2, g2 i (s1 i q e).1⟩, fun i hi => g2 i (s2 i hi)⟩
theorem unp_go {is : List Nat} {e : E} {D : Ends} {σ : St} {H : Hp} (h : tS g M C pm W (.unp is e) D σ H) : tAsg (tEv g M C e) (gTg (.many is)) D σ H := by
  obtain ⟨F, env, fl, R, ee, k⟩ := h
  simp only [ex] at ee
  split at ee
  case h_2 => cases ee
  rename_i x env1 h1
  have key : ∀ (ps : List PV) (px : PV), deref env1 x = some px → (px = .tup ps ∨ px = .lst ps) → (match stores pm is ps env1 with
      | some env => some (Fl.nx env)
      | none => none) = some fl → tAsg (tEv g M C e) (gTg (.many is)) D σ H := by
    intro ps px h2 hpx ee
    split at ee
    case h_2 => cases ee
    rename_i env2 h3
    cases ee
    refine ⟨F, env, x, env1, R, h1, ok_d h2, fun v F1 H1 x1 R1 hv => ?_⟩
    have hl : ∃ a vs, v = .ref a ∧ (H1 a = some (.tup vs) ∨ H1 a = some (.lst vs)) ∧ RepL g F1 H1 ps vs := by
      rcases hpx with rfl | rfl
      · obtain ⟨a, vs, e1, e2, e3⟩ := (hv.peek R1 h2).tup
        exact ⟨a, vs, e1, .inl e2, e3⟩
      · obtain ⟨a, vs, e1, e2, e3⟩ := (hv.peek R1 h2).lst
        exact ⟨a, vs, e1, .inr e2, e3⟩
    obtain ⟨a, vs, rfl, ha, l⟩ := hl
    obtain ⟨R2, o2, a2, g2, l1, l2⟩ := stores_ok R1 h3 l
    exact ⟨a, vs, rfl, ha, l1, k _ F1 H1 (x1.sub o2) R2 ((ev_rel e h1).str.trans (str_stores h3 (g2 is fun _ z => z)))⟩
  split at ee
  case h_3 => cases ee
  · exact key _ _ (by assumption) (.inl rfl) ee
  · exact key _ _ (by assumption) (.inr rfl) ee
theorem par_go {is : List Nat} {es : List E} {D : Ends} {σ : St} {H : Hp} (h : tS g M C pm W (.par is es) D σ H) : tEs g M C es σ H fun vs H1 => vs.length = is.length ∧ D.nx (setL σ is vs) H1 := by
  obtain ⟨F, env, fl, R, ee, k⟩ := h
  simp only [ex] at ee
  split at ee
  case h_2 => cases ee
  rename_i os env1 h1
  split at ee
  case h_2 => cases ee
  rename_i rs env2 h2
  split at ee
  case h_2 => cases ee
  rename_i env3 h3
  cases ee
  have okm : ∀ {os : List Opd} {rs : List Rv} {env env' : En}, moves pm os env = some (rs, env') → os.all Opd.ok = true := by
    intro os
    induction os with
    | nil => intro _ _ _ _; rfl
    | cons o os ih =>
      intro rs env env' h
      unfold moves at h
      split at h
      · rename_i h1
        split at h
        · rename_i h2
          rw [List.all_cons, ih h2, Bool.and_true]
          cases o with
          | wk _ _ => cases h1
          | vl _ _ => rfl
          | sl _ => rfl
        · cases h
      · cases h
  refine ⟨F, env, os, env1, R, h1, okm h2, fun vs F1 H1 x1 R1 hl => ?_⟩
  obtain ⟨F2, m2, x2, R2, h4, st, _, _⟩ := moves_ok R1 x1 hl h2
  obtain ⟨R3, o3, s3, l3⟩ := storeR_ok R2 h3 h4
  refine ⟨l3, k _ F2 H1 (x2.own' fun a h => ?_) R3 (((evs_rel es h1).str.trans st).trans s3)⟩
  rcases o3 a h with z | z
  · exact z
  · exact x2.newO a z
theorem aug_go {j : Bop} {e : E} {D : Ends} {σ : St} {H : Hp} {fn : Int → Int → Int} (hj : ∀ p q : Int, binF j (.int p) (.int q) = some (.int (fn p q), false)) (h : tS g M C pm W (.aug i j e) D σ H) : tAug i (tEv g M C e) (ipI fn) D σ H := by
  obtain ⟨F, env, fl, R, ee, k⟩ := h
  simp only [ex] at ee
  split at ee
  case h_2 => cases ee
  rename_i y env1 h1
  split at ee
  case h_2 => cases ee
  rename_i p q h2 h3
  rw [hj] at ee
  simp only at ee
  split at ee
  case h_2 => cases ee
  rename_i env2 h4
  cases ee
  have er := ev_rel e h1
  have hs : ∃ s, env1[i]? = some (some s) ∧ s.v = .int p := by
    simp only [deref] at h2
    split at h2
    · rename_i s es; exact ⟨s, es, Option.some.inj h2⟩
    · cases h2
  have hx : ∃ x, σ[i]? = some (some x) := by
    obtain ⟨s, es, _⟩ := hs
    obtain ⟨s0, e0, _⟩ := er.back es
    obtain ⟨w, ew, _⟩ := R.slot i s0 e0
    exact ⟨w, ew⟩
  obtain ⟨x, ex0⟩ := hx
  refine ⟨x, ex0, F, env, y, env1, R, h1, ok_d h3, fun v F1 H1 x1 R1 hv => ?_⟩
  have xi : x = .int p := by
    obtain ⟨s, es, ev⟩ := hs
    obtain ⟨w, ew, r⟩ := R1.slot i s es
    rw [ex0] at ew; cases ew
    have := r.peek
    rw [ev] at this
    exact this.int
  refine ⟨p, q, xi, (hv.peek R1 h3).int, ?_⟩
  have st := str_store (σ := σ) (v := .int (fn p q)) h4
  obtain ⟨rfl, _⟩ := store_eq h4
  refine k _ F1 H1 (x1.sub fun a h => ?_) (rep_store (N0 := fun _ => True) (f := false) R1 (.int _)) (er.str.trans st)
  rcases own_store h with ⟨z, _⟩ | z
  · cases z
  · exact z
theorem sti_go (hK : X.K = g.K) {k e : E} {D : Ends} {σ : St} {H : Hp} (h : tS g M C pm W (.sti i k e) D σ H) : tAsg (tEv g M C e) (gSub (tVar i) (tEv g M C k) (fun o i v H Q => rSetL o i v H Q ∨ rSetD o i v H Q)) D σ H := by
  obtain ⟨F, env, fl, R, ee, kk⟩ := h
  simp only [ex] at ee
  split at ee
  case h_2 => cases ee
  rename_i y env1 h1
  split at ee
  case h_2 => cases ee
  rename_i yp env2 h2
  split at ee
  case h_2 => cases ee
  rename_i ko env3 h3
  split at ee
  case h_2 => cases ee
  rename_i kp p h4 h5
  split at ee
  case h_2 => cases ee
  rename_i p' h6
  cases ee
  have er2 := consume_rel h2
  have er3 := ev_rel k h3
  refine ⟨F, env, y, env1, R, h1, ok_c h2, fun v F1 H1 x1 R1 hv => ?_⟩
  obtain ⟨F2, c, r⟩ := consume_ok R1 x1 hv h2
  have hx : ∃ x, σ[i]? = some (some x) := by
    obtain ⟨s0, e0, _⟩ := er3.back h5
    obtain ⟨w, ew, _⟩ := c.rep.slot i s0 e0
    exact ⟨w, ew⟩
  obtain ⟨x, ex0⟩ := hx
  refine ⟨x, ex0, F2, env2, ko, env3, c.rep, h3, ok_d h4, fun kv F3 H3 x3 R3 hkv => ?_⟩
  obtain ⟨l, el, nl, cl⟩ := R3.exc h5 rfl
  rw [ex0] at el; cases el
  have r3 : RepV g F3 H3 yp v := r.ext x3 fun b hb => c.rep.ownF hb
  have pk := hkv.peek R3 h4
  have fin : ∀ {u : HO} {p' : PV}, RepC g F3 (upd H3 l u) l p' → FinS g pm σ F H env (.nx (env3.set i (some ⟨p', .own⟩))) D → D.nx σ (upd H3 l u) := fun {u p'} rc kk => by
    obtain ⟨R4, x4⟩ := rep_own R3 h5 ex0 rc
    exact kk σ F3 _ ((c.ext.tr x3).tr x4) R4 (((((ev_rel e h1).trans er2).trans er3).trans (EnvRel.setFz h5 (.inl rfl))).str)
  have kp : ∀ {u : HO} (b : Addr) (o : HO), F3 b → H3 b = some o → (upd H3 l u) b = some o := fun b o hb e => by rw [upd_ne (ne_nf nl hb)]; exact e
  unfold setF at h6
  split at h6
  · rename_i xs j
    obtain ⟨n, en, rfl⟩ := Option.map_eq_some_iff.mp h6
    cases cl with
    | lst eH lv =>
      rename_i us
      left
      refine ⟨l, us, j, n, rfl, pk.int, eH, by rw [← lv.length]; exact en, fin (.lst upd_same ((lv.set r3 n).mono (fun _ h => h) kp)) kk⟩
  · rename_i kvs
    split at h6
    · rename_i key ek
      split at h6
      · rename_i hz
        cases h6
        cases cl with
        | dk eH lv =>
          rename_i us
          right
          have e1 := toKey_some pk ek
          subst e1
          exact ⟨l, _, rfl, DPut.k eH (by rw [← lv.length]; exact hz), fin (.dk upd_same ((lv.put r3).mono (fun _ h => h) kp)) kk⟩
      · cases h6
    · cases h6
  · rename_i kvs ks
    split at h6
    · rename_i key ek
      split at h6
      · rename_i hz
        cases h6
        cases cl with
        | dt eH lv =>
          rename_i us
          right
          obtain ⟨b, ws, rfl, eb, lb⟩ := pk.tup
          have e1 := toKeys_some lb ek
          subst e1
          exact ⟨l, _, rfl, DPut.t eH eb (by rw [← lv.length]; exact hz), fin (.dt upd_same ((lv.put r3).mono (fun _ h => h) kp)) kk⟩
      · cases h6
    · cases h6
  · cases h6
/-- one thing is stored at a place -/
theorem sti_step {k : E} {σ : St} {F : Ad} {H : Hp} {env env3 : En} {yp kp p p' : PV} {ko : Opd} {v : V} {Q : St → Hp → Prop} (R : Rep g F H σ env) (r : RepV g F H yp v) (h3 : ev M C k env = some (ko, env3)) (h4 : deref env3 ko = some kp) (h5 : env3[i]? = some (some ⟨p, .own⟩)) (h6 : setF p kp yp = some p')
    (kk : ∀ F' H', Ext F H (Own σ env) F' H' (Own σ (env3.set i (some ⟨p', .own⟩))) → Rep g F' H' σ (env3.set i (some ⟨p', .own⟩)) → StR pm σ σ env (env3.set i (some ⟨p', .own⟩)) → Q σ H') :
    gSub (tVar i) (tEv g M C k) (fun o i v H Q => rSetL o i v H Q ∨ rSetD o i v H Q) v σ H Q := by
  have er3 := ev_rel k h3
  have hx : ∃ x, σ[i]? = some (some x) := by
    obtain ⟨s0, e0, _⟩ := er3.back h5
    obtain ⟨w, ew, _⟩ := R.slot i s0 e0
    exact ⟨w, ew⟩
  obtain ⟨x, ex0⟩ := hx
  refine ⟨x, ex0, F, env, ko, env3, R, h3, ok_d h4, fun kv F3 H3 x3 R3 hkv => ?_⟩
  obtain ⟨l, el, nl, cl⟩ := R3.exc h5 rfl
  rw [ex0] at el; cases el
  have r3 : RepV g F3 H3 yp v := r.ext x3 fun b hb => R.ownF hb
  have pk := hkv.peek R3 h4
  have fin : ∀ {u : HO} {p' : PV}, RepC g F3 (upd H3 l u) l p' → (∀ F' H', Ext F H (Own σ env) F' H' (Own σ (env3.set i (some ⟨p', .own⟩))) → Rep g F' H' σ (env3.set i (some ⟨p', .own⟩)) → StR pm σ σ env (env3.set i (some ⟨p', .own⟩)) → Q σ H') → Q σ (upd H3 l u) := fun {u p'} rc kk => by
    obtain ⟨R4, x4⟩ := rep_own R3 h5 ex0 rc
    exact kk F3 _ (x3.tr x4) R4 ((er3.trans (EnvRel.setFz h5 (.inl rfl))).str)
  have kp : ∀ {u : HO} (b : Addr) (o : HO), F3 b → H3 b = some o → (upd H3 l u) b = some o := fun b o hb e => by rw [upd_ne (ne_nf nl hb)]; exact e
  unfold setF at h6
  split at h6
  · rename_i xs j
    obtain ⟨n, en, rfl⟩ := Option.map_eq_some_iff.mp h6
    cases cl with
    | lst eH lv =>
      rename_i us
      left
      refine ⟨l, us, j, n, rfl, pk.int, eH, by rw [← lv.length]; exact en, fin (.lst upd_same ((lv.set r3 n).mono (fun _ h => h) kp)) kk⟩
  · rename_i kvs
    split at h6
    · rename_i key ek
      split at h6
      · rename_i hz
        cases h6
        cases cl with
        | dk eH lv =>
          rename_i us
          right
          have e1 := toKey_some pk ek
          subst e1
          exact ⟨l, _, rfl, DPut.k eH (by rw [← lv.length]; exact hz), fin (.dk upd_same ((lv.put r3).mono (fun _ h => h) kp)) kk⟩
      · cases h6
    · cases h6
  · rename_i kvs ks
    split at h6
    · rename_i key ek
      split at h6
      · rename_i hz
        cases h6
        cases cl with
        | dt eH lv =>
          rename_i us
          right
          obtain ⟨b, ws, rfl, eb, lb⟩ := pk.tup
          have e1 := toKeys_some lb ek
          subst e1
          exact ⟨l, _, rfl, DPut.t eH eb (by rw [← lv.length]; exact hz), fin (.dt upd_same ((lv.put r3).mono (fun _ h => h) kp)) kk⟩
      · cases h6
    · cases h6
  · cases h6
/-- the places' readings -/
def gPs (g : Gw) (M : Nat → List Md) (C : Cl) : List Plc → TGs
  | [] => gNil
  | .nm i :: ts => gCons (gName i) (gPs g M C ts)
  | .it i k :: ts => gCons (gSub (tVar i) (tEv g M C k) (fun o i v H Q => rSetL o i v H Q ∨ rSetD o i v H Q)) (gPs g M C ts)
  | .mn is :: ts => gCons (gTg (.many is)) (gPs g M C ts)
theorem psts_ok : ∀ {ts : List Plc} {ps : List PV} {vs : List V} {F : Ad} {H : Hp} {σ : St} {env env' : En} {Q : St → Hp → Prop}, Rep g F H σ env → RepL g F H ps vs → psts M C pm ts ps env = some env' →
    (∀ σ' F' H', Ext F H (Own σ env) F' H' (Own σ' env') → Rep g F' H' σ' env' → StR pm σ σ' env env' → Q σ' H') → gPs g M C ts vs σ H Q
  | [], [], _, F, H, σ, env, env', Q, R, .nil, e, k => by cases e; exact ⟨rfl, k σ F H .refl R .refl⟩
  | .nm i :: ts, q :: ps, _, F, H, σ, env, env', Q, R, .cons (v := v) (vs := vs) r l, e, k => by
    unfold psts at e
    split at e
    · rename_i env1 h1
      have st := str_store (σ := σ) (v := v) h1
      obtain ⟨rfl, _⟩ := store_eq h1
      have R1 : Rep g F H (σ.set i (some v)) (env.set i (some ⟨q, kd false⟩)) := rep_store (N0 := fun _ => True) (f := false) R r
      refine ⟨v, vs, rfl, ?_⟩
      show gPs g M C ts vs (σ.set i (some v)) H Q
      refine psts_ok R1 l e fun σ' F' H' x' R' s' => k σ' F' H' (x'.wid fun a h => ?_) R' (st.trans s')
      rcases own_store h with ⟨z, _⟩ | z
      · cases z
      · exact z
    · cases e
  | .it i kx :: ts, q :: ps, _, F, H, σ, env, env', Q, R, .cons (v := v) (vs := vs) r l, e, k => by
    unfold psts at e
    split at e
    case h_2 => cases e
    rename_i ko env1 h3
    split at e
    case h_2 => cases e
    rename_i kp p h4 h5
    split at e
    case h_2 => cases e
    rename_i p' h6
    refine ⟨v, vs, rfl, ?_⟩
    refine sti_step (pm := pm) R r h3 h4 h5 h6 fun F1 H1 x1 R1 s1 => ?_
    exact psts_ok R1 (l.ext x1 fun b hb => R.ownF hb) e fun σ' F' H' x' R' s' => k σ' F' H' (x1.tr x') R' (s1.trans s')
  | .mn is :: ts, q :: ps, _, F, H, σ, env, env', Q, R, .cons (v := v) (vs := vs) r l, e, k => by
    cases q with
    | tup qs =>
      unfold psts at e
      split at e
      case h_2 => cases e
      rename_i env1 h1
      cases r with
      | tup hF ha lr =>
        obtain ⟨R2, o2, a2, g2, l1, l2⟩ := stores_ok R h1 lr
        refine ⟨_, vs, rfl, _, _, rfl, .inl ha, l1, ?_⟩
        exact psts_ok R2 l e fun σ' F' H' x' R' s' => k σ' F' H' (x'.wid o2) R' ((str_stores h1 (g2 is fun _ z => z)).trans s')
    | _ => cases e
  | .mn _ :: _, [], _, _, _, _, _, _, _, _, _, e, _ => by cases e
  | [], _ :: _, _, _, _, _, _, _, _, _, _, e, _ => by cases e
  | .nm _ :: _, [], _, _, _, _, _, _, _, _, _, e, _ => by cases e
  | .it _ _ :: _, [], _, _, _, _, _, _, _, _, _, e, _ => by cases e
theorem psts_len : ∀ {ts : List Plc} {ps : List PV} {env env' : En}, psts M C pm ts ps env = some env' → ps.length = ts.length
  | [], [], _, _, _ => rfl
  | .nm i :: ts, q :: ps, env, env', e => by
    unfold psts at e
    split at e
    · rw [List.length_cons, List.length_cons, psts_len e]
    · cases e
  | .it i kx :: ts, q :: ps, env, env', e => by
    unfold psts at e
    repeat' (split at e)
    all_goals first | (cases e; done) | rw [List.length_cons, List.length_cons, psts_len e]
  | .mn is :: ts, q :: ps, env, env', e => by
    cases q with
    | tup qs =>
      unfold psts at e
      split at e
      · rw [List.length_cons, List.length_cons, psts_len e]
      · cases e
    | _ => cases e
  | .mn _ :: _, [], _, _, e => by cases e
  | [], _ :: _, _, _, e => by cases e
  | .nm _ :: _, [], _, _, e => by cases e
  | .it _ _ :: _, [], _, _, e => by cases e
theorem pst_go {ts : List Plc} {es : List E} {D : Ends} {σ : St} {H : Hp} (h : tS g M C pm W (.pst ts es) D σ H) : tEs g M C es σ H fun vs H1 => vs.length = ts.length ∧ gPs g M C ts vs σ H1 D.nx := by
  obtain ⟨F, env, fl, R, ee, k⟩ := h
  simp only [ex] at ee
  split at ee
  case h_2 => cases ee
  rename_i os env1 h1
  split at ee
  case h_2 => cases ee
  rename_i ps env2 h2
  split at ee
  case h_2 => cases ee
  rename_i env3 h3
  cases ee
  refine ⟨F, env, os, env1, R, h1, ok_cs h2, fun vs F1 H1 x1 R1 hl => ?_⟩
  obtain ⟨F2, m2, x2, R2, er, l⟩ := consumes_ok R1 x1 hl h2
  exact ⟨by rw [← l.length, psts_len h3], psts_ok R2 l h3 fun σ' F' H' x' R' s' => k σ' F' H' (x2.tr x') R' (((evs_rel es h1).trans er).str.trans s')⟩
end
end L2.Pz
set_option Elab.async false
set_option linter.all false
set_option maxRecDepth 100000
set_option maxHeartbeats 4000000
namespace L2.Pz
set_option autoImplicit false
open PySem PySem.Spec PyProof.Rows L2

/-! ## Pz21: loops, defs -/
theorem zip_look : ∀ {ps : List Str} {us : List Value}, ps.Nodup → us.length = ps.length → ps.filterMap (fun n => ((ps.zip us).lookup n).map fun v => (n, v)) = ps.zip us
  | [], _, _, _ => rfl
  | p :: ps, [], _, h => by cases h
  | p :: ps, u :: us, nd, h => by
    have nd' := List.nodup_cons.mp nd
    rw [List.zip_cons_cons, List.filterMap_cons]
    have e1 : List.lookup p ((p, u) :: ps.zip us) = some u := by rw [List.lookup_cons]; simp
    rw [e1]
    simp only [Option.map_some]
    congr 1
    have key : ∀ l : List Str, (∀ n ∈ l, n ≠ p) → l.filterMap (fun n => (List.lookup n ((p, u) :: ps.zip us)).map fun v => (n, v)) = l.filterMap (fun n => ((ps.zip us).lookup n).map fun v => (n, v)) := by
      intro l
      induction l with
      | nil => intro _; rfl
      | cons n l ih =>
        intro hl
        have : (n == p) = false := beq_eq_false_iff_ne.mpr (hl n (List.mem_cons_self ..))
        rw [List.filterMap_cons, List.filterMap_cons, List.lookup_cons, this, ih fun m hm => hl m (List.mem_cons_of_mem _ hm)]
    rw [key ps fun n hn z => nd'.1 (z ▸ hn), zip_look nd'.2 (by simpa using h)]
theorem zip_isSome {ps : List Str} {us : List Value} (h : us.length = ps.length) {n : Str} (hn : n ∈ ps) : ((ps.zip us).lookup n).isNone = false := by
  induction ps generalizing us with
  | nil => cases hn
  | cons p ps ih =>
    cases us with
    | nil => cases h
    | cons u us =>
      rw [List.zip_cons_cons, List.lookup_cons]
      by_cases e : n = p
      · subst e; simp
      · have : (n == p) = false := beq_eq_false_iff_ne.mpr e
        rw [this]
        exact ih (by simpa using h) ((List.mem_cons.mp hn).resolve_left e)
def plainArgs (a : Arguments) : Bool := a.posonlyargs.isEmpty && a.vararg.isNone && a.kwonlyargs.isEmpty && a.kwarg.isNone
theorem bind_all {x qual : Str} {params : Arguments} {body : List Stmt} {scope : Scope} {ps : List Str} {kV doc pm : Value} {an : Option Addr} {cdv ct : Value} {us : List Value} (hp : plainArgs params = true) (hn : params.args.map (·.arg) = ps) (nd : ps.Nodup) (hl : us.length = ps.length) :
    bindArgs (PySem.W.fnOf x qual params body scope .none kV doc pm an cdv ct) ⟨us, []⟩ = pure (ps.zip us) := by
  obtain ⟨a1, a2, a3, a4, a5, a6, a7⟩ := params
  unfold plainArgs at hp
  simp only [Bool.and_eq_true, List.isEmpty_iff, Option.isNone_iff_eq_none] at hp
  obtain ⟨⟨⟨rfl, rfl⟩, rfl⟩, rfl⟩ := hp
  have hm : (ps.filter fun n => ((ps.zip us).lookup n).isNone) = [] := by
    rw [List.filter_eq_nil_iff]
    intro n hn
    rw [zip_isSome hl hn]
    decide
  have e0 : seqItems? Value.none = (pure none : Sem _) := rfl
  have zl := zip_look nd hl
  unfold bindArgs
  simp only [PySem.W.fnOf, List.map_nil, List.nil_append, List.append_nil, hn, List.forIn_nil, pure_bind]
  rw [e0, pure_bind]
  simp only [Option.getD_none, List.length_nil, Nat.zero_sub, List.drop_zero, Nat.sub_zero, List.take_length, hm, List.isEmpty_nil, Bool.not_true, Bool.false_eq_true, if_false, List.drop_length, List.zip_nil_right, List.forIn_nil, pure_bind, hl, Nat.lt_irrefl, decide_false, Bool.false_and, gt_iff_lt]
  exact congrArg pure zl

section
variable {g : Gw} {M : Nat → List Md} {C : Cl} {d : Nat} {N : List Str} {nf : Nf} {X : Cx} {F F0 F' : Ad} {H H0 H' : Hp} {σ : St} {env env' : En} {O0 N0 : Ad} {o : Opd} {v : V} {p p' : PV} {a : Addr} {i : Nat} {f : Bool} {pm : List Nat} {W : Lp}
/-- a loop's meaning is that of its turns -/
def LpOk (W : Lp) : Prop := ∀ (f : En → Option (Sum En Fl)) (e : En) (r : Fl), W f e = some r → ∃ n, turns f n e = some r
theorem whl_go (hW : LpOk W) {c : E} {b : List S} {D : Ends} {σ : St} {H : Hp} (h : tS g M C pm W (.whl c b) D σ H) : tWhile (tTs g M C c) (tSs g M C pm W b) D σ H := by
  obtain ⟨F, env, fl, R, ee, k⟩ := h
  simp only [ex] at ee
  obtain ⟨n, hn⟩ := hW _ _ _ ee
  generalize hf : (fun (env : En) => match ev M C c env with
      | some (x, env) => match deref env x with
        | some (.bl true) => match exs M C W pm b env with
          | some (.nx env) => some (Sum.inl env)
          | some r => some (Sum.inr r)
          | none => none
        | some (.bl false) => some (Sum.inr (Fl.nx env))
        | _ => none
      | none => none) = f at hn
  refine ⟨fun m σ' H' => ∃ F' env', Rep g F' H' σ' env' ∧ turns f m env' = some fl ∧ FinS g pm σ' F' H' env' fl D, ⟨n, F, env, R, hn, k⟩, ?_⟩
  rintro m σ1 H1 ⟨F1, env1, R1, hm, k1⟩
  cases m with
  | zero => cases hm
  | succ m =>
    simp only [turns] at hm
    have hf1 := congrFun hf env1
    rw [← hf1] at hm
    cases h1 : ev M C c env1 with
    | none => rw [h1] at hm; cases hm
    | some xe =>
    obtain ⟨x, env2⟩ := xe
    rw [h1] at hm
    simp only at hm
    cases h2 : deref env2 x with
    | none => rw [h2] at hm; cases hm
    | some pv =>
    rw [h2] at hm
    cases pv with
    | bl kb =>
      cases kb with
      | false =>
        simp only at hm
        cases hm
        refine bl_aheadT R1 h1 h2 fun F2 H2 x2 R2 => ?_
        rw [if_neg Bool.false_ne_true]
        exact k1 σ1 F2 H2 x2 R2 (ev_rel c h1).str
      | true =>
        simp only at hm
        refine bl_aheadT R1 h1 h2 fun F2 H2 x2 R2 => ?_
        rw [if_pos rfl]
        have k2 := k1.pre x2 (ev_rel c h1).str
        refine ⟨fun σ' H' => ∃ F' env', Rep g F' H' σ' env' ∧ turns f m env' = some fl ∧ FinS g pm σ' F' H' env' fl D, fun σ' H' h => ⟨m, Nat.lt_succ_self m, h⟩, ?_⟩
        cases h3 : exs M C W pm b env2 with
        | none => rw [h3] at hm; cases hm
        | some r =>
        rw [h3] at hm
        cases r with
        | nx env3 =>
          simp only at hm
          exact ⟨F2, env2, _, R2, h3, fun σ3 F3 H3 x3 R3 s3 => ⟨F3, env3, R3, hm, k2.pre x3 s3⟩⟩
        | rt q kk env3 =>
          simp only at hm
          cases hm
          exact ⟨F2, env2, _, R2, h3, k2⟩
    | _ => cases hm
theorem unlock_own {env : En} {j : Nat} {x : PV} : ∀ {is : List Nat}, (unlock env is)[j]? = some (some ⟨x, .own⟩) → env[j]? = some (some ⟨x, .own⟩) ∨ (j ∈ is ∧ env[j]? = some (some ⟨x, .lk⟩))
  | [], e => .inl e
  | i :: is, e => by
    have e : (unlock1 (unlock env is) i)[j]? = _ := e
    have key : (unlock env is)[j]? = some (some ⟨x, .own⟩) ∨ (j = i ∧ (unlock env is)[j]? = some (some ⟨x, .lk⟩)) := by
      unfold unlock1 at e
      split at e
      · rename_i p h
        rcases set_get e with ⟨rfl, q⟩ | ⟨_, e⟩
        · cases q; exact .inr ⟨rfl, h⟩
        · exact .inl e
      · exact .inl e
    rcases key with k | ⟨rfl, k⟩
    · exact (unlock_own k).imp id fun z => ⟨List.mem_cons_of_mem _ z.1, z.2⟩
    · have : ∀ {is : List Nat}, (unlock env is)[j]? = some (some ⟨x, .lk⟩) → env[j]? = some (some ⟨x, .lk⟩) := by
        intro is
        induction is with
        | nil => intro e; exact e
        | cons i is ih =>
          intro e
          have e : (unlock1 (unlock env is) i)[j]? = _ := e
          unfold unlock1 at e
          split at e
          · rcases set_get e with ⟨rfl, q⟩ | ⟨_, e⟩
            · cases q
            · exact ih e
          · exact ih e
      exact .inr ⟨List.mem_cons_self .., this k⟩
theorem lock_lk {env : En} {i : Nat} {q : PV} (e : env[i]? = some (some ⟨q, .lk⟩)) {is : List Nat} : (lock env is)[i]? = some (some ⟨q, .lk⟩) := by
  rcases lock_get (is := is) e with ⟨_, h⟩ | ⟨_, h, _⟩
  · exact h
  · cases h
theorem for_go {tg : Tg} {it : E} {b : List S} {D : Ends} {σ : St} {H : Hp} (h : tS g M C pm W (.for_ tg it b) D σ H) : tFor (tIt g M C it) (gTg tg) (tSs g M C pm W b) D σ H := by
  obtain ⟨F, env, fl, R, ee, k⟩ := h
  simp only [ex] at ee
  split at ee
  case h_2 => cases ee
  rename_i x env1 h1
  split at ee
  case h_2 => cases ee
  rename_i xs l h2
  refine ⟨F, env, x, env1, xs, l, R, h1, h2, fun J F1 H1 x1 R1 wl0 => ?_⟩
  have wl := wl0 (Own σ (lock env1 l)) fun a h => .inl h
  have RL : Rep g F1 H1 σ (lock env1 l) := R1.lkr (lock_lkr env1 l)
  have sL : StR pm σ σ env1 (lock env1 l) := ⟨fun i q e => ⟨lock_lk e, rfl⟩, fun _ _ => rfl⟩
  generalize hgo : forGo (fun x env => match bindTg pm tg x env with
          | some env => exs M C W pm b env
          | none => none) xs (lock env1 l) = r at ee
  -- what the loop must reach
  obtain ⟨r0, er, kr⟩ : ∃ r0, r = some r0 ∧ FinS g pm σ F1 H1 (lock env1 l) r0 { D with nx := fun σ' H' => D.nx σ' H' } := by
    cases r with
    | none => cases ee
    | some r0 =>
      refine ⟨r0, rfl, ?_⟩
      cases r0 with
      | nx env3 =>
        simp only at ee
        cases ee
        intro σ' F' H' x' R' s'
        refine k σ' F' H' ((x1.tr (x'.wid fun a h => h.lock)).own' fun a ha => ?_) (R'.lkr (unlock_lkr _ _)) ⟨fun i q e => ?_, fun i hi => s'.pm i hi⟩
        · obtain ⟨j, y, ej, es⟩ := ha
          rcases unlock_own ej with z | ⟨z1, z2⟩
          · rcases x'.newO a ⟨j, y, z, es⟩ with w | w
            · exact x1.newO a w.lock
            · exact .inr (x1.dom a w)
          · obtain ⟨_, q, eq⟩ := mem_lkOf.mp z1
            have el : (lock env1 l)[j]? = some (some ⟨q, .lk⟩) := by
              rcases lock_get (is := l) eq with ⟨w, _⟩ | ⟨_, _, w⟩
              · exact (w z1).elim
              · exact w
            have := (s'.lk j q el).2
            rw [this] at es
            exact x1.newO a ⟨j, q, eq, es⟩
        · have e1 : env1[i]? = some (some ⟨q, .lk⟩) := ((ev_rel it h1).str (pm := pm) (σ := σ)).lk i q e |>.1
          obtain ⟨z1, z2⟩ := s'.lk i q (lock_lk e1)
          refine ⟨?_, z2⟩
          rw [unlock_get.1 fun z => ?_]
          · exact z1
          · obtain ⟨_, q', eq⟩ := mem_lkOf.mp z
            rw [e1] at eq; cases eq
      | rt q kk env3 =>
        simp only at ee
        cases ee
        intro v σ' F' H' x' R' s' hv
        refine k v σ' F' H' (x1.tr (x'.wid fun a h => h.lock)) R' (((ev_rel it h1).str.trans sL).trans s') (hv.wid fun a ha => ?_)
        rcases ha with ha | ha
        · exact x1.newO a ha.lock
        · exact .inr (x1.dom a ha)
  subst er
  generalize hturn : (fun (x : PV) (env : En) => match bindTg pm tg x env with
          | some env => exs M C W pm b env
          | none => none) = turn at hgo
  refine ⟨fun i m σ' H' => m = xs.length - i ∧ i ≤ xs.length ∧ ∃ Fi envi, forGo turn (xs.drop i) envi = some r0 ∧ Rep g Fi H' σ' envi ∧ Ext F1 H1 (Own σ (lock env1 l)) Fi H' (Own σ' envi) ∧ FinS g pm σ' Fi H' envi r0 D, ⟨xs.length, by simp, Nat.zero_le _, F1, lock env1 l, hgo, RL, .refl, kr⟩, ?_⟩
  rintro i m σi Hi ⟨rfl, hi, Fi, envi, hg, Ri, xi, ki⟩
  by_cases hlt : i < xs.length
  · right
    have hx : xs[i]? = some xs[i] := List.getElem?_eq_getElem hlt
    refine ⟨wl.go _ _ _ xi i _ hx, fun σ' H' => ∃ F' envi', forGo turn (xs.drop (i + 1)) envi' = some r0 ∧ Rep g F' H' σ' envi' ∧ Ext F1 H1 (Own σ (lock env1 l)) F' H' (Own σ' envi') ∧ FinS g pm σ' F' H' envi' r0 D, fun σ' H' hn => ⟨xs.length - (i + 1), by omega, rfl, hlt, hn⟩, fun v H' hyl => ?_⟩
    obtain ⟨F2, al⟩ := wl.yld _ _ _ xi i _ v H' hx hyl
    have R3 := al.rep Ri
    have x3 := xi.tr (al.ext (Own σi envi))
    have k3 := ki.pre (al.ext (Own σi envi)) .refl
    rw [drop_cons hx] at hg
    simp only [forGo] at hg
    have ht : _ = turn xs[i] envi := congrFun (congrFun hturn xs[i]) envi
    rw [← ht] at hg
    cases hb : bindTg pm tg xs[i] envi with
    | none => rw [hb] at hg; cases hg
    | some enva =>
      rw [hb] at hg
      simp only at hg
      refine bind_ok R3 hb (al.val rfl) fun σ1 R4 o4 a4 g4 l4 => ?_
      have st : StR pm σi σ1 envi enva := by
        refine ⟨fun j q e => ?_, fun j hj => ?_⟩
        · have nj : j ∉ tg.slots ∧ enva[j]? = some (some ⟨q, .lk⟩) := by
            cases tg with
            | one i' =>
              obtain ⟨rfl, hp, hk, _⟩ := store_eq (show store pm i' _ false envi = some enva from hb)
              have : i' ≠ j := fun z => hk q (by rw [z]; exact e)
              exact ⟨by simp [Tg.slots]; exact this.symm, by rw [List.getElem?_set_ne this]; exact e⟩
            | many is =>
              simp only [bindTg] at hb
              split at hb
              · have : ∀ {is : List Nat} {ps : List PV} {env env' : En}, stores pm is ps env = some env' → env[j]? = some (some ⟨q, .lk⟩) → j ∉ is ∧ env'[j]? = some (some ⟨q, .lk⟩) := by
                  intro is
                  induction is with
                  | nil => intro ps env env' h e; cases ps with
                    | nil => cases h; exact ⟨by simp, e⟩
                    | cons _ _ => cases h
                  | cons i' is ih =>
                    intro ps env env' h e
                    cases ps with
                    | nil => cases h
                    | cons w ps =>
                      unfold stores at h
                      split at h
                      · rename_i env1 h1
                        obtain ⟨rfl, hp, hk, _⟩ := store_eq h1
                        have hj : i' ≠ j := fun z => hk q (by rw [z]; exact e)
                        obtain ⟨z1, z2⟩ := ih h (by rw [List.getElem?_set_ne hj]; exact e)
                        exact ⟨by simp only [List.mem_cons, not_or]; exact ⟨hj.symm, z1⟩, z2⟩
                      · cases h
                exact this hb e
              · cases hb
          exact ⟨nj.2, g4 j nj.1⟩
        · have nj : j ∉ tg.slots := by
            cases tg with
            | one i' =>
              obtain ⟨rfl, hp, hk, _⟩ := store_eq (show store pm i' _ false envi = some enva from hb)
              intro z
              simp [Tg.slots] at z
              exact hp (by rw [← z]; exact hj)
            | many is =>
              simp only [bindTg] at hb
              split at hb
              · have : ∀ {is : List Nat} {ps : List PV} {env env' : En}, stores pm is ps env = some env' → j ∉ is := by
                  intro is
                  induction is with
                  | nil => intro ps env env' h; simp
                  | cons i' is ih =>
                    intro ps env env' h
                    cases ps with
                    | nil => cases h
                    | cons w ps =>
                      unfold stores at h
                      split at h
                      · rename_i env1 h1
                        obtain ⟨rfl, hp, hk, _⟩ := store_eq h1
                        simp only [List.mem_cons, not_or]
                        exact ⟨fun z => hp (by rw [← z]; exact hj), ih h⟩
                      · cases h
                exact this hb
              · cases hb
          exact g4 j nj
      have x4 := x3.sub o4
      have xa : Ext F2 H' (Own σi envi) F2 H' (Own σ1 enva) := Ext.refl.sub o4
      have k4 := k3.pre xa st
      cases hex : exs M C W pm b enva with
      | none => rw [hex] at hg; cases hg
      | some rr =>
        rw [hex] at hg
        cases rr with
        | nx envb =>
          simp only at hg
          exact ⟨F2, enva, _, R4, hex, fun σ5 F5 H5 x5 R5 s5 => ⟨F5, envb, hg, R5, x4.tr x5, k4.pre x5 s5⟩⟩
        | rt q kk envb =>
          simp only at hg
          cases hg
          exact ⟨F2, enva, _, R4, hex, k4⟩
  · left
    have hi' : i = xs.length := by omega
    subst hi'
    rw [List.drop_length] at hg
    simp only [forGo] at hg
    cases hg
    exact ⟨wl.stop _ _ _ xi, ki σi Fi Hi .refl Ri .refl⟩
theorem lc_shape {Γ : Scope} {tg : Tg} {it : E} {ifs : List E} {elt : E} {e : Expr} (h : chkE N nf Γ (.lc tg it ifs elt) e = true) : ∃ elt' tg' it' ifs' scope q, e = .ListComp elt' [⟨tg', it', ifs', 0⟩] scope q ∧
    chkE N nf Γ it it' = true ∧ itB it tg' it' = true ∧ tgB N scope tg tg' = true ∧ blkC N Γ scope (ownN N tg.slots) = true ∧ chkIf N nf (relS scope Γ) ifs ifs' = true ∧ chkE N nf (relS scope Γ) elt elt' = true := by
  unfold chkE at h
  split at h <;> first | (cases h; done) | skip
  all_goals rename_i heq; cases heq
  simp only [Bool.and_eq_true, decide_eq_true_eq] at h
  obtain ⟨⟨⟨⟨⟨⟨rfl, h1⟩, h2⟩, h3⟩, h4⟩, h5⟩, h6⟩ := h
  exact ⟨_, _, _, _, _, _, rfl, h1, h2, h3, h4, h5, h6⟩
theorem lc2_shape {Γ : Scope} {tg tg1 : Tg} {it it1 : E} {ifs ifs1 : List E} {elt : E} {e : Expr} (h : chkE N nf Γ (.lc2 tg it ifs tg1 it1 ifs1 elt) e = true) : ∃ elt' tg' it' ifs' tg1' it1' ifs1' scope q, e = .ListComp elt' [⟨tg', it', ifs', 0⟩, ⟨tg1', it1', ifs1', 0⟩] scope q ∧
    chkE N nf Γ it it' = true ∧ itB it tg' it' = true ∧ tgB N scope tg tg' = true ∧ blkC N Γ scope (ownN N (tg.slots ++ tg1.slots)) = true ∧ chkIf N nf (relS scope Γ) ifs ifs' = true ∧
    chkE N nf (relS scope Γ) it1 it1' = true ∧ itB it1 tg1' it1' = true ∧ tgB N scope tg1 tg1' = true ∧ chkIf N nf (relS scope Γ) ifs1 ifs1' = true ∧ chkE N nf (relS scope Γ) elt elt' = true := by
  unfold chkE at h
  split at h <;> first | (cases h; done) | skip
  all_goals rename_i heq; cases heq
  simp only [Bool.and_eq_true, decide_eq_true_eq] at h
  obtain ⟨⟨⟨⟨⟨⟨⟨⟨⟨⟨⟨rfl, rfl⟩, h1⟩, h2⟩, h3⟩, h4⟩, h5⟩, h6⟩, h7⟩, h8⟩, h9⟩, h10⟩ := h
  exact ⟨_, _, _, _, _, _, _, _, _, rfl, h1, h2, h3, h4, h5, h6, h7, h8, h9, h10⟩
/-- name = [..] where the name is written inside the block -/
theorem lc_set {Y : Str} {py : Pos} (sx : SxOk g M C d N nf X) {e : E} {e' : Expr} {pos : Pos} (hN : N[i]? = some Y) (hy : locB X.env.scope Y = true) (hs : swBl X.env.scope Y py e' = true) (hc : chkE N nf X.env.scope e e' = true) (hf : (match e with | .lc _ _ _ _ | .lc2 _ _ _ _ _ _ _ => true | _ => false) = true) :
    PS X (.Assign [.Name Y py] e' pos) (tAsg (tEv g M C e) (gName i)) := by
  have ok := sx.ok
  cases e with
  | lc tg it ifs elt =>
    obtain ⟨elt', tg', it', ifs', scope, q0, rfl, h1, h2, h3, h4, h5, h6⟩ := lc_shape hc
    have h2' := h2
    unfold itB at h2'
    simp only [Bool.and_eq_true] at h2'
    have hsw := swBl_ok sx.kind Y py pos.line (.ListComp elt' [⟨tg', it', ifs', 0⟩] scope q0)
    rw [hs] at hsw
    have yl : X.env.scope.names.lookup Y = some .local := by
      simp only [swBl, Bool.and_eq_true] at hs
      exact eq_of_beq hs.1.1
    have hl : ifs.length ≤ 1 := by
      cases ifs with
      | nil => simp
      | cons c cs => cases cs with
        | nil => simp
        | cons _ _ => simp [chkIf] at h5
    have bk : BlkOk X.N X.env.scope scope (ownN N tg.slots) := blkOk_by (by rw [ok.hN]; exact h4)
    have := ps_setLc (spos := pos) ok.calm (by rw [ok.hN]; exact ok.nd) (by rw [ok.hN]; exact hN) yl hsw ((snd it ok h1).pi _ h2) bk
      (fun s H C0 cl fp => pg_tg (X := X.blk s H scope (compEnvC scope cl C0 X.env) fp) (N := N) (Γ := scope) ok.calm (by rw [ok.hN]; exact ok.nd) ok.hN (blk_loc rfl) h3)
      (fun s H C0 cl fp => (pts_if (nf := nf) (N := N) (X := X.blk s H scope (compEnvC scope cl C0 X.env) fp) h5 fun c hc e he => (snds ifs c hc ok.blk he).s.pt).1)
      (fun s H C0 cl fp => (snd elt (ok.blk (s := s) (H := H) (scope := scope) (ce := compEnvC scope cl C0 X.env) (fp := fp)) h6).s.pe) (fun x => fold_ok h2'.2 _ x)
    rw [own_map] at this
    exact psI this fun D σ H ⟨F, env, o, env', R, e, hk, fin⟩ => lc_rd hl R e fin
  | lc2 tg it ifs tg1 it1 ifs1 elt =>
    obtain ⟨elt', tg', it', ifs', tg1', it1', ifs1', scope, q0, rfl, h1, h2, h3, h4, h5, h6, h7, h8, h9, h10⟩ := lc2_shape hc
    have h2' := h2
    unfold itB at h2'
    simp only [Bool.and_eq_true] at h2'
    have h7' := h7
    unfold itB at h7'
    simp only [Bool.and_eq_true] at h7'
    have hsw := swBl_ok sx.kind Y py pos.line (.ListComp elt' [⟨tg', it', ifs', 0⟩, ⟨tg1', it1', ifs1', 0⟩] scope q0)
    rw [hs] at hsw
    have yl : X.env.scope.names.lookup Y = some .local := by
      simp only [swBl, Bool.and_eq_true] at hs
      exact eq_of_beq hs.1.1
    have len : ∀ {ifs : List E} {ifs' : List Expr} {Γ : Scope}, chkIf N nf Γ ifs ifs' = true → ifs.length ≤ 1 := by
      intro ifs ifs' Γ hif
      cases ifs with
      | nil => simp
      | cons c cs => cases cs with
        | nil => simp
        | cons _ _ => simp [chkIf] at hif
    have bk : BlkOk X.N X.env.scope scope (ownN N (tg.slots ++ tg1.slots)) := blkOk_by (by rw [ok.hN]; exact h4)
    have := ps_setLc2 (spos := pos) (vs1 := tg1.slots) ok.calm (by rw [ok.hN]; exact ok.nd) (by rw [ok.hN]; exact hN) yl hsw ((snd it ok h1).pi _ h2) bk (by rw [own_map]; exact fun i h => List.mem_append_right _ h)
      (fun s H C0 cl fp => pg_tg (X := X.blk s H scope (compEnvC scope cl C0 X.env) fp) (N := N) (Γ := scope) ok.calm (by rw [ok.hN]; exact ok.nd) ok.hN (blk_loc rfl) h3)
      (fun s H C0 cl fp => (pts_if (nf := nf) (N := N) (X := X.blk s H scope (compEnvC scope cl C0 X.env) fp) h5 fun c hc e he => (snds ifs c hc ok.blk he).s.pt).1)
      (fun s H C0 cl fp => (snd it1 (ok.blk (s := s) (H := H) (scope := scope) (ce := compEnvC scope cl C0 X.env) (fp := fp)) h6).pi _ h7)
      (fun s H C0 cl fp => pg_tg (X := X.blk s H scope (compEnvC scope cl C0 X.env) fp) (N := N) (Γ := scope) ok.calm (by rw [ok.hN]; exact ok.nd) ok.hN (blk_loc rfl) h8)
      (fun s H C0 cl fp => (pts_if (nf := nf) (N := N) (X := X.blk s H scope (compEnvC scope cl C0 X.env) fp) h9 fun c hc e he => (snds ifs1 c hc ok.blk he).s.pt).1)
      (fun s H C0 cl fp => (snd elt (ok.blk (s := s) (H := H) (scope := scope) (ce := compEnvC scope cl C0 X.env) (fp := fp)) h10).s.pe) (fun x => fold_ok h2'.2 _ x) (fun env x => fold_ok h7'.2 _ x)
    rw [own_map] at this
    exact psI this fun D σ H ⟨F, env, o, env', R, e, hk, fin⟩ => lc2_rd (len h5) (len h9) R e fin
  | _ => cases hf
end
end L2.Pz
set_option Elab.async false
set_option linter.all false
set_option maxRecDepth 100000
set_option maxHeartbeats 4000000
namespace L2.Pz
set_option autoImplicit false
open PySem PySem.Spec PyProof.Rows L2

/-! ## Pz22: checked statements mean what the text means; defs -/
theorem PSet.or {X : Cx} {t u : TSet} (h : PSet X t) (k : PSet X u) : PSet X (fun o i v H Q => t o i v H Q ∨ u o i v H Q) := by
  intro pins s σ H o i v ov iv w Q I ro ri rv h'
  rcases h' with q | q
  · exact h pins s σ H o i v ov iv w Q I ro ri rv q
  · exact k pins s σ H o i v ov iv w Q I ro ri rv q
section
variable {g : Gw} {M : Nat → List Md} {C : Cl} {d : Nat} {N : List Str} {nf : Nf} {pm : List Nat} {W : Lp}
theorem pa_es {X : Cx} (ok : CxOk g M C d N nf X) {cs : List E} {es : List Expr} (h : chkEs N nf X.env.scope cs es = true) : PA X es (tEs g M C cs) := pes_ok h fun c hc e he => (snds cs c hc ok he).s
theorem fm2 {α β : Type} {f : α → Option β} {a b : α} {x y : β} (ha : f a = none ∨ f a = some x) (hb : f b = none ∨ f b = some y) (h : ([a, b].filterMap f).length = 2) : [a, b].filterMap f = [x, y] := by
  rcases ha with ha | ha <;> rcases hb with hb | hb <;> simp [ha, hb] at h ⊢
theorem fm3 {α β : Type} {f : α → Option β} {a b c : α} {x y z : β} (ha : f a = none ∨ f a = some x) (hb : f b = none ∨ f b = some y) (hc : f c = none ∨ f c = some z) (h : ([a, b, c].filterMap f).length = 3) : [a, b, c].filterMap f = [x, y, z] := by
  rcases ha with ha | ha <;> rcases hb with hb | hb <;> rcases hc with hc | hc <;> simp [ha, hb, hc] at h ⊢
theorem ite_or {α : Type} {c : Bool} {x : α} : (if c = true then some x else none) = none ∨ (if c = true then some x else none) = some x := by
  cases c
  · exact .inl rfl
  · exact .inr rfl
theorem pgs_places {X : Cx} (sx : SxOk g M C d N nf X) : ∀ {ts : List Plc} {es : List Expr}, chkPs N nf X.env.scope ts es = true → PGs X es (gPs g M C ts) ∧ (assignEach es X.env).length = ts.length ∧ (assignEach es X.env).findIdx? (·.1) = none
  | [], [], _ => ⟨pgs_nil, rfl, rfl⟩
  | [], _ :: _, h => by simp [chkPs] at h
  | _ :: _, [], h => by simp [chkPs] at h
  | .nm i :: ts, e :: es, h => by
    simp only [chkPs, Bool.and_eq_true] at h
    obtain ⟨h1, h2⟩ := h
    obtain ⟨i1, i2, i3⟩ := pgs_places sx h2
    cases e with
    | Name x q =>
      simp only [chkP, Bool.and_eq_true, decide_eq_true_eq] at h1
      obtain ⟨lc, hf⟩ := sx.loc x h1.2
      refine ⟨pgs_cons (pg_name (by rw [sx.ok.hN]; exact sx.ok.nd) (by rw [sx.ok.hN]; exact h1.1) lc hf) i1, ?_, ?_⟩
      · show (assignEach es X.env).length + 1 = ts.length + 1
        rw [i2]
      · show List.findIdx? _ ((false, _) :: assignEach es X.env) = none
        rw [List.findIdx?_cons, i3]
        rfl
    | _ => simp [chkP] at h1
  | .it i k :: ts, e :: es, h => by
    simp only [chkPs, Bool.and_eq_true] at h
    obtain ⟨h1, h2⟩ := h
    obtain ⟨i1, i2, i3⟩ := pgs_places sx h2
    unfold chkP at h1
    split at h1 <;> first | (cases h1; done) | skip
    all_goals rename_i heq; cases heq
    rename_i x px k' pk
    simp only [Bool.and_eq_true] at h1
    obtain ⟨⟨z1, z2⟩, z3⟩ := h1
    have pg := pg_sub (pos := pk) (nm_pe sx.ok (p := px) z1) (snd k sx.ok z2).s.pe (PSet.or set_list (set_dict (X := X) (by have := sx.ok.line; omega))) (by intro v; cases k' <;> first | rfl | cases z3)
    refine ⟨pgs_cons pg i1, ?_, ?_⟩
    · show (assignEach es X.env).length + 1 = ts.length + 1
      rw [i2]
    · show List.findIdx? _ ((false, _) :: assignEach es X.env) = none
      rw [List.findIdx?_cons, i3]
      rfl
  | .mn is :: ts, e :: es, h => by
    simp only [chkPs, Bool.and_eq_true] at h
    obtain ⟨h1, h2⟩ := h
    obtain ⟨i1, i2, i3⟩ := pgs_places sx h2
    cases e with
    | Tuple es2 k2 p2 =>
      simp only [chkP] at h1
      have pg : PG X (.Tuple es2 k2 p2) (gTg (.many is)) := pg_tg (tg := .many is) sx.ok.calm (by rw [sx.ok.hN]; exact sx.ok.nd) sx.ok.hN sx.loc h1
      refine ⟨pgs_cons pg i1, ?_, ?_⟩
      · show (assignEach es X.env).length + 1 = ts.length + 1
        rw [i2]
      · show List.findIdx? _ ((false, _) :: assignEach es X.env) = none
        rw [List.findIdx?_cons, i3]
        rfl
    | _ => simp [chkP] at h1
theorem par_ps {X : Cx} (sx : SxOk g M C d N nf X) {is : List Nat} {es : List E} {ts es' : List Expr} {k k2 : Nat} {p p2 pos : Pos} (h : chkS N nf X.env.scope (.par is es) (.Assign [.Tuple ts k p] (.Tuple es' k2 p2) pos) = true) : PS X (.Assign [.Tuple ts k p] (.Tuple es' k2 p2) pos) (tS g M C pm W (.par is es)) := by
  simp only [chkS, Bool.or_eq_true, Bool.and_eq_true, decide_eq_true_eq] at h
  rcases h with h | ⟨⟨⟨k1, k2'⟩, k3⟩, k4⟩
  rotate_left
  · obtain ⟨pgs, hn, hst⟩ := pgs_names (X := X) (N := N) (by rw [sx.ok.hN]; exact sx.ok.nd) sx.ok.hN sx.loc k2'
    exact psI (ps_parN sx.ok.calm k4 pgs hn hst (pa_es sx.ok k1) (noSw_ok sx.kind k3) (swTup _)) fun D σ H q => by
      obtain ⟨F, env, os, env', R, e, ko, kk⟩ := par_go q
      refine ⟨F, env, os, env', R, e, ko, fun vs F1 H1 x1 R1 hl => ?_⟩
      obtain ⟨z1, z2⟩ := kk vs F1 H1 x1 R1 hl
      exact ⟨z1, z1, z2⟩
  obtain ⟨⟨⟨⟨⟨nd, h1⟩, h2⟩, h3⟩, h4⟩, h5⟩ := h
  have pa := pa_es sx.ok h1
  have sw := yesSw_ok sx.kind (k := k) (k2 := k2) (p := p) (p2 := p2) h2
  have h2' := h2
  unfold yesSw at h2'
  simp only [Bool.and_eq_true] at h2'
  have nl : (swNames X.env.scope ts).length = ts.length := eq_of_beq h2'.1.1.1.2
  have vl : es'.length = ts.length := eq_of_beq h2'.1.1.1.1.1.2
  have at_ : ∀ j ∈ is, ∃ x, N[j]? = some x ∧ X.env.scope.names.lookup x = some .local ∧ N.getD j (Str.ofString "") = x := fun j hj => by
    have := List.all_eq_true.mp h4 j hj
    cases q : N[j]? with
    | none => rw [q] at this; cases this
    | some x =>
      rw [q] at this
      exact ⟨x, rfl, eq_of_beq this, by rw [List.getD_eq_getElem?_getD, q]; rfl⟩
  split at h5
  · rename_i x px y py
    have e1 : swNames X.env.scope [.Name x px, .Name y py] = [x, y] := by
      exact fm2 ite_or ite_or nl
    rw [e1] at h3 sw
    match is, h3 with
    | [i, j], h3 =>
      simp only [List.map_cons, List.map_nil, List.cons.injEq, and_true] at h3
      obtain ⟨x1, n1, l1, g1⟩ := at_ i (by simp)
      obtain ⟨y1, n2, l2, g2⟩ := at_ j (by simp)
      rw [g1, g2] at h3
      obtain ⟨rfl, rfl⟩ := h3
      match es', vl with
      | [a, b], _ =>
        have hij : i ≠ j := by
          intro z; subst z; simp at nd
        exact psI (ps_par sx.ok.calm (by rw [sx.ok.hN]; exact sx.ok.nd) (by rw [sx.ok.hN]; exact n1) (by rw [sx.ok.hN]; exact n2) hij l1 l2 pa sw (swTup _)) fun D σ H q => by
          obtain ⟨F, env, os, env', R, e, ko, kk⟩ := par_go q
          refine ⟨F, env, os, env', R, e, ko, fun vs F1 H1 x1 R1 hl => ?_⟩
          obtain ⟨z1, z2⟩ := kk vs F1 H1 x1 R1 hl
          match vs, z1 with
          | [v, w], _ => exact ⟨v, w, rfl, z2⟩
  · rename_i x px y py z pz
    have e1 : swNames X.env.scope [.Name x px, .Name y py, .Name z pz] = [x, y, z] := by
      exact fm3 ite_or ite_or ite_or nl
    rw [e1] at h3 sw
    match is, h3 with
    | [i, j, l], h3 =>
      simp only [List.map_cons, List.map_nil, List.cons.injEq, and_true] at h3
      obtain ⟨x1, n1, l1, g1⟩ := at_ i (by simp)
      obtain ⟨y1, n2, l2, g2⟩ := at_ j (by simp)
      obtain ⟨z1, n3, l3, g3⟩ := at_ l (by simp)
      rw [g1, g2, g3] at h3
      obtain ⟨rfl, rfl, rfl⟩ := h3
      match es', vl with
      | [a, b, c], _ =>
        have nd' : i ≠ j ∧ i ≠ l ∧ j ≠ l := by
          simp only [List.nodup_cons, List.mem_cons, List.not_mem_nil, or_false, not_or] at nd
          exact ⟨nd.1.1, nd.1.2, nd.2.1⟩
        exact psI (ps_par3 sx.ok.calm (by rw [sx.ok.hN]; exact sx.ok.nd) (by rw [sx.ok.hN]; exact n1) (by rw [sx.ok.hN]; exact n2) (by rw [sx.ok.hN]; exact n3) nd'.1 nd'.2.1 nd'.2.2 l1 l2 l3 pa sw (swTup _)) fun D σ H q => by
          obtain ⟨F, env, os, env', R, e, ko, kk⟩ := par_go q
          refine ⟨F, env, os, env', R, e, ko, fun vs F1 H1 x1 R1 hl => ?_⟩
          obtain ⟨z1, z2⟩ := kk vs F1 H1 x1 R1 hl
          match vs, z1 with
          | [u, v, w], _ => exact ⟨u, v, w, rfl, z2⟩
  · cases h5
mutual
theorem sndS (hW : LpOk W) : ∀ (s : S) {X : Cx} (_ : SxOk g M C d N nf X) {st : Stmt}, chkS N nf X.env.scope s st = true → PS X st (tS g M C pm W s)
  | .ex e, X, sx, st, h => by
    unfold chkS at h
    split at h <;> first | (cases h; done) | skip
    all_goals rename_i heq; cases heq
    simp only [Bool.and_eq_true] at h
    refine psI (ps_expr (snd e sx.ok h.1.1).s.pe (swNo h.1.2 _ _)) fun D σ H ⟨F, env, fl, R, ee, k⟩ => ?_
    simp only [ex] at ee
    split at ee
    · rename_i o env1 h1
      cases ee
      exact ⟨F, env, o, _, R, h1, ev_okW h.2 h1, fun v F1 H1 x1 R1 hv => k σ F1 H1 x1 R1 (ev_rel e h1).str⟩
    · cases ee
  | .set i e, X, sx, st, h => by
    unfold chkS at h
    split at h <;> first | (cases h; done) | skip
    all_goals rename_i heq; cases heq
    rename_i x px e' pos
    simp only [Bool.and_eq_true, decide_eq_true_eq] at h
    obtain ⟨⟨⟨h1, h2⟩, h3⟩, h4⟩ := h
    obtain ⟨lc, hf⟩ := sx.loc x h2
    cases q : swBl X.env.scope x px e' with
    | false => exact psI (ps_set (by rw [sx.ok.hN]; exact sx.ok.nd) (by rw [sx.ok.hN]; exact h1) lc (snd e sx.ok h3).s.pe (by rw [swBl_ok sx.kind, q]) hf) fun D σ H z => set_go z
    | true =>
      rw [q] at h4
      refine psI (lc_set sx h1 h2 q h3 ?_) fun D σ H z => set_go z
      cases e <;> first | rfl | cases h4
  | .unp is e, X, sx, st, h => by
    unfold chkS at h
    split at h <;> first | (cases h; done) | skip
    all_goals rename_i heq; cases heq
    rename_i ts k p e' pos
    simp only [Bool.and_eq_true] at h
    obtain ⟨⟨h1, h2⟩, h3⟩ := h
    have pg : PG X (.Tuple ts k p) (gTg (.many is)) := pg_tg (tg := .many is) sx.ok.calm (by rw [sx.ok.hN]; exact sx.ok.nd) sx.ok.hN sx.loc h1
    have hw : swappedStores [.Tuple ts k p] e' X.env = pure none := by
      cases e' <;> first | rfl | exact noSw_ok sx.kind h3
    exact psI (ps_asg (snd e sx.ok h2).s.pe pg (swTup _) hw) fun D σ H z => unp_go z
  | .par is es, X, sx, st, h => by
    have h0 := h
    unfold chkS at h
    split at h <;> first | (cases h; done) | skip
    all_goals rename_i heq; cases heq
    exact par_ps sx h0
  | .pst ts es, X, sx, st, h => by
    unfold chkS at h
    split at h <;> first | (cases h; done) | skip
    all_goals rename_i heq; cases heq
    simp only [Bool.and_eq_true, decide_eq_true_eq] at h
    obtain ⟨⟨⟨h1, h2⟩, h3⟩, h4⟩ := h
    obtain ⟨pgs, hn, hst⟩ := pgs_places sx h2
    exact psI (ps_parN sx.ok.calm h4 pgs hn hst (pa_es sx.ok h1) (noSw_ok sx.kind h3) (swTup _)) fun D σ H q => by
      obtain ⟨F, env, os, env', R, e, ko, kk⟩ := pst_go q
      refine ⟨F, env, os, env', R, e, ko, fun vs F1 H1 x1 R1 hl => ?_⟩
      exact kk vs F1 H1 x1 R1 hl
  | .sti i k e, X, sx, st, h => by
    unfold chkS at h
    split at h <;> first | (cases h; done) | skip
    all_goals rename_i heq; cases heq
    rename_i x px k' pk e' pos
    simp only [Bool.and_eq_true] at h
    obtain ⟨⟨⟨h1, h2⟩, h3⟩, h4⟩ := h
    have hw : swappedStores [.Subscript (.Name x px) k' pk] e' X.env = pure none := by
      cases e' <;> rfl
    have pg := pg_sub (pos := pk) (nm_pe sx.ok (p := px) h1) (snd k sx.ok h2).s.pe (PSet.or set_list (set_dict (X := X) (by have := sx.ok.line; omega))) (by intro v; cases k' <;> first | rfl | cases h4)
    exact psI (ps_asg (snd e sx.ok h3).s.pe pg (swSub _) hw) fun D σ H z => sti_go sx.ok.hK z
  | .aug i .add e, X, sx, st, h => by
    unfold chkS at h
    split at h <;> first | (cases h; done) | skip
    all_goals rename_i heq; cases heq
    simp only [Bool.and_eq_true, decide_eq_true_eq] at h
    obtain ⟨⟨h1, h2⟩, h3⟩ := h
    obtain ⟨lc, hf⟩ := sx.loc _ h2
    exact psI (ps_aug (by rw [sx.ok.hN]; exact sx.ok.nd) (by rw [sx.ok.hN]; exact h1) lc (snd e sx.ok h3).s.pe ip_add hf) fun D σ H z => aug_go (fun _ _ => rfl) z
  | .aug i .sub e, X, sx, st, h => by
    unfold chkS at h
    split at h <;> first | (cases h; done) | skip
    all_goals rename_i heq; cases heq
    simp only [Bool.and_eq_true, decide_eq_true_eq] at h
    obtain ⟨⟨h1, h2⟩, h3⟩ := h
    obtain ⟨lc, hf⟩ := sx.loc _ h2
    exact psI (ps_aug (by rw [sx.ok.hN]; exact sx.ok.nd) (by rw [sx.ok.hN]; exact h1) lc (snd e sx.ok h3).s.pe ip_sub hf) fun D σ H z => aug_go (fun _ _ => rfl) z
  | .aug i .mul e, X, sx, st, h | .aug i .fdiv e, X, sx, st, h | .aug i .mod e, X, sx, st, h | .aug i .pow e, X, sx, st, h | .aug i .band e, X, sx, st, h | .aug i .bor e, X, sx, st, h | .aug i .bxor e, X, sx, st, h | .aug i .shl e, X, sx, st, h | .aug i .shr e, X, sx, st, h => by simp [chkS] at h
  | .dli i k, X, sx, st, h => by simp [chkS] at h
  | .ite c a b, X, sx, st, h => by
    unfold chkS at h
    split at h <;> first | (cases h; done) | skip
    all_goals rename_i heq; cases heq
    simp only [Bool.and_eq_true] at h
    obtain ⟨⟨h1, h2⟩, h3⟩ := h
    refine psI (ps_if (snd c sx.ok h1).s.pt (sndSs hW a sx h2) (sndSs hW b sx h3)) fun D σ H ⟨F, env, fl, R, ee, k⟩ => ?_
    simp only [ex] at ee
    split at ee
    case h_2 => cases ee
    rename_i x env1 g1
    split at ee
    · rename_i g2
      exact bl_aheadT R g1 g2 fun F1 H1 x1 R1 => by
        rw [if_pos rfl]
        exact ⟨F1, env1, fl, R1, ee, k.pre x1 (ev_rel c g1).str⟩
    · rename_i g2
      exact bl_aheadT R g1 g2 fun F1 H1 x1 R1 => by
        rw [if_neg Bool.false_ne_true]
        exact ⟨F1, env1, fl, R1, ee, k.pre x1 (ev_rel c g1).str⟩
    · cases ee
  | .whl c b, X, sx, st, h => by
    unfold chkS at h
    split at h <;> first | (cases h; done) | skip
    all_goals rename_i heq; cases heq
    simp only [Bool.and_eq_true] at h
    exact psI (ps_while (by rw [sx.ok.xe]; exact PassesOwn.never) (snd c sx.ok h.1).s.pt (sndSs hW b sx h.2)) fun D σ H z => whl_go hW z
  | .for_ tg it b, X, sx, st, h => by
    unfold chkS at h
    split at h <;> first | (cases h; done) | skip
    all_goals rename_i heq; cases heq
    simp only [Bool.and_eq_true] at h
    obtain ⟨⟨⟨h1, h2⟩, h3⟩, h4⟩ := h
    have h3' := h3
    unfold itB at h3'
    simp only [Bool.and_eq_true] at h3'
    exact psI (ps_for (by rw [sx.ok.xe]; exact PassesOwn.never) sx.ok.calm ((snd it sx.ok h2).pi _ h3) (pg_tg sx.ok.calm (by rw [sx.ok.hN]; exact sx.ok.nd) sx.ok.hN sx.loc h1) (sndSs hW b sx h4) (fun x => fold_ok h3'.2 _ x)) fun D σ H z => for_go z
  | .ret e, X, sx, st, h => by
    unfold chkS at h
    split at h <;> first | (cases h; done) | skip
    all_goals rename_i heq; cases heq
    exact psI (ps_ret (snd e sx.ok h).s.pe) fun D σ H z => ret_go z
  | .retN, X, sx, st, h => by
    unfold chkS at h
    split at h <;> first | (cases h; done) | skip
    all_goals rename_i heq; cases heq
    refine psI ps_retN fun D σ H ⟨F, env, fl, R, ee, k⟩ => ?_
    simp only [ex] at ee
    cases ee
    exact k .non σ F H .refl R .refl .non
  | .nev, X, sx, st, h => psI ps_never fun D σ H ⟨F, env, fl, R, ee, k⟩ => by simp only [ex] at ee; cases ee
  | .pas, X, sx, st, h => by
    have go : ∀ D σ H, tS g M C pm W .pas D σ H → tNext D σ H := fun D σ H ⟨F, env, fl, R, ee, k⟩ => by
      simp only [ex] at ee
      cases ee
      exact k σ F H .refl R .refl
    unfold chkS at h
    split at h <;> first | (cases h; done) | skip
    all_goals first | exact psI ps_pass go | exact psI ps_doc go | (rename_i heq; cases heq)
theorem sndSs (hW : LpOk W) : ∀ (ss : List S) {X : Cx} (_ : SxOk g M C d N nf X) {st : List Stmt}, chkSs N nf X.env.scope ss st = true → PSs X st (tSs g M C pm W ss)
  | [], X, sx, st, h => by
    cases st with
    | nil => exact pssI pss_nil fun D σ H z => tSs_nil z
    | cons _ _ => simp [chkSs] at h
  | s :: ss, X, sx, st, h => by
    cases st with
    | nil => simp [chkSs] at h
    | cons t ts =>
      simp only [chkSs, Bool.and_eq_true] at h
      exact pssI (pss_cons (sndS hW s sx h.1) (sndSs hW ss sx h.2)) fun D σ H z => tSs_cons z
end
end
end L2.Pz
set_option Elab.async false
set_option linter.all false
set_option maxRecDepth 100000
set_option maxHeartbeats 4000000
namespace L2.Pz
set_option autoImplicit false
open PySem PySem.Spec PyProof.Rows L2

/-! ## Pz23: a module's defs keep their pure meaning's promise -/
section
variable {g : Gw} {F F' : Ad} {H H' : Hp} {σ : St} {env : En} {a : Addr}
theorem get_app {α : Type} {l m : List α} {i : Nat} {x : α} (e : (l ++ m)[i]? = some x) : (i < l.length ∧ l[i]? = some x) ∨ (l.length ≤ i ∧ m[i - l.length]? = some x) := by
  by_cases h : i < l.length
  · rw [List.getElem?_append_left h] at e; exact .inl ⟨h, e⟩
  · rw [List.getElem?_append_right (by omega)] at e; exact .inr ⟨by omega, e⟩
theorem app_none {n k : Nat} {env : En} {i : Nat} {s : Slot} (e : (env ++ List.replicate k none)[i]? = some (some s)) : env[i]? = some (some s) := by
  rcases get_app e with ⟨_, h⟩ | ⟨_, h⟩
  · exact h
  · rw [List.getElem?_replicate] at h
    split at h <;> cases h
theorem appS_none {k : Nat} {i : Nat} {v : V} (e : (σ ++ List.replicate k none)[i]? = some (some v)) : σ[i]? = some (some v) := by
  rcases get_app e with ⟨_, h⟩ | ⟨_, h⟩
  · exact h
  · rw [List.getElem?_replicate] at h
    split at h <;> cases h
theorem Rep.app (R : Rep g F H σ env) (k : Nat) : Rep g F H (σ ++ List.replicate k none) (env ++ List.replicate k none) :=
  ⟨by simp [R.len], fun i s e => by
    have e1 := app_none (n := 0) e
    obtain ⟨v, ev, r⟩ := R.slot i s e1
    exact ⟨v, by rw [List.getElem?_append_left (lt_of_some ev)]; exact ev, r⟩, fun i j x s b hij e1 k1 e2 k2 es ej => R.sep i j x s b hij (app_none (n := 0) e1) k1 (app_none (n := 0) e2) k2 (appS_none es) (appS_none ej), R.dom⟩
theorem Own.app (k : Nat) : Own (σ ++ List.replicate k none) (env ++ List.replicate k none) a ↔ Own σ env a :=
  ⟨fun ⟨i, x, e, es⟩ => ⟨i, x, app_none (n := 0) e, appS_none es⟩, fun ⟨i, x, e, es⟩ => ⟨i, x, by rw [List.getElem?_append_left (lt_of_some e)]; exact e, by rw [List.getElem?_append_left (lt_of_some es)]; exact es⟩⟩
theorem outs_get : ∀ {ms : List Md} {env : En} {os : List PV} {n : Nat} {j : Nat} {s : Slot}, outs ms env = some os → (endE ms os)[j]? = some (some s) → s.k = .own ∧ env[j]? = some (some s) ∧ n + j ∈ mutsOf n ms
  | [], _, _, _, j, s, e, h => by simp [endE] at h
  | .mu :: ms, some ⟨p, .own⟩ :: env, _, n, j, s, e, h => by
    unfold outs at e
    split at e
    · rename_i ps e1
      cases e
      cases j with
      | zero => cases h; exact ⟨rfl, rfl, List.mem_cons_self ..⟩
      | succ j =>
        obtain ⟨h1, h2, h3⟩ := outs_get (n := n + 1) e1 (show (endE ms ps)[j]? = some (some s) from h)
        exact ⟨h1, h2, List.mem_cons_of_mem _ (by rw [show n + (j + 1) = n + 1 + j by omega]; exact h3)⟩
    · cases e
  | .mu :: ms, [], _, n, j, s, e, h => by cases e
  | .mu :: ms, none :: _, _, n, j, s, e, h => by cases e
  | .mu :: ms, some ⟨p, .fz⟩ :: _, _, n, j, s, e, h => by cases e
  | .mu :: ms, some ⟨p, .ro⟩ :: _, _, n, j, s, e, h => by cases e
  | .mu :: ms, some ⟨p, .lk⟩ :: _, _, n, j, s, e, h => by cases e
  | .val :: ms, x :: env, os, n, j, s, e, h => by
    have e : outs ms env = some os := by cases x <;> exact e
    have hh : endE (.val :: ms) os = none :: endE ms os := by cases os <;> rfl
    rw [hh] at h
    cases j with
    | zero => cases h
    | succ j =>
      obtain ⟨h1, h2, h3⟩ := outs_get (n := n + 1) e (show (endE ms os)[j]? = some (some s) from h)
      exact ⟨h1, h2, by rw [show n + (j + 1) = n + 1 + j by omega]; exact h3⟩
  | .ro :: ms, x :: env, os, n, j, s, e, h => by
    have e : outs ms env = some os := by cases x <;> exact e
    have hh : endE (.ro :: ms) os = none :: endE ms os := by cases os <;> rfl
    rw [hh] at h
    cases j with
    | zero => cases h
    | succ j =>
      obtain ⟨h1, h2, h3⟩ := outs_get (n := n + 1) e (show (endE ms os)[j]? = some (some s) from h)
      exact ⟨h1, h2, by rw [show n + (j + 1) = n + 1 + j by omega]; exact h3⟩
  | .val :: ms, [], _, _, _, _, e, _ => by cases e
  | .ro :: ms, [], _, _, _, _, e, _ => by cases e
theorem endE_len : ∀ (ms : List Md) (os : List PV), (endE ms os).length = ms.length
  | [], _ => rfl
  | .mu :: ms, p :: ps => congrArg Nat.succ (endE_len ms ps)
  | .mu :: ms, [] => congrArg Nat.succ (endE_len ms [])
  | .val :: ms, ps => by cases ps <;> exact congrArg Nat.succ (endE_len ms _)
  | .ro :: ms, ps => by cases ps <;> exact congrArg Nat.succ (endE_len ms _)
theorem starts_len : ∀ {ms : List Md} {ps : List PV}, ps.length = ms.length → (starts ms ps).length = ms.length
  | [], [], _ => rfl
  | m :: ms, p :: ps, h => congrArg Nat.succ (starts_len (by simpa using h))
  | [], _ :: _, h => by cases h
  | _ :: _, [], h => by cases h
end
/-- one def of the text: its names (the parameters first), scope, body -/
structure Txt where
  gl : Str
  name : Str
  params : Arguments
  body : List Stmt
  scope : Scope
  names : List Str
def scopeB (N : List Str) (t : Txt) : Bool := (match t.scope.kind with | .function => true | _ => false) && !t.scope.isCoroutine && !t.scope.isGenerator && decide (N.Nodup) && decide (N.take (t.params.args.map (·.arg)).length = t.params.args.map (·.arg)) && (t.params.args.map (·.arg)).all (fun x => locB t.scope x) && t.scope.names.all (fun y => match y.2 with
  | .free => false
  | _ => true) && decide ((t.params.args.map (·.arg)).Nodup) && plainArgs t.params
/-- a def of the text is that code -/
def chkD (nf : Nf) (t : Txt) (D : Dfn) : Bool := scopeB t.names t && decide (D.modes.length = (t.params.args.map (·.arg)).length) && decide (D.slots = t.names.length) && chkSs t.names nf t.scope D.body t.body
section
variable {g : Gw} {P : Program} {base : Heap} {mg : Str → Option Value} {nf : Nf} {W : Lp} {D : Nat → Dfn} {T : Nat → Txt}
/-- what the head must give -/
structure Mdl (g : Gw) (mg : Str → Option Value) (nf : Nf) (D : Nat → Dfn) (T : Nat → Txt) : Prop where
  free : ∀ x ∈ nf.free, mg x = none
  cst : ∀ q ∈ nf.cst, ∃ u v, mg q.1 = some u ∧ RelV v u ∧ ∀ F H, RepV g F H q.2 v
  fn : ∀ (i : Nat) (x : Str), nf.fn[i]? = some x → ∃ fa fd, mg x = some (.ref fa) ∧ FunD g.K (T i).name (T i).name (T i).params (T i).body (T i).scope [] [] fa fd
  chk : ∀ (i : Nat) (x : Str), nf.fn[i]? = some x → chkD nf (T i) (D i) = true
abbrev parN (T : Nat → Txt) (i : Nat) : List Str := (T i).params.args.map (·.arg)
theorem fn_ok (hW : LpOk W) (m : Mdl g mg nf D T) : ∀ (d : Nat) (i : Nat) (x : Str), nf.fn[i]? = some x → ∀ (fa : Addr) (fd : FuncData), mg x = some (.ref fa) → FunD g.K (T i).name (T i).name (T i).params (T i).body (T i).scope [] [] fa fd → FnOk P g.w g.K mg base CX0 d fa fd (parN T i) (spC g (fun i => (D i).modes) (run W D d) i)
  | 0, i, x, hx, fa, fd, hm, hF => by
    obtain ⟨oc, od, dV, kV, doc, pmv, an, cdv, ct, osl, rfl, lk, hcd, _, _⟩ := hF.ex
    refine ⟨fun vs H Q E h => ?_, fun A outer s H args us vs Q E _ _ _ _ h => ?_⟩
    · obtain ⟨F, ps, r, outs, _, _, _, h, _⟩ := h; cases h
    · obtain ⟨F, ps, r, outs, _, _, _, h, _⟩ := h; cases h
  | d + 1, i, x, hx, fa, fd, hm, hF => by
    have hc := m.chk i x hx
    unfold chkD at hc
    simp only [Bool.and_eq_true, decide_eq_true_eq] at hc
    obtain ⟨⟨⟨hs, hml⟩, hsl⟩, hb⟩ := hc
    have hs' := hs
    unfold scopeB at hs'
    simp only [Bool.and_eq_true, Bool.not_eq_true', decide_eq_true_eq, List.all_eq_true] at hs'
    obtain ⟨⟨⟨⟨⟨⟨⟨⟨s1, s2⟩, s3⟩, s4⟩, s5⟩, s6⟩, s7⟩, s8⟩, s9⟩ := hs'
    have kind : (T i).scope.kind = .function := by
      split at s1
      · assumption
      · cases s1
    have SC : FnScope (T i).names (parN T i) (T i).scope := ⟨kind, s2, s3, s4, s5, fun y hy => (by
      have := s6 y hy
      unfold locB at this
      split at this
      · rename_i e; exact .inl e
      · rename_i e; exact .inr e
      · cases this), fun y hy z => (by
      have := s7 y hy
      rw [z] at this; cases this)⟩
    have len : ∀ vs H Q E, spC g (fun i => (D i).modes) (run W D (d + 1)) i vs H Q E → vs.length = (parN T i).length := fun vs H Q E h => by
      obtain ⟨F, ps, r, outs, l1, l2, _⟩ := h
      exact l1.trans (l2.trans hml)
    refine FunD.ok hF SC len fun cdv A outer s H vs Q E hr hsp => ?_
    obtain ⟨F, ps, r, os, l1, l2, R, hrun, fin⟩ := hsp
    refine ⟨tSs g (fun i => (D i).modes) (run W D d) (mutsOf 0 (D i).modes) W (D i).body, ?_, ?_⟩
    · have okX : CxOk g (fun i => (D i).modes) (run W D d) d (T i).names nf (cxOf CX0 P g.w g.K mg base (T i).names (T i).name (T i).scope fa cdv A outer s H E).nox :=
        ⟨rfl, rfl, rfl, rfl, s4, hr, rfl, m.free, m.cst, fun j y hy => by
          obtain ⟨fb, fe, h1, h2⟩ := m.fn j y hy
          refine ⟨fb, fe, parN T j, h1, h2.kp, ?_, fn_ok hW m d j y hy fb fe h1 h2⟩
          have hcj := m.chk j y hy
          unfold chkD at hcj
          simp only [Bool.and_eq_true, decide_eq_true_eq] at hcj
          have hsj := hcj.1.1.1
          unfold scopeB at hsj
          simp only [Bool.and_eq_true, Bool.not_eq_true', decide_eq_true_eq, List.all_eq_true] at hsj
          exact h2.bindsN fun kV doc pmv an cdv ct us hl => bind_all hsj.2 rfl hsj.1.2 hl⟩
      have sx : SxOk g (fun i => (D i).modes) (run W D d) d (T i).names nf (cxOf CX0 P g.w g.K mg base (T i).names (T i).name (T i).scope fa cdv A outer s H E).nox := ⟨okX, kind, fun y hy => by
        refine ⟨?_, .inl rfl⟩
        have hy : locB (T i).scope y = true := hy
        show (T i).scope.names.lookup y = some .local ∨ (T i).scope.names.lookup y = some .cell
        unfold locB at hy
        split at hy
        · rename_i e; exact .inl e
        · rename_i e; exact .inr e
        · cases hy⟩
      exact PSs.nox (sndSs hW (D i).body sx hb)
    · simp only [run] at hrun
      rw [if_pos l2] at hrun
      have ks : (T i).names.length - vs.length = (D i).slots - (D i).modes.length := by rw [hsl, l1, l2]
      have R0 := R.app ((T i).names.length - vs.length)
      have own0 : ∀ a, Own (start (T i).names vs) (starts (D i).modes ps ++ List.replicate ((T i).names.length - vs.length) none) a ↔ Own (vs.map some) (starts (D i).modes ps) a := fun a => Own.app _
      -- the end, of a value and the changed objects
      have fin' : ∀ {q : PV} {k : Bool} {env' : En} {v : V} {σ' : St} {F' : Ad} {H' : Hp}, outs (D i).modes env' = some os → r = (q, k) →
          Ext F H (Own (start (T i).names vs) (starts (D i).modes ps ++ List.replicate ((T i).names.length - vs.length) none)) F' H' (Own σ' env') → Rep g F' H' σ' env' → StR (mutsOf 0 (D i).modes) (start (T i).names vs) σ' (starts (D i).modes ps ++ List.replicate ((T i).names.length - vs.length) none) env' →
          HeldO g F' H' σ' env' (New H (Own (start (T i).names vs) (starts (D i).modes ps ++ List.replicate ((T i).names.length - vs.length) none))) (.vl q k) v → Q v H' := by
        intro q k env' v σ' F' H' ho hrq x' R' st hv
        subst hrq
        have place : ∀ (j : Nat) (s : Slot), (endE (D i).modes os)[j]? = some (some s) → s.k = .own ∧ env'[j]? = some (some s) ∧ σ'[j]? = (vs.map some)[j]? := fun j s e => by
          obtain ⟨h1, h2, h3⟩ := outs_get (n := 0) ho e
          refine ⟨h1, h2, ?_⟩
          rw [st.pm j (by rw [Nat.zero_add] at h3; exact h3)]
          have hj : j < vs.length := by
            have := lt_of_some e
            rw [endE_len] at this
            rw [l1, l2]; exact this
          unfold start
          rw [List.getElem?_append_left (by rw [List.length_map]; exact hj)]
        refine fin v F' H' ⟨fun a o e n => x'.keep a o e fun z => n ((own0 a).mp z), x'.dom, x'.mono, fun a h => (x'.newF a h).imp id fun z => z.imp (own0 a).mp id, fun a ⟨j, y, e, es⟩ => ?_⟩ ⟨?_, fun j s e => ?_, fun j l y s b hjl e1 k1 e2 k2 es el => ?_, R'.dom⟩ ?_
        · obtain ⟨_, h2, h3⟩ := place j _ e
          rcases x'.newO a ⟨j, y, h2, by rw [h3]; exact es⟩ with z | z
          · exact .inl ((own0 a).mp z)
          · exact .inr z
        · rw [endE_len, List.length_map, l1, l2]
        · obtain ⟨_, h2, h3⟩ := place j s e
          obtain ⟨w, ew, rr⟩ := R'.slot j s h2
          exact ⟨w, by rw [← h3]; exact ew, rr⟩
        · obtain ⟨_, h2, h3⟩ := place j y e1
          obtain ⟨_, h4, h5⟩ := place l s e2
          exact R'.sep j l y s b hjl h2 k1 h4 k2 (by rw [h3]; exact es) (by rw [h5]; exact el)
        · cases k with
          | false => exact hv
          | true =>
            obtain ⟨b, rfl, nb, c, nn, aw⟩ := hv
            refine ⟨b, rfl, nb, c, nn.imp (own0 b).mp id, fun j s e kk es => ?_⟩
            obtain ⟨_, h2, h3⟩ := place j s e
            exact aw j s h2 kk (by rw [h3]; exact es)
      rw [← ks] at hrun
      split at hrun
      · rename_i q k env' hx
        split at hrun
        · rename_i os' ho
          simp only [Option.some.injEq, Prod.mk.injEq] at hrun
          obtain ⟨hr1, hr2⟩ := hrun
          subst hr2
          exact ⟨F, _, _, R0, hx, fun v σ' F' H' x' R' st hv => fin' ho hr1.symm x' R' st hv⟩
        · cases hrun
      · rename_i env' hx
        split at hrun
        · rename_i os' ho
          simp only [Option.some.injEq, Prod.mk.injEq] at hrun
          obtain ⟨hr1, hr2⟩ := hrun
          subst hr2
          exact ⟨F, _, _, R0, hx, fun σ' F' H' x' R' st => fin' (q := .non) (k := false) ho hr1.symm x' R' st .non⟩
        · cases hrun
      · cases hrun
end
end L2.Pz
set_option Elab.async false
set_option linter.all false
set_option maxRecDepth 100000
set_option maxHeartbeats 4000000
namespace L2.Pz
set_option autoImplicit false
open PySem PySem.Spec PyProof.Rows L2

/-! ## Pz24: a law, from its defs' pure meaning -/
open Classical in
/-- loops without a bound: what some number of turns comes to -/
noncomputable def lim : Lp := fun f e => if h : ∃ (r : Fl) (n : Nat), turns f n e = some r then some h.choose else none
theorem lim_ok : LpOk lim := fun f e r h => by
  unfold lim at h
  split at h
  · rename_i q
    cases h
    exact q.choose_spec
  · cases h
theorem turns_mono {f : En → Option (Sum En Fl)} : ∀ {n m : Nat} {e : En} {r : Fl}, turns f n e = some r → n ≤ m → turns f m e = some r
  | 0, _, _, _, h, _ => by cases h
  | n + 1, 0, _, _, _, h => by omega
  | n + 1, m + 1, e, r, h, hm => by
    simp only [turns] at h ⊢
    split at h
    · rename_i e1 he
      exact turns_mono h (by omega)
    · rename_i r1 he
      exact h
    · cases h
theorem turns_uniq {f : En → Option (Sum En Fl)} {n m : Nat} {e : En} {r s : Fl} (h : turns f n e = some r) (k : turns f m e = some s) : r = s := by
  have a := turns_mono h (Nat.le_max_left n m)
  have b := turns_mono k (Nat.le_max_right n m)
  rw [a] at b
  exact Option.some.inj b
theorem lim_of {f : En → Option (Sum En Fl)} {e : En} {r : Fl} (n : Nat) (h : turns f n e = some r) : lim f e = some r := by
  have q : ∃ (r : Fl) (n : Nat), turns f n e = some r := ⟨r, n, h⟩
  unfold lim
  rw [dif_pos q]
  obtain ⟨m, hm⟩ := q.choose_spec
  rw [turns_uniq hm h]
theorem lim_step {f : En → Option (Sum En Fl)} {e e' : En} (h : f e = some (.inl e')) : lim f e = lim f e' := by
  cases q : lim f e' with
  | some r =>
    obtain ⟨n, hn⟩ := lim_ok _ _ _ q
    exact lim_of (n + 1) (by simp only [turns, h]; exact hn)
  | none =>
    cases q2 : lim f e with
    | none => rfl
    | some r =>
      obtain ⟨n, hn⟩ := lim_ok _ _ _ q2
      cases n with
      | zero => cases hn
      | succ n =>
        simp only [turns, h] at hn
        rw [lim_of n hn] at q
        cases q
theorem lim_stop {f : En → Option (Sum En Fl)} {e : En} {r : Fl} (h : f e = some (.inr r)) : lim f e = some r := lim_of 1 (by simp only [turns, h])

def faOf (nf : Nf) : List He.Fa := nf.fn.map He.Fa.glo ++ (nf.free.map He.Fa.free ++ nf.cst.map fun q => match q.2 with
  | .int i => He.Fa.int q.1 i
  | .str s => He.Fa.str q.1 s
  | _ => He.Fa.glo q.1)
def ddOf (t : Txt) : He.DefD := ⟨(t.gl, none), t.name, t.name, t.params, t.body, t.scope, [], []⟩
def fnOf (tl : List Txt) : List He.DefD := tl.map ddOf
def cstB (nf : Nf) : Bool := nf.cst.all fun q => match q.2 with
  | .int _ | .str _ => true
  | _ => false
/-- all defs are checked -/
def chkAll (nf : Nf) (tl : List Txt) (dl : List Dfn) : Bool := decide (nf.fn = tl.map Txt.gl) && cstB nf && decide (tl.length = dl.length) && (tl.zip dl).all fun q => chkD nf q.1 q.2
abbrev dAt (dl : List Dfn) (i : Nat) : Dfn := dl.getD i ⟨[], 0, []⟩
abbrev tAt (tl : List Txt) (i : Nat) : Txt := tl.getD i ⟨Str.ofString "", Str.ofString "", ⟨[], [], none, [], [], none, []⟩, [], ⟨.function, [], false, false, []⟩, []⟩
section
variable {K : PySem.W.Frag} {h : Heap} {mg : Str → Option Value} {nf : Nf} {tl : List Txt} {dl : List Dfn} {P : Program}
theorem says_mem {fa : List He.Fa} {fn : List He.DefD} (c : He.SaysD fa fn K) {f : He.Fa} (hf : f ∈ fa) : f.ok K = true := by
  have e : ((fa.all fun f => f.ok K) && fn.all fun d => d.ok K) = true := congrArg (fun z : He.AlD => z.1) c
  rw [Bool.and_eq_true] at e
  exact List.all_eq_true.mp e.1 f hf
theorem mdl_of (w : World) (X : K.In h) (G : h.Ns mainGlobals mg) (c : He.SaysD (faOf nf) (fnOf tl) K) (hc : chkAll nf tl dl = true) : Mdl ⟨K, w⟩ mg nf (dAt dl) (tAt tl) := by
  unfold chkAll at hc
  simp only [Bool.and_eq_true, decide_eq_true_eq] at hc
  obtain ⟨⟨⟨h1, h2⟩, h3⟩, h4⟩ := hc
  have at_ : ∀ (i : Nat) (x : Str), nf.fn[i]? = some x → ∃ t d, tl[i]? = some t ∧ dl[i]? = some d ∧ t.gl = x ∧ tAt tl i = t ∧ dAt dl i = d := fun i x hx => by
    rw [h1, List.getElem?_map] at hx
    obtain ⟨t, ht, rfl⟩ := Option.map_eq_some_iff.mp hx
    have hl : i < dl.length := by rw [← h3]; exact lt_of_some ht
    refine ⟨t, dl[i], ht, List.getElem?_eq_getElem hl, rfl, ?_, ?_⟩
    · show tl.getD i _ = t
      rw [List.getD_eq_getElem?_getD, ht]; rfl
    · show dl.getD i _ = _
      rw [List.getD_eq_getElem?_getD, List.getElem?_eq_getElem hl]; rfl
  refine ⟨fun x hx => ?_, fun q hq => ?_, fun i x hx => ?_, fun i x hx => ?_⟩
  · exact He.free_ok X G (says_mem c (List.mem_append_right _ (List.mem_append_left _ (List.mem_map_of_mem hx))))
  · have hm := says_mem c (f := match q.2 with
      | .int i => He.Fa.int q.1 i
      | .str s => He.Fa.str q.1 s
      | _ => He.Fa.glo q.1) (List.mem_append_right _ (List.mem_append_right _ (List.mem_map.mpr ⟨q, hq, rfl⟩)))
    have hb := List.all_eq_true.mp h2 q hq
    obtain ⟨x, p⟩ := q
    cases p with
    | int i =>
      obtain ⟨t, ht⟩ := He.int_ok X G hm
      exact ⟨_, .int i, ht, ⟨t, rfl⟩, fun F H => .int i⟩
    | str z =>
      obtain ⟨t, ht⟩ := He.str_ok X G hm
      exact ⟨_, .str z, ht, ⟨t, rfl⟩, fun F H => .str z⟩
    | _ => cases hb
  · obtain ⟨t, d, e1, e2, e3, e4, e5⟩ := at_ i x hx
    have hg := He.glo_ok X G (says_mem c (f := .glo x) (List.mem_append_left _ (List.mem_map_of_mem (List.mem_of_getElem? hx))))
    have hd := c.def_ i (d := ddOf t) (by unfold fnOf; rw [List.getElem?_map, e1]; rfl)
    obtain ⟨fd, hF⟩ := hd
    rw [e4]
    refine ⟨_, fd, hg, ?_⟩
    rw [← e3]
    exact hF
  · obtain ⟨t, d, e1, e2, e3, e4, e5⟩ := at_ i x hx
    rw [e4, e5]
    refine List.all_eq_true.mp h4 (t, d) ?_
    have : (tl.zip dl)[i]? = some (t, d) := by
      rw [List.getElem?_zip_eq_some]
      exact ⟨e1, e2⟩
    exact List.mem_of_getElem? this
/-- a law keeps its promise, by its pure meaning -/
theorem law_F (w : World) (X : K.In h) (G : h.Ns mainGlobals mg) (c : He.SaysD (faOf nf) (fnOf tl) K) (hc : chkAll nf tl dl = true) {li : Nat} {x : Str} {fa : Addr} {n k : Nat} {ps : Str} (hx : nf.fn[li]? = some x) (hm : mg x = some (.ref fa)) (hp : (tAt tl li).params.args.map (·.arg) = [ps]) (hmd : (dAt dl li).modes = [.ro])
    (hrun : ∀ ns : List Int, ns.length ≤ n → ∃ b os, run lim (dAt dl) k li [.scr ns] = some ((.bl true, b), os)) :
    ∃ (K : PySem.W.Frag) (fd : FuncData) (sp : Sp), K.In h ∧ (∀ (s : Shared) (u : Value), BindsTo s fd ⟨[u], []⟩ [(ps, u)]) ∧
        (∀ (H : Hp) (a : Addr) (ns : List Int), ns.length ≤ n → Only H → SqL K H a (ns.map V.int) → sp [.ref a] H (fun v _ => v = .bl true) fun _ _ _ => False) ∧
        ∀ base : Heap, K.In base → base.Ns mainGlobals mg → FnOk P w K mg base CX0 k fa fd [ps] sp := by
  have m := mdl_of w X G c hc
  obtain ⟨fb, fd, hm', hF⟩ := m.fn li x hx
  rw [hm] at hm'; cases hm'
  have hcj := m.chk li x hx
  unfold chkD at hcj
  simp only [Bool.and_eq_true, decide_eq_true_eq] at hcj
  have hsj := hcj.1.1.1
  have hml := hcj.1.1.2
  unfold scopeB at hsj
  simp only [Bool.and_eq_true, Bool.not_eq_true', decide_eq_true_eq, List.all_eq_true] at hsj
  have hbA := hF.bindsA (ps := [ps]) fun kV doc pmv an cdv ct us hl => bind_all hsj.2 hp (by simp) hl
  refine ⟨K, fd, spC ⟨K, w⟩ (fun i => (dAt dl i).modes) (run lim (dAt dl) k) li, X, fun s u => hbA s [u] rfl, fun H a ns hl _ hS => ?_, fun base _ _ => ?_⟩
  · obtain ⟨b, os, hr⟩ := hrun ns hl
    rw [hp] at hml
    have hv : ∃ F : Ad, (∀ b, F b → H b ≠ none) ∧ RepV ⟨K, w⟩ F H (.scr ns) (.ref a) := by
      rcases hS with hS | hS
      · exact ⟨fun b => b = a, fun b e => by rw [e]; exact rdD hS, .scr rfl hS⟩
      · exact ⟨fun _ => False, fun _ e => e.elim, .scrK hS⟩
    obtain ⟨F, hF0, hv⟩ := hv
    refine ⟨F, [.scr ns], _, os, rfl, by show _ = (dAt dl li).modes.length; rw [hmd]; rfl, ?_, hr, fun v F' H' _ _ hh => ?_⟩
    · show Rep _ F H [some (.ref a)] (starts (dAt dl li).modes [.scr ns])
      rw [hmd]
      refine ⟨rfl, fun i s e => ?_, fun i j x s a hij e1 k1 e2 k2 es ej => ?_, hF0⟩
      · cases i with
        | zero => cases e; exact ⟨_, rfl, .inl hv⟩
        | succ i => cases e
      · have hi : i = 0 := by have := lt_of_some e1; simp [starts] at this; exact this
        have hj : j = 0 := by have := lt_of_some e2; simp [starts] at this; exact this
        exact (hij (hi.trans hj.symm)).elim
    · cases b with
      | false => exact (show Peek _ F' H' (.bl true) v from .inl hh).bl
      | true => obtain ⟨_, _, _, c, _⟩ := hh; cases c
  · have := fn_ok (P := P) (base := base) lim_ok m k li x hx fa fd hm hF
    have e : parN (tAt tl) li = [ps] := hp
    rw [e] at this
    exact this
end
end L2.Pz
set_option Elab.async false
set_option linter.all false
set_option maxRecDepth 100000
set_option maxHeartbeats 4000000
namespace L2.Pz
set_option autoImplicit false
open PySem hiding run
open L2

/-! ## Pz24e: the pure meaning, construct by construct -/
section
variable {M : Nat → List Md} {C : Cl}
theorem ev_con (c : PV) (env : En) : ev M C (.con c) env = (some (.vl c false, env)) := by first | rfl | (simp only [ev]; rfl)
theorem ev_glo (x0 : Str) (c : PV) (env : En) : ev M C (.glo x0 c) env = (some (.vl c false, env)) := by first | rfl | (simp only [ev]; rfl)
theorem ev_var (i : Nat) (env : En) : ev M C (.var i) env = (match env[i]? with
    | some (some _) => some (.sl i, env)
    | _ => none) := by first | rfl | (simp only [ev]; rfl)
theorem ev_bin (o : Bop) (a b : E) (env : En) : ev M C (.bin o a b) env = (match ev M C a env with
    | some (x, env) => match ev M C b env with
      | some (y, env) => match deref env x, deref env y with
        | some p, some q => match binF o p q with
          | some (r, f) => some (.vl r f, env)
          | none => none
        | _, _ => none
      | none => none
    | none => none) := by first | rfl | (simp only [ev]; rfl)
theorem ev_un (o : Uop) (a : E) (env : En) : ev M C (.un o a) env = (match ev M C a env with
    | some (x, env) => match deref env x with
      | some p => match unF o p with
        | some r => some (.vl r false, env)
        | none => none
      | none => none
    | none => none) := by first | rfl | (simp only [ev]; rfl)
theorem ev_cmp (o : Cop) (a b : E) (env : En) : ev M C (.cmp o a b) env = (match ev M C a env with
    | some (x, env) => match ev M C b env with
      | some (y, env) => match deref env x, deref env y with
        | some p, some q => match cmpF o p q with
          | some r => some (.vl (.bl r) false, env)
          | none => none
        | _, _ => none
      | none => none
    | none => none) := by first | rfl | (simp only [ev]; rfl)
theorem ev_cmp2 (o p : Cop) (a b c : E) (env : En) : ev M C (.cmp2 o p a b c) env = (match ev M C a env with
    | some (x, env) => match ev M C b env with
      | some (y, env) => match deref env x, deref env y with
        | some u, some v => match cmpF o u v with
          | some true => match ev M C c env with
            | some (z, env) => match deref env y, deref env z with
              | some v, some w => match cmpF p v w with
                | some r => some (.vl (.bl r) false, env)
                | none => none
              | _, _ => none
            | none => none
          | some false => some (.vl (.bl false) false, env)
          | none => none
        | _, _ => none
      | none => none
    | none => none) := by first | rfl | (simp only [ev]; rfl)
theorem ev_and (a b : E) (env : En) : ev M C (.and a b) env = (match ev M C a env with
    | some (x, env) => match deref env x with
      | some (.bl true) => ev M C b env
      | some (.bl false) => some (.vl (.bl false) false, env)
      | _ => none
    | none => none) := by first | rfl | (simp only [ev]; rfl)
theorem ev_or (a b : E) (env : En) : ev M C (.or a b) env = (match ev M C a env with
    | some (x, env) => match deref env x with
      | some (.bl true) => some (.vl (.bl true) false, env)
      | some (.bl false) => ev M C b env
      | _ => none
    | none => none) := by first | rfl | (simp only [ev]; rfl)
theorem ev_not (a : E) (env : En) : ev M C (.not a) env = (match ev M C a env with
    | some (x, env) => match deref env x with
      | some (.bl k) => some (.vl (.bl (!k)) false, env)
      | _ => none
    | none => none) := by first | rfl | (simp only [ev]; rfl)
theorem ev_ite (c a b : E) (env : En) : ev M C (.ite c a b) env = (match ev M C c env with
    | some (x, env) => match deref env x with
      | some (.bl true) => ev M C a env
      | some (.bl false) => ev M C b env
      | _ => none
    | none => none) := by first | rfl | (simp only [ev]; rfl)
theorem ev_tup (es : List E) (env : En) : ev M C (.tup es) env = (match evs M C es env with
    | some (os, env) => match consumes env os with
      | some (ps, env) => if ps.length ≤ sizeLine then some (.vl (.tup ps) false, env) else none
      | none => none
    | none => none) := by first | rfl | (simp only [ev]; rfl)
theorem ev_lst (es : List E) (env : En) : ev M C (.lst es) env = (match evs M C es env with
    | some (os, env) => match consumes env os with
      | some (ps, env) => if ps.length ≤ sizeLine then some (.vl (.lst ps) true, env) else none
      | none => none
    | none => none) := by first | rfl | (simp only [ev]; rfl)
theorem ev_dsp (es : List E) (env : En) : ev M C (.dsp es) env = (match evs M C es env with
    | some (os, env) => match consumes env os with
      | some (ps, env) => match kvsOf ps with
        | some kvs => if kvs.length ≤ 15 then some (.vl (.dk (putAllP [] kvs)) true, env) else none
        | none => none
      | none => none
    | none => none) := by first | rfl | (simp only [ev]; rfl)
theorem ev_dnk  (env : En) : ev M C (.dnk ) env = (some (.vl (.dk []) true, env)) := by first | rfl | (simp only [ev]; rfl)
theorem ev_dnt  (env : En) : ev M C (.dnt ) env = (some (.vl (.dt []) true, env)) := by first | rfl | (simp only [ev]; rfl)
theorem ev_idx (a i : E) (env : En) : ev M C (.idx a i) env = (match ev M C a env with
    | some (x, env) => match ev M C i env with
      | some (y, env) => match deref env x, deref env y with
        | some p, some q => match idxF p q with
          | some r => some (.vl r false, env)
          | none => none
        | _, _ => none
      | none => none
    | none => none) := by first | rfl | (simp only [ev]; rfl)
theorem ev_slc (a : E) (lo hi : List E) (env : En) : ev M C (.slc a lo hi) env = (match ev M C a env with
    | some (x, env) => match evs M C lo env with
      | some (l, env) => match ((derefs env l).bind asInts).bind asOpt with
        | some lo => match evs M C hi env with
          | some (h, env) => match ((derefs env h).bind asInts).bind asOpt with
            | some hi => match deref env x with
              | some p => match slcF p lo hi with
                | some (r, f) => some (.vl r f, env)
                | none => none
              | none => none
            | none => none
          | none => none
        | none => none
      | none => none
    | none => none) := by first | rfl | (simp only [ev]; rfl)
theorem ev_rev (a : E) (env : En) : ev M C (.rev a) env = (match ev M C a env with
    | some (x, env) => match deref env x with
      | some (.lst xs) => some (.vl (.lst xs.reverse) true, env)
      | some (.tup xs) => some (.vl (.tup xs.reverse) false, env)
      | _ => none
    | none => none) := by first | rfl | (simp only [ev]; rfl)
theorem ev_isi (t : Ty) (a : E) (env : En) : ev M C (.isi t a) env = (match ev M C a env with
    | some (x, env) => match deref env x with
      | some p => match isiF t p with
        | some (r, f) => some (.vl r f, env)
        | none => none
      | none => none
    | none => none) := by first | rfl | (simp only [ev]; rfl)
theorem ev_call (f : Nat) (es : List E) (env : En) : ev M C (.call f es) env = (match evs M C es env with
    | some (os, env) => match pass (M f) os env with
      | some (ps, is, env) => match C f ps with
        | some ((r, k), outs) => match back is outs env with
          | some env => some (.vl r k, env)
          | none => none
        | none => none
      | none => none
    | none => none) := by first | rfl | (simp only [ev]; rfl)
theorem ev_bi (b : Bi) (es : List E) (env : En) : ev M C (.bi b es) env = (match evs M C es env with
    | some (os, env) => match derefs env os with
      | some ps => match biF b ps with
        | some (r, f) => some (.vl r f, env)
        | none => none
      | none => none
    | none => none) := by first | rfl | (simp only [ev]; rfl)
theorem ev_met (m : Mt) (o : E) (es : List E) (env : En) : ev M C (.met m o es) env = (match ev M C o env with
    | some (x, env) => match deref env x with
      | some p0 => match evs M C es env with
        | some (os, env) => match deref env x, derefs env os with
          | some p, some ps => if p0.kn = p.kn then (match metF m p ps with
            | some (r, f) => some (.vl r f, env)
            | none => none) else none
          | _, _ => none
        | none => none
      | none => none
    | none => none) := by first | rfl | (simp only [ev]; rfl)
theorem ev_mm (m : Mm) (i : Nat) (es : List E) (env : En) : ev M C (.mm m i es) env = (match env[i]? with
    | some (some s0) => match evs M C es env with
      | some (os, env) => match consumes env os with
        | some (ps, env) => match env[i]? with
          | some (some ⟨p, .own⟩) => if s0.v.kn = p.kn then (match mutF m p ps with
            | some (p', r) => some (.vl r false, env.set i (some ⟨p', .own⟩))
            | none => none) else none
          | _ => none
        | none => none
      | none => none
    | _ => none) := by first | rfl | (simp only [ev]; rfl)
theorem ev_zip (a b : E) (env : En) : ev M C (.zip a b) env = (match ev M C a env with
    | some (x, env) => match ev M C b env with
      | some (y, env) => match deref env x, deref env y with
        | some (.lst xs), some (.lst ys) => some (.wk (zipP xs ys) (x.slot ++ y.slot), env)
        | some (.tup xs), some (.tup ys) => some (.wk (zipP xs ys) (x.slot ++ y.slot), env)
        | _, _ => none
      | none => none
    | none => none) := by first | rfl | (simp only [ev]; rfl)
theorem ev_enum (a : E) (env : En) : ev M C (.enum a) env = (match ev M C a env with
    | some (x, env) => match deref env x with
      | some (.lst xs) => some (.wk (enumP 0 xs) x.slot, env)
      | some (.tup xs) => some (.wk (enumP 0 xs) x.slot, env)
      | _ => none
    | none => none) := by first | rfl | (simp only [ev]; rfl)
theorem ev_rngI (es : List E) (env : En) : ev M C (.rngI es) env = (match evs M C es env with
    | some (os, env) => match (derefs env os).bind asInts with
      | some ns => match rngIF ns with
        | some xs => some (.wk (xs.map PV.int) [], env)
        | none => none
      | none => none
    | none => none) := by first | rfl | (simp only [ev]; rfl)
/-- a comprehension whose turns leave the slots as they are -/
theorem lcGo_map {turn : PV → En → Option (Option PV × En)} {f : PV → Option PV} {env : En} : ∀ {l : List PV}, (∀ z ∈ l, turn z env = some (f z, env)) → lcGo turn l env = some (l.filterMap f, env)
  | [], _ => rfl
  | z :: l, h => by
    have ih := lcGo_map (f := f) fun y hy => h y (List.mem_cons_of_mem _ hy)
    simp only [lcGo, h z (List.mem_cons_self ..), List.filterMap_cons]
    cases q : f z with
    | none => simp only [ih]
    | some y => simp only [ih]
theorem ev_lc (tg : Tg) (it : E) (ifs : List E) (elt : E) (env : En) : ev M C (.lc tg it ifs elt) env = (match ev M C it env with
    | some (x, env) => match walkO env x with
      | some (xs, o) => match lcGo (turn1F M C tg.slots tg ifs elt) xs (wipeE (lock env o) tg.slots) with
        | some (ys, env') => if ys.length ≤ sizeLine then some (.vl (.lst ys) true, unlock (restore env env' tg.slots) (lkOf env o)) else none
        | none => none
      | none => none
    | none => none) := by first | rfl | (simp only [ev]; rfl)
theorem ev_lc_map {tg : Tg} {it elt : E} {ifs : List E} {env env1 : En} {x : Opd} {xs : List PV} {l : List Nat} (f : PV → Option PV) (h1 : ev M C it env = some (x, env1)) (h2 : walkO env1 x = some (xs, l))
    (ht : ∀ z ∈ xs, turn1F M C tg.slots tg ifs elt z (wipeE (lock env1 l) tg.slots) = some (f z, wipeE (lock env1 l) tg.slots)) (hz : (xs.filterMap f).length ≤ sizeLine) :
    ev M C (.lc tg it ifs elt) env = some (.vl (.lst (xs.filterMap f)) true, unlock (restore env1 (wipeE (lock env1 l) tg.slots) tg.slots) (lkOf env1 l)) := by
  have hg := lcGo_map (turn := turn1F M C tg.slots tg ifs elt) ht
  rw [ev_lc]
  simp only [h1, h2, hg, hz, if_true]
variable {W : Lp} {pm : List Nat}
theorem ex_ex (e : E) (env : En) : ex M C W pm (.ex e) env = (match ev M C e env with
    | some (_, env) => some (.nx env)
    | none => none) := by first | rfl | (simp only [ex]; rfl)
theorem ex_set (i : Nat) (e : E) (env : En) : ex M C W pm (.set i e) env = (match ev M C e env with
    | some (x, env) => match move pm x env with
      | some ((p, f), env) => match store pm i p f env with
        | some env => some (.nx env)
        | none => none
      | none => none
    | none => none) := by first | rfl | (simp only [ex]; rfl)
theorem ex_unp (is : List Nat) (e : E) (env : En) : ex M C W pm (.unp is e) env = (match ev M C e env with
    | some (x, env) => match deref env x with
      | some (.tup ps) => match stores pm is ps env with
        | some env => some (.nx env)
        | none => none
      | some (.lst ps) => match stores pm is ps env with
        | some env => some (.nx env)
        | none => none
      | _ => none
    | none => none) := by first | rfl | (simp only [ex]; rfl)
theorem ex_par (is : List Nat) (es : List E) (env : En) : ex M C W pm (.par is es) env = (match evs M C es env with
    | some (os, env) => match moves pm os env with
      | some (rs, env) => match storeR pm is rs env with
        | some env => some (.nx env)
        | none => none
      | none => none
    | none => none) := by first | rfl | (simp only [ex]; rfl)
theorem ex_pst (ts : List Plc) (es : List E) (env : En) : ex M C W pm (.pst ts es) env = (match evs M C es env with
    | some (os, env) => match consumes env os with
      | some (ps, env) => match psts M C pm ts ps env with
        | some env => some (.nx env)
        | none => none
      | none => none
    | none => none) := by first | rfl | (simp only [ex]; rfl)
theorem ex_sti (i : Nat) (k e : E) (env : En) : ex M C W pm (.sti i k e) env = (match ev M C e env with
    | some (y, env) => match consume env y with
      | some (y, env) => match ev M C k env with
        | some (k, env) => match deref env k, env[i]? with
          | some k, some (some ⟨p, .own⟩) => match setF p k y with
            | some p => some (.nx (env.set i (some ⟨p, .own⟩)))
            | none => none
          | _, _ => none
        | none => none
      | none => none
    | none => none) := by first | rfl | (simp only [ex]; rfl)
theorem ex_aug (i : Nat) (o : Bop) (e : E) (env : En) : ex M C W pm (.aug i o e) env = (match ev M C e env with
    | some (y, env) => match deref env (.sl i), deref env y with
      | some (.int p), some (.int q) => match binF o (.int p) (.int q) with
        | some (r, f) => match store pm i r f env with
          | some env => some (.nx env)
          | none => none
        | none => none
      | _, _ => none
    | none => none) := by first | rfl | (simp only [ex]; rfl)
theorem ex_ite (c : E) (a b : List S) (env : En) : ex M C W pm (.ite c a b) env = (match ev M C c env with
    | some (x, env) => match deref env x with
      | some (.bl true) => exs M C W pm a env
      | some (.bl false) => exs M C W pm b env
      | _ => none
    | none => none) := by first | rfl | (simp only [ex]; rfl)
theorem ex_ret (e : E) (env : En) : ex M C W pm (.ret e) env = (match ev M C e env with
    | some (x, env) => match move pm x env with
      | some ((p, f), env) => some (.rt p f env)
      | none => none
    | none => none) := by first | rfl | (simp only [ex]; rfl)
theorem ex_retN (env : En) : ex M C W pm .retN env = some (.rt .non false env) := by first | rfl | (simp only [ex]; rfl)
theorem ex_pas (env : En) : ex M C W pm .pas env = some (.nx env) := by first | rfl | (simp only [ex]; rfl)
theorem exs_nil (env : En) : exs M C W pm [] env = some (.nx env) := by first | rfl | (simp only [exs]; rfl)
theorem exs_cons (s : S) (ss : List S) (env : En) : exs M C W pm (s :: ss) env = (match ex M C W pm s env with
  | some (.nx env) => exs M C W pm ss env
  | r => r) := by first | rfl | (simp only [exs]; rfl)
theorem exs_nx {s : S} {ss : List S} {env env1 : En} (h : ex M C W pm s env = some (.nx env1)) : exs M C W pm (s :: ss) env = exs M C W pm ss env1 := by rw [exs_cons, h]
theorem exs_rt {s : S} {ss : List S} {env env1 : En} {p : PV} {k : Bool} (h : ex M C W pm s env = some (.rt p k env1)) : exs M C W pm (s :: ss) env = some (.rt p k env1) := by rw [exs_cons, h]
/-- a for's turn, a while's turn -/
def forT (M : Nat → List Md) (C : Cl) (W : Lp) (pm : List Nat) (tg : Tg) (b : List S) : PV → En → Option Fl := fun x env => match bindTg pm tg x env with
  | some env => exs M C W pm b env
  | none => none
def whlT (M : Nat → List Md) (C : Cl) (W : Lp) (pm : List Nat) (c : E) (b : List S) : En → Option (Sum En Fl) := fun env => match ev M C c env with
  | some (x, env) => match deref env x with
    | some (.bl true) => match exs M C W pm b env with
      | some (.nx env) => some (.inl env)
      | some r => some (.inr r)
      | none => none
    | some (.bl false) => some (.inr (.nx env))
    | _ => none
  | none => none
theorem ex_whl (c : E) (b : List S) (env : En) : ex M C W pm (.whl c b) env = W (whlT M C W pm c b) env := by first | rfl | (simp only [ex]; rfl)
theorem ex_for (tg : Tg) (it : E) (b : List S) (env : En) : ex M C W pm (.for_ tg it b) env = (match ev M C it env with
  | some (x, env) => match walkO env x with
    | some (xs, o) => match forGo (forT M C W pm tg b) xs (lock env o) with
      | some (.nx env') => some (.nx (unlock env' (lkOf env o)))
      | r => r
    | none => none
  | none => none) := by first | rfl | (simp only [ex]; rfl)
theorem ex_for_nx {tg : Tg} {it : E} {b : List S} {env env1 env2 : En} {x : Opd} {xs : List PV} {l : List Nat} (h1 : ev M C it env = some (x, env1)) (h2 : walkO env1 x = some (xs, l)) (h3 : forGo (forT M C W pm tg b) xs (lock env1 l) = some (.nx env2)) : ex M C W pm (.for_ tg it b) env = some (.nx (unlock env2 (lkOf env1 l))) := by
  rw [ex_for, h1]
  simp only [h2, h3]
theorem ex_for_rt {tg : Tg} {it : E} {b : List S} {env env1 env2 : En} {x : Opd} {xs : List PV} {l : List Nat} {p : PV} {k : Bool} (h1 : ev M C it env = some (x, env1)) (h2 : walkO env1 x = some (xs, l)) (h3 : forGo (forT M C W pm tg b) xs (lock env1 l) = some (.rt p k env2)) : ex M C W pm (.for_ tg it b) env = some (.rt p k env2) := by
  rw [ex_for, h1]
  simp only [h2, h3]
end
end L2.Pz
set_option Elab.async false
set_option linter.all false
set_option maxRecDepth 100000
set_option maxHeartbeats 4000000
namespace L2.Pz
set_option autoImplicit false
open PySem hiding run
open L2

/-! ## Pz25: what the laws' own small defs do -/
def cRoll : Dfn := ⟨[.mu, .ro], 4, [.ite (.cmp .gt (.idx (.var 0) (.con (.int 0))) (.con (.int 0))) [.set 3 (.bin .mod (.bi .int [(.idx (.var 0) (.con (.int 0)))]) (.var 1)), .sti 0 (.con (.int 0)) (.bin .fdiv (.idx (.var 0) (.con (.int 0))) (.var 1)), .ret (.var 3)] [], .sti 0 (.con (.int 1)) (.bin .mod (.bi .int [(.bin .add (.bin .mul (.idx (.var 0) (.con (.int 1))) (.con (.int 31051))) (.con (.int 7993)))]) (.con (.int 2147483543))), .set 2 (.bin .mod (.bi .int [(.bin .mul (.idx (.var 0) (.con (.int 1))) (.bin .add (.idx (.var 0) (.con (.int 1))) (.con (.int 229))))]) (.con (.int 2147483587))), .ret (.bin .mod (.bi .int [(.bin .fdiv (.var 2) (.con (.int 821)))]) (.var 1))]⟩
section
variable {W : Lp} {D : Nat → Dfn} {i : Nat}
theorem run_succ (d : Nat) (f : Nat) (ps : List PV) : run W D (d + 1) f ps = if ps.length = (D f).modes.length then
    (match exs (fun f => (D f).modes) (run W D d) W (mutsOf 0 (D f).modes) (D f).body (starts (D f).modes ps ++ List.replicate ((D f).slots - (D f).modes.length) none) with
    | some (.rt p k env) => (match outs (D f).modes env with
      | some os => some ((p, k), os)
      | none => none)
    | some (.nx env) => (match outs (D f).modes env with
      | some os => some ((.non, false), os)
      | none => none)
    | none => none) else none := rfl
theorem roll_ok (h : D i = cRoll) (d : Nat) (a b m : Int) (hm : 0 < m) (hl : m.natAbs.log2 < 9000) : ∃ v a' b' : Int, 0 ≤ v ∧ v < m ∧ run W D (d + 1) i [.lst [.int a, .int b], .int m] = some ((.int v, false), [.lst [.int a', .int b']]) := by
  by_cases ha : 0 < a
  · refine ⟨a % m, a / m, b, Int.emod_nonneg _ (by omega), Int.emod_lt_of_pos _ hm, ?_⟩
    rw [run_succ, h]
    simp [cRoll, exs, ex, ev, evs, starts, kdOf, deref, derefs, cmpF, icF, idxF, atP, ixN, ha, mutsOf, binF, intF, hm, hl, biF, intBi, move, store, consume, kd, setF, outs, asInts]
  · have h1 : mulOk b 31051 = true := by unfold mulOk; simp
    have hb1 := Int.emod_nonneg (b * 31051 + 7993) (show (2147483543 : Int) ≠ 0 by decide)
    have hb2 := Int.emod_lt_of_pos (b * 31051 + 7993) (show (0 : Int) < 2147483543 by decide)
    generalize hb : (b * 31051 + 7993) % 2147483543 = b' at hb1 hb2
    have h2 : mulOk b' (b' + 229) = true := by
      unfold mulOk
      have e1 : decide (-(2 ^ 64) < b') = true := decide_eq_true (by omega)
      have e2 : decide (b' < 2 ^ 64) = true := decide_eq_true (by omega)
      rw [e1, e2]; simp
    refine ⟨(b' * (b' + 229) % 2147483587 / 821) % m, a, b', Int.emod_nonneg _ (by omega), Int.emod_lt_of_pos _ hm, ?_⟩
    rw [run_succ, h]
    have l8 : Nat.log2 821 < 9000 := by decide
    simp [cRoll, exs, ex, ev, evs, starts, kdOf, deref, derefs, cmpF, icF, idxF, atP, ixN, ha, mutsOf, binF, intF, mulF, addF, h1, h2, hb, hm, hl, biF, intBi, move, store, consume, kd, setF, outs, asInts, l8]
/-- a cup of chance -/
def Cup (p : PV) : Prop := ∃ a b : Int, p = .lst [.int a, .int b]
theorem roll {D : Nat → Dfn} {i : Nat} (h : D i = cRoll) (d : Nat) {c : PV} (hc : Cup c) {m : Int} (hm : 0 < m) (hl : m < 2 ^ 200) : ∃ (v : Int) (c' : PV), 0 ≤ v ∧ v < m ∧ Cup c' ∧ run W D (d + 1) i [c, .int m] = some ((.int v, false), [c']) := by
  obtain ⟨a, b, rfl⟩ := hc
  have hl' : m.natAbs.log2 < 9000 := by
    have h1 : m.natAbs < 2 ^ 200 := by omega
    have h2 : m.natAbs.log2 < 200 := (Nat.log2_lt (by omega)).mpr h1
    omega
  obtain ⟨v, a', b', h1, h2, h3⟩ := roll_ok (W := W) h d a b m hm hl'
  exact ⟨v, _, h1, h2, ⟨a', b', rfl⟩, h3⟩
def cSort : Dfn := ⟨[.ro], 1, [.ite (.or (.cmp .is_ (.var 0) (.con .non)) (.isi .bool (.var 0))) [.ret (.ite (.cmp .is_ (.var 0) (.con .non)) (.con (.int 0)) (.con (.int 1)))] [], .ite (.or (.isi .int (.var 0)) (.isi .str (.var 0))) [.ret (.ite (.isi .int (.var 0)) (.con (.int 2)) (.con (.int 3)))] [], .ret (.ite (.isi .tuple (.var 0)) (.con (.int 4)) (.ite (.isi .list (.var 0)) (.con (.int 5)) (.con (.int 6))))]⟩
def sortN : PV → Int
  | .non => 0
  | .bl _ => 1
  | .int _ => 2
  | .str _ => 3
  | .tup _ => 4
  | .lst _ | .scr _ => 5
  | _ => 6
/-- values that == is known of -/
def Pln : PV → Bool
  | .non | .bl _ | .int _ | .str _ | .tup _ | .lst _ => true
  | _ => false
theorem sort_run {D : Nat → Dfn} {i : Nat} (h : D i = cSort) (d : Nat) {p : PV} (hp : Pln p = true) : run W D (d + 1) i [p] = some ((.int (sortN p), false), []) := by
  rw [run_succ, h]
  cases p <;> first | (cases hp; done) | rfl
theorem addF_int (i j : Int) : addF (.int i) (.int j) = some (.int (i + j), false) := rfl
def cSome (r : Nat) : Dfn := ⟨[.mu, .ro], 2, [.ret (.idx (.var 1) (.call r [(.var 0), (.bi .len [(.var 1)])]))]⟩
def cCup : Dfn := ⟨[.ro], 2, [.set 1 (.bi .abs [(.idx (.bin .add (.bi .list [(.var 0)]) (.lst [(.con (.int 0))])) (.con (.int 0)))]), .ret (.lst [(.ite (.cmp .ge (.var 1) (.bin .pow (.con (.int 10)) (.con (.int 18)))) (.bin .fdiv (.var 1) (.con (.int 73))) (.con (.int 0))), (.bin .add (.bin .mod (.bi .int [(.bin .add (.bin .mul (.var 1) (.con (.int 283))) (.con (.int 3907)))]) (.con (.int 2077503167))) (.con (.int 167)))])]⟩
theorem cup_run {D : Nat → Dfn} {i : Nat} (h : D i = cCup) (d : Nat) {ns : List Int} (hl : ns.length ≤ 63) : ∃ c, Cup c ∧ run W D (d + 1) i [.scr ns] = some ((c, true), []) := by
  have go : ∀ x : Int, (∃ l : List Int, addF (.lst (ns.map PV.int)) (.lst [.int 0]) = some (.lst (l.map PV.int), true) ∧ atP (l.map PV.int) 0 = some (.int x)) → run W D (d + 1) i [.scr ns] = some ((.lst [.int (if 1000000000000000000 ≤ (if x < 0 then -x else x) then (if x < 0 then -x else x) / 73 else 0), .int (((if x < 0 then -x else x) * 283 + 3907) % 2077503167 + 167)], true), []) := by
    rintro x ⟨l, e1, e2⟩
    have h1 : mulOk (if x < 0 then -x else x) 283 = true := by unfold mulOk; simp
    have h2 : powOk 10 18 = true := by decide
    have l8 : Nat.log2 73 < 9000 := by decide
    rw [run_succ, h]
    by_cases hx : 1000000000000000000 ≤ (if x < 0 then -x else x) <;>
      simp [cCup, exs, ex, ev, evs, deref, derefs, starts, kdOf, biF, listF, consumes, consume, binF, e1, e2, idxF, absF, move, store, kd, mutsOf, outs, sizeLine, cmpF, icF, intF, mulF, h1, h2, hx, l8, intBi, addF_int]
  cases ns with
  | nil => exact ⟨_, ⟨_, _, rfl⟩, go 0 ⟨[0], by simp [addF, sizeLine], by simp [atP, ixN]⟩⟩
  | cons n ns =>
    refine ⟨_, ⟨_, _, rfl⟩, go n ⟨n :: (ns ++ [0]), ?_, by
      have : (0 : Int) < ns.length + 1 + 1 := by omega
      simp [atP, ixN, this]⟩⟩
    have : ns.length + 1 + 1 ≤ sizeLine := by
      simp only [List.length_cons] at hl
      unfold sizeLine; omega
    simp [addF, this]
/-! ### _law_like of a thing and itself -/
def cLike (li ls : Nat) : Dfn := ⟨[.ro, .ro], 5, [.set 2 (.call ls [(.var 1)]), .ite (.or (.cmp .ne (.call ls [(.var 0)]) (.var 2)) (.cmp .eq (.var 2) (.con (.int 6)))) [.ret (.con (.bl false))] [], .ite (.cmp .inn (.var 2) (.tup [(.con (.int 4)), (.con (.int 5))])) [.ret (.and (.cmp .eq (.bi .len [(.var 0)]) (.bi .len [(.var 1)])) (.cmp .eq (.lc (.many [3, 4]) (.zip (.var 0) (.var 1)) [(.not (.call li [(.var 3), (.var 4)]))] (.con (.int 1))) (.lst [])))] [], .ret (.cmp .eq (.var 0) (.var 1))]⟩
/-- plain data, so deep at most -/
inductive Plain : Nat → PV → Prop
  | non {n : Nat} : Plain n .non
  | bl {n : Nat} (b : Bool) : Plain n (.bl b)
  | int {n : Nat} (i : Int) : Plain n (.int i)
  | str {n : Nat} (s : Str) : okP (.str s) = true → Plain n (.str s)
  | tup {n : Nat} {xs : List PV} : (∀ x ∈ xs, Plain n x) → Plain (n + 1) (.tup xs)
  | lst {n : Nat} {xs : List PV} : (∀ x ∈ xs, Plain n x) → Plain (n + 1) (.lst xs)
theorem Plain.pln {n : Nat} {p : PV} (h : Plain n p) : Pln p = true := by cases h <;> rfl
theorem Plain.mono {n m : Nat} {p : PV} (h : Plain n p) (hm : n ≤ m) : Plain m p := by
  induction h generalizing m with
  | non => exact .non
  | bl b => exact .bl b
  | int i => exact .int i
  | str s e => exact .str s e
  | tup _ ih =>
    cases m with
    | zero => omega
    | succ m => exact .tup fun x hx => ih x hx (by omega)
  | lst _ ih =>
    cases m with
    | zero => omega
    | succ m => exact .lst fun x hx => ih x hx (by omega)
theorem lcGo_nil {turn : PV → En → Option (Option PV × En)} {env : En} : ∀ {l : List PV}, (∀ z ∈ l, turn z env = some (none, env)) → lcGo turn l env = some ([], env)
  | [], _ => rfl
  | z :: l, h => by
    simp only [lcGo, h z (List.mem_cons_self ..)]
    exact lcGo_nil fun y hy => h y (List.mem_cons_of_mem _ hy)
theorem mem_zipP {xs : List PV} {z : PV} (h : z ∈ zipP xs xs) : ∃ x ∈ xs, z = .tup [x, x] := by
  obtain ⟨i, hi⟩ := List.mem_iff_getElem?.mp h
  obtain ⟨x, y, h1, h2, rfl⟩ := zipP_get hi
  rw [h1] at h2; cases h2
  exact ⟨x, List.mem_of_getElem? h1, rfl⟩
theorem eqv_str (s : Str) : eqP (.str s) (.str s) = true := by
  show (s == s) = true
  exact beq_self_eq_true s
theorem okP_int (i : Int) : okP (.int i) = true := rfl
theorem okP_bl (i : Bool) : okP (.bl i) = true := by cases i <;> rfl
theorem okP_nil : okP (.lst []) = true := rfl
theorem eqP_int (i j : Int) : eqP (.int i) (.int j) = (i == j) := rfl
theorem eqP_bl (i j : Bool) : eqP (.bl i) (.bl j) = (i == j) := rfl
theorem eqP_nil : eqP (.lst []) (.lst []) = true := rfl
theorem eqF_int (n : Bool) (i j : Int) : eqF n (.int i) (.int j) = some (n != (i == j)) := rfl
theorem inF45 : inF (.int 4) (.tup [.int 4, .int 5]) = some true := rfl
theorem inF55 : inF (.int 5) (.tup [.int 4, .int 5]) = some true := rfl
theorem inF_no {k : Int} (h : k = 0 ∨ k = 1 ∨ k = 2 ∨ k = 3) : inF (.int k) (.tup [.int 4, .int 5]) = some false ∧ k ≠ 6 := by
  rcases h with rfl | rfl | rfl | rfl <;> exact ⟨rfl, by decide⟩
theorem inF_yes {k : Int} (h : k = 4 ∨ k = 5) : inF (.int k) (.tup [.int 4, .int 5]) = some true ∧ k ≠ 6 := by
  rcases h with rfl | rfl <;> exact ⟨rfl, by decide⟩
theorem like_leaf {D : Nat → Dfn} {li ls : Nat} (hs : D ls = cSort) (h : D li = cLike li ls) (d : Nat) {p : PV} (hp : Pln p = true) (hk : sortN p = 0 ∨ sortN p = 1 ∨ sortN p = 2 ∨ sortN p = 3) (he : eqF false p p = some true) : run W D (d + 2) li [p, p] = some ((.bl true, false), []) := by
  have sr := sort_run (W := W) hs d hp
  have hm : (D ls).modes = [.ro] := by rw [hs]; rfl
  obtain ⟨h1, h2⟩ := inF_no hk
  have h6 : (sortN p == 6) = false := by simpa using h2
  have hz : 2 ≤ sizeLine := by decide
  rw [run_succ, h]
  simp [cLike, exs, ex, ev, evs, starts, kdOf, deref, derefs, pass, hm, sr, back, move, store, kd, cmpF, eqF_int, mutsOf, outs, h1, h6, consumes, consume, hz, he]
theorem like_seq {D : Nat → Dfn} {li ls : Nat} (hs : D ls = cSort) (h : D li = cLike li ls) (d : Nat) {p : PV} {xs : List PV} (hp : p = .tup xs ∨ p = .lst xs) (ih : ∀ x ∈ xs, run W D (d + 1) li [x, x] = some ((.bl true, false), [])) : run W D (d + 2) li [p, p] = some ((.bl true, false), []) := by
  have pl : Pln p = true := by rcases hp with rfl | rfl <;> rfl
  have sr := sort_run (W := W) hs d pl
  have hm : (D ls).modes = [.ro] := by rw [hs]; rfl
  have hk : sortN p = 4 ∨ sortN p = 5 := by rcases hp with rfl | rfl <;> simp [sortN]
  obtain ⟨h1, h2⟩ := inF_yes hk
  have hml : (D li).modes = [.ro, .ro] := by rw [h]; rfl
  have hlen : lenF [p] = some (.int xs.length, false) := by rcases hp with rfl | rfl <;> rfl
  have h6 : (sortN p == 6) = false := by simpa using h2
  have hz : 2 ≤ sizeLine := by decide
  have en : eqF false (.lst []) (.lst []) = some true := rfl
  have fm : (zipP xs xs).filterMap (fun _ => (none : Option PV)) = [] := by
    induction zipP xs xs with
    | nil => rfl
    | cons _ _ ih => simpa using ih
  have lc : ev (fun f => (D f).modes) (run W D (d + 1)) (.lc (.many [3, 4]) (.zip (.var 0) (.var 1)) [(.not (.call li [(.var 3), (.var 4)]))] (.con (.int 1))) [some ⟨p, .ro⟩, some ⟨p, .ro⟩, some ⟨.int (sortN p), .fz⟩, none, none] = some (.vl (.lst []) true, [some ⟨p, .ro⟩, some ⟨p, .ro⟩, some ⟨.int (sortN p), .fz⟩, none, none]) := by
    have e0 : ev (fun f => (D f).modes) (run W D (d + 1)) (.zip (.var 0) (.var 1)) [some ⟨p, .ro⟩, some ⟨p, .ro⟩, some ⟨.int (sortN p), .fz⟩, none, none] = some (.wk (zipP xs xs) [0, 1], [some ⟨p, .ro⟩, some ⟨p, .ro⟩, some ⟨.int (sortN p), .fz⟩, none, none]) := by
      rcases hp with rfl | rfl <;> simp [ev_zip, ev_var, deref, Opd.slot]
    have := ev_lc_map (tg := .many [3, 4]) (elt := .con (.int 1)) (ifs := [(.not (.call li [(.var 3), (.var 4)]))]) (fun _ => (none : Option PV)) e0 rfl (fun z hz => by
      obtain ⟨x, hx, rfl⟩ := mem_zipP hz
      simp [turn1F, bindTg, stores, store, kd, evIfs, ev_not, ev_call, ev_var, evs, hml, pass, deref, ih x hx, back, wipeE, lock, lock1, Tg.slots]) (by rw [fm]; exact Nat.zero_le _)
    rw [fm] at this
    rw [this]
    simp [wipeE, lock, lock1, Tg.slots, restore, unlock, lkOf, isOwn]
  rw [run_succ, h]
  simp [cLike, exs, ex, ev_con, ev_glo, ev_var, ev_bin, ev_un, ev_cmp, ev_cmp2, ev_and, ev_or, ev_not, ev_ite, ev_tup, ev_lst, ev_dnk, ev_idx, ev_slc, ev_rev, ev_isi, ev_call, ev_bi, ev_met, ev_mm, ev_zip, ev_enum, ev_rngI, evs, starts, kdOf, deref, derefs, pass, hm, sr, back, move, store, kd, cmpF, eqF_int, mutsOf, outs, h1, h6, consumes, consume, hz, biF, hlen, lc, en]
theorem like_run {D : Nat → Dfn} {li ls : Nat} (hs : D ls = cSort) (h : D li = cLike li ls) : ∀ (n : Nat) {p : PV}, Plain n p → ∀ d : Nat, run W D (d + n + 2) li [p, p] = some ((.bl true, false), []) := by
  have leaf : ∀ {n : Nat} {p : PV}, Plain n p → (∀ xs, p ≠ .tup xs) → (∀ xs, p ≠ .lst xs) → ∀ d : Nat, run W D (d + 2) li [p, p] = some ((.bl true, false), []) := fun {n p} hp h1 h2 d => by
    refine like_leaf hs h d hp.pln ?_ ?_
    · cases hp with
      | tup _ => exact (h1 _ rfl).elim
      | lst _ => exact (h2 _ rfl).elim
      | _ => simp [sortN]
    · cases hp with
      | tup _ => exact (h1 _ rfl).elim
      | lst _ => exact (h2 _ rfl).elim
      | non => rfl
      | bl b => cases b <;> rfl
      | int i => simp [eqF, okP_int, eqP_int]
      | str s e => simp [eqF, e, eqv_str]
  intro n
  induction n with
  | zero => exact fun hp d => leaf hp (fun xs z => by subst z; cases hp) (fun xs z => by subst z; cases hp) (d + 0)
  | succ n ih =>
    intro p hp d
    cases hp with
    | tup hx => exact like_seq hs h (d + n + 1) (.inl rfl) fun x hx' => (ih (hx x hx') d : _)
    | lst hx => exact like_seq hs h (d + n + 1) (.inr rfl) fun x hx' => (ih (hx x hx') d : _)
    | non => exact leaf (n := 0) .non (fun _ z => by cases z) (fun _ z => by cases z) (d + n + 1)
    | bl b => exact leaf (n := 0) (.bl b) (fun _ z => by cases z) (fun _ z => by cases z) (d + n + 1)
    | int i => exact leaf (n := 0) (.int i) (fun _ z => by cases z) (fun _ z => by cases z) (d + n + 1)
    | str s e => exact leaf (n := 0) (.str s e) (fun _ z => by cases z) (fun _ z => by cases z) (d + n + 1)
end
end L2.Pz
set_option Elab.async false
set_option linter.all false
set_option maxRecDepth 100000
set_option maxHeartbeats 4000000
namespace L2.Pz
set_option autoImplicit false
open PySem hiding run
open L2

/-! ## Pz26: loops over states; plain facts of values -/
/-- a for whose turns go from state to state -/
theorem forGo_rel {α : Type} {turn : PV → En → Option Fl} {R : α → En → Prop} {step : α → PV → α} : ∀ {l : List PV} {a : α} {env : En}, R a env → (∀ z ∈ l, ∀ a env, R a env → ∃ env', turn z env = some (.nx env') ∧ R (step a z) env') → ∃ env', forGo turn l env = some (.nx env') ∧ R (l.foldl step a) env'
  | [], a, env, h, _ => ⟨env, rfl, h⟩
  | z :: l, a, env, h, ht => by
    obtain ⟨env1, h1, h2⟩ := ht z (List.mem_cons_self ..) a env h
    obtain ⟨env2, h3, h4⟩ := forGo_rel (l := l) h2 fun y hy => ht y (List.mem_cons_of_mem _ hy)
    exact ⟨env2, by simp only [forGo, h1, h3], h4⟩
/-- the same with an invariant of the state -/
theorem forGo_inv {turn : PV → En → Option Fl} {R : List PV → En → Prop} : ∀ {l done : List PV} {env : En}, R done env → (∀ (z : PV) (d r : List PV) (env : En), done ++ l = d ++ z :: r → R d env → ∃ env', turn z env = some (.nx env') ∧ R (d ++ [z]) env') → ∃ env', forGo turn l env = some (.nx env') ∧ R (done ++ l) env'
  | [], done, env, h, _ => ⟨env, rfl, by rw [List.append_nil]; exact h⟩
  | z :: l, done, env, h, ht => by
    obtain ⟨env1, h1, h2⟩ := ht z done l env rfl h
    obtain ⟨env2, h3, h4⟩ := forGo_inv (l := l) (done := done ++ [z]) h2 fun y d r env e => ht y d r env (by rw [← e, List.append_assoc]; rfl)
    exact ⟨env2, by simp only [forGo, h1, h3], by rw [List.append_assoc] at h4; exact h4⟩
/-- a while that goes from state to state until it stops -/
theorem lim_rel {α : Type} {f : En → Option (Sum En Fl)} {R : α → En → Prop} {c : α → Bool} {g : α → α} (ht : ∀ a env, R a env → if c a = true then ∃ env', f env = some (.inl env') ∧ R (g a) env' else ∃ env', f env = some (.inr (.nx env')) ∧ R a env') : ∀ (n : Nat) {a : α} {env : En}, R a env → (∃ k, k ≤ n ∧ c (Nat.repeat g k a) = false) →
    ∃ k env', lim f env = some (.nx env') ∧ R (Nat.repeat g k a) env' ∧ c (Nat.repeat g k a) = false ∧ ∀ j < k, c (Nat.repeat g j a) = true := by
  have shift : ∀ (k : Nat) (a : α), Nat.repeat g k (g a) = Nat.repeat g (k + 1) a := fun k a => by
    induction k with
    | zero => rfl
    | succ k ih => show g (Nat.repeat g k (g a)) = g (Nat.repeat g (k + 1) a); rw [ih]
  intro n
  induction n with
  | zero =>
    intro a env h ⟨k, hk, hc⟩
    have : k = 0 := by omega
    subst this
    have h1 := ht a env h
    rw [if_neg (by rw [show c a = false from hc]; decide)] at h1
    obtain ⟨env', h1, h2⟩ := h1
    exact ⟨0, env', lim_stop h1, h2, hc, fun j hj => by omega⟩
  | succ n ih =>
    intro a env h ⟨k, hk, hc⟩
    have h1 := ht a env h
    cases q : c a with
    | false =>
      rw [if_neg (by rw [q]; decide)] at h1
      obtain ⟨env', h1, h2⟩ := h1
      exact ⟨0, env', lim_stop h1, h2, q, fun j hj => by omega⟩
    | true =>
      rw [if_pos q] at h1
      obtain ⟨env1, h1, h2⟩ := h1
      cases k with
      | zero => rw [show c a = false from hc] at q; cases q
      | succ k =>
        obtain ⟨k', env', h3, h4, h5, h6⟩ := ih h2 ⟨k, by omega, by rw [shift]; exact hc⟩
        rw [shift] at h4 h5
        refine ⟨k' + 1, env', by rw [lim_step h1]; exact h3, h4, h5, fun j hj => ?_⟩
        cases j with
        | zero => exact q
        | succ j => rw [← shift]; exact h6 j (by omega)
def leafB : PV → Bool
  | .non | .bl _ | .int _ => true
  | _ => false
theorem leafs_lay : ∀ {xs : List PV}, xs.all leafB = true → PyData.canLayAll0 (toDs xs) = true ∧ PyData.depthAll (toDs xs) = 0
  | [], _ => ⟨rfl, rfl⟩
  | x :: xs, h => by
    rw [List.all_cons, Bool.and_eq_true] at h
    obtain ⟨h1, h2⟩ := leafs_lay h.2
    have hx : x.toD.canLay0 = true ∧ x.toD.depth = 0 := by
      cases x <;> first | (cases h.1; done) | exact ⟨rfl, rfl⟩
    refine ⟨?_, ?_⟩
    · show (x.toD.canLay0 && PyData.canLayAll0 (toDs xs)) = true
      rw [hx.1, h1]; rfl
    · show max x.toD.depth (PyData.depthAll (toDs xs)) = 0
      rw [hx.2, h2]; rfl
theorem okP_lst {xs : List PV} (h : xs.all leafB = true) : okP (.lst xs) = true := by
  obtain ⟨h1, h2⟩ := leafs_lay h
  show (PyData.canLayAll0 (toDs xs) && decide (PyData.depthAll (toDs xs) + 1 ≤ 64)) = true
  rw [h1, h2]; rfl
theorem okP_tup {xs : List PV} (h : xs.all leafB = true) : okP (.tup xs) = true := by
  obtain ⟨h1, h2⟩ := leafs_lay h
  show (PyData.canLayAll0 (toDs xs) && decide (PyData.depthAll (toDs xs) + 1 ≤ 64)) = true
  rw [h1, h2]; rfl
theorem eqP_lnil (xs : List PV) : eqP (.lst xs) (.lst []) = xs.isEmpty := by
  cases xs <;> rfl
theorem eqF_lnil {n : Bool} {xs : List PV} (h : xs.all leafB = true) : eqF n (.lst xs) (.lst []) = some (n != xs.isEmpty) := by
  unfold eqF
  rw [if_pos ⟨okP_lst h, rfl⟩, eqP_lnil]
theorem all_ints (ns : List Int) : (ns.map PV.int).all leafB = true := by
  induction ns with
  | nil => rfl
  | cons _ _ ih => simpa [leafB] using ih
theorem atP_nat {xs : List PV} {i : Nat} {x : PV} (h : xs[i]? = some x) : atP xs (i : Int) = some x := by
  have hl := lt_of_some h
  unfold atP ixN
  rw [if_pos (by omega), if_pos (by omega)]
  simpa using h
theorem ixN_nat {n i : Nat} (h : i < n) : ixN n (i : Int) = some i := by
  unfold ixN
  rw [if_pos (by omega), if_pos (by omega)]
  simp
end L2.Pz
set_option Elab.async false
set_option linter.all false
set_option maxRecDepth 100000
set_option maxHeartbeats 4000000
namespace L2.Pz
set_option autoImplicit false
open PySem hiding run
open L2

/-! ## Pz27: what an expression comes to, the slots as they were -/
section
variable {M : Nat → List Md} {C : Cl} {W : Lp} {pm : List Nat} {env : En}
/-- e comes to p -/
def Pv (M : Nat → List Md) (C : Cl) (e : E) (env : En) (p : PV) : Prop := ∃ x, ev M C e env = some (x, env) ∧ deref env x = some p
/-- e comes to p, which may be kept elsewhere -/
def Pc (M : Nat → List Md) (C : Cl) (e : E) (env : En) (p : PV) : Prop := ∃ x, ev M C e env = some (x, env) ∧ consume env x = some (p, env)
theorem consume_deref {x : Opd} {p : PV} {env1 : En} (h : consume env x = some (p, env1)) : deref env x = some p := by
  cases x with
  | vl q f => simp only [consume, Option.some.injEq, Prod.mk.injEq] at h; simp only [deref, h.1]
  | sl i =>
    simp only [consume] at h
    simp only [deref]
    cases q : env[i]? with
    | none => rw [q] at h; cases h
    | some s =>
      cases s with
      | none => rw [q] at h; cases h
      | some s =>
        obtain ⟨v, k⟩ := s
        rw [q] at h
        cases k with
        | fz => simp only [Option.some.injEq, Prod.mk.injEq] at h; simp [h.1]
        | own => simp only [Option.some.injEq, Prod.mk.injEq] at h; simp [h.1]
        | ro =>
          simp only at h
          split at h
          · simp only [Option.some.injEq, Prod.mk.injEq] at h; simp [h.1]
          · cases h
        | lk => cases h
  | wk xs l => cases h
theorem Pc.pv {e : E} {p : PV} (h : Pc M C e env p) : Pv M C e env p := let ⟨x, h1, h2⟩ := h; ⟨x, h1, consume_deref h2⟩
theorem Pc.of {e : E} {p : PV} {f : Bool} (h : ev M C e env = some (.vl p f, env)) : Pc M C e env p := ⟨_, h, rfl⟩
theorem Pv.of {e : E} {p : PV} {f : Bool} (h : ev M C e env = some (.vl p f, env)) : Pv M C e env p := ⟨_, h, rfl⟩
theorem pc_con (c : PV) : Pc M C (.con c) env c := ⟨_, ev_con .., rfl⟩
theorem pv_con (c : PV) : Pv M C (.con c) env c := ⟨_, ev_con .., rfl⟩
theorem pv_glo (x : Str) (c : PV) : Pv M C (.glo x c) env c := ⟨_, ev_glo .., rfl⟩
theorem ev_var_of {i : Nat} {s : Slot} (h : env[i]? = some (some s)) : ev M C (.var i) env = some (.sl i, env) := by rw [ev_var, h]
theorem pv_var {i : Nat} {s : Slot} (h : env[i]? = some (some s)) : Pv M C (.var i) env s.v := ⟨_, ev_var_of h, by simp only [deref, h]⟩
theorem pv_at {i : Nat} {p : PV} {k : Kd} (h : env[i]? = some (some ⟨p, k⟩)) : Pv M C (.var i) env p := pv_var h
theorem pc_fz {i : Nat} {p : PV} (h : env[i]? = some (some ⟨p, .fz⟩)) : Pc M C (.var i) env p := ⟨_, ev_var_of h, by simp only [consume, h]⟩
theorem pc_ro {i : Nat} {p : PV} (h : env[i]? = some (some ⟨p, .ro⟩)) (hp : p.imm = true) : Pc M C (.var i) env p := ⟨_, ev_var_of h, by simp only [consume, h, hp, if_true]⟩
theorem vl_bin {o : Bop} {a b : E} {p q r : PV} {f : Bool} (h1 : Pv M C a env p) (h2 : Pv M C b env q) (h3 : binF o p q = some (r, f)) : ev M C (.bin o a b) env = some (.vl r f, env) := by
  obtain ⟨x, e1, d1⟩ := h1
  obtain ⟨y, e2, d2⟩ := h2
  rw [ev_bin, e1]
  simp only [e2, d1, d2, h3]
theorem vl_cmp {o : Cop} {a b : E} {p q : PV} {r : Bool} (h1 : Pv M C a env p) (h2 : Pv M C b env q) (h3 : cmpF o p q = some r) : ev M C (.cmp o a b) env = some (.vl (.bl r) false, env) := by
  obtain ⟨x, e1, d1⟩ := h1
  obtain ⟨y, e2, d2⟩ := h2
  rw [ev_cmp, e1]
  simp only [e2, d1, d2, h3]
theorem vl_cmp2 {o o' : Cop} {a b c : E} {p q r : PV} {k : Bool} (h1 : Pv M C a env p) (h2 : Pv M C b env q) (h3 : Pv M C c env r) (h4 : ∃ k1 k2, cmpF o p q = some k1 ∧ cmpF o' q r = some k2 ∧ k = (k1 && k2)) : ev M C (.cmp2 o o' a b c) env = some (.vl (.bl k) false, env) := by
  obtain ⟨x, e1, d1⟩ := h1
  obtain ⟨y, e2, d2⟩ := h2
  obtain ⟨z, e3, d3⟩ := h3
  obtain ⟨k1, k2, c1, c2, rfl⟩ := h4
  rw [ev_cmp2, e1]
  simp only [e2, d1, d2, c1]
  cases k1
  · rfl
  · simp only [e3, d3, c2, d2, Bool.true_and]
theorem vl_and {a b : E} {p : PV} {k : Bool} {f : Bool} (h1 : Pv M C a env (.bl k)) (h2 : k = true → ev M C b env = some (.vl p f, env)) (h3 : k = false → p = .bl false ∧ f = false) : ev M C (.and a b) env = some (.vl p f, env) := by
  obtain ⟨x, e1, d1⟩ := h1
  rw [ev_and, e1]
  simp only [d1]
  cases k with
  | true => exact h2 rfl
  | false => obtain ⟨rfl, rfl⟩ := h3 rfl; rfl
theorem vl_andb {a b : E} {k k' : Bool} (h1 : Pv M C a env (.bl k)) (h2 : k = true → ev M C b env = some (.vl (.bl k') false, env)) : ev M C (.and a b) env = some (.vl (.bl (k && k')) false, env) :=
  vl_and h1 (fun h => by rw [h, h2 h]; rfl) (fun h => by rw [h]; exact ⟨rfl, rfl⟩)
theorem vl_orb {a b : E} {k k' : Bool} (h1 : Pv M C a env (.bl k)) (h2 : k = false → ev M C b env = some (.vl (.bl k') false, env)) : ev M C (.or a b) env = some (.vl (.bl (k || k')) false, env) := by
  obtain ⟨x, e1, d1⟩ := h1
  rw [ev_or, e1]
  simp only [d1]
  cases k with
  | true => rfl
  | false => rw [h2 rfl]; rfl
theorem vl_not {a : E} {k : Bool} (h1 : Pv M C a env (.bl k)) : ev M C (.not a) env = some (.vl (.bl (!k)) false, env) := by
  obtain ⟨x, e1, d1⟩ := h1
  rw [ev_not, e1]
  simp only [d1]
theorem pv_ite {c a b : E} {k : Bool} {p : PV} (h1 : Pv M C c env (.bl k)) (h2 : k = true → Pv M C a env p) (h3 : k = false → Pv M C b env p) : Pv M C (.ite c a b) env p := by
  obtain ⟨x, e1, d1⟩ := h1
  cases k with
  | true => obtain ⟨y, e2, d2⟩ := h2 rfl; exact ⟨y, by rw [ev_ite, e1]; simp only [d1, e2], d2⟩
  | false => obtain ⟨y, e2, d2⟩ := h3 rfl; exact ⟨y, by rw [ev_ite, e1]; simp only [d1, e2], d2⟩
theorem pc_ite {c a b : E} {k : Bool} {p : PV} (h1 : Pv M C c env (.bl k)) (h2 : k = true → Pc M C a env p) (h3 : k = false → Pc M C b env p) : Pc M C (.ite c a b) env p := by
  obtain ⟨x, e1, d1⟩ := h1
  cases k with
  | true => obtain ⟨y, e2, d2⟩ := h2 rfl; exact ⟨y, by rw [ev_ite, e1]; simp only [d1, e2], d2⟩
  | false => obtain ⟨y, e2, d2⟩ := h3 rfl; exact ⟨y, by rw [ev_ite, e1]; simp only [d1, e2], d2⟩
theorem vl_ite {c a b : E} {k : Bool} {p : PV} {f : Bool} (h1 : Pv M C c env (.bl k)) (h2 : k = true → ev M C a env = some (.vl p f, env)) (h3 : k = false → ev M C b env = some (.vl p f, env)) : ev M C (.ite c a b) env = some (.vl p f, env) := by
  obtain ⟨x, e1, d1⟩ := h1
  rw [ev_ite, e1]
  simp only [d1]
  cases k with
  | true => exact h2 rfl
  | false => exact h3 rfl
theorem vl_idx {a i : E} {p q r : PV} (h1 : Pv M C a env p) (h2 : Pv M C i env q) (h3 : idxF p q = some r) : ev M C (.idx a i) env = some (.vl r false, env) := by
  obtain ⟨x, e1, d1⟩ := h1
  obtain ⟨y, e2, d2⟩ := h2
  rw [ev_idx, e1]
  simp only [e2, d1, d2, h3]
theorem vl_isi {t : Ty} {a : E} {p r : PV} {f : Bool} (h1 : Pv M C a env p) (h3 : isiF t p = some (r, f)) : ev M C (.isi t a) env = some (.vl r f, env) := by
  obtain ⟨x, e1, d1⟩ := h1
  rw [ev_isi, e1]
  simp only [d1, h3]
/-- several -/
def Pvs (M : Nat → List Md) (C : Cl) (es : List E) (env : En) (ps : List PV) : Prop := ∃ os, evs M C es env = some (os, env) ∧ derefs env os = some ps
def Pcs (M : Nat → List Md) (C : Cl) (es : List E) (env : En) (ps : List PV) : Prop := ∃ os, evs M C es env = some (os, env) ∧ consumes env os = some (ps, env)
theorem evs_nil : evs M C [] env = some ([], env) := by first | rfl | (simp only [evs]; done)
theorem evs_cons {e : E} {es : List E} {env1 env2 : En} {x : Opd} {xs : List Opd} (h : ev M C e env = some (x, env1)) (h2 : evs M C es env1 = some (xs, env2)) : evs M C (e :: es) env = some (x :: xs, env2) := by
  rw [evs, h]
  simp only [h2]
theorem pvs_nil : Pvs M C [] env [] := ⟨[], evs_nil, rfl⟩
theorem pcs_nil : Pcs M C [] env [] := ⟨[], evs_nil, rfl⟩
theorem pvs_cons {e : E} {es : List E} {p : PV} {ps : List PV} (h1 : Pv M C e env p) (h2 : Pvs M C es env ps) : Pvs M C (e :: es) env (p :: ps) := by
  obtain ⟨x, e1, d1⟩ := h1
  obtain ⟨os, e2, d2⟩ := h2
  exact ⟨x :: os, evs_cons e1 e2, by simp only [derefs, d1, d2]⟩
theorem pcs_cons {e : E} {es : List E} {p : PV} {ps : List PV} (h1 : Pc M C e env p) (h2 : Pcs M C es env ps) : Pcs M C (e :: es) env (p :: ps) := by
  obtain ⟨x, e1, d1⟩ := h1
  obtain ⟨os, e2, d2⟩ := h2
  exact ⟨x :: os, evs_cons e1 e2, by simp only [consumes, d1, d2]⟩
theorem vl_tup {es : List E} {ps : List PV} (h1 : Pcs M C es env ps) (hz : ps.length ≤ sizeLine) : ev M C (.tup es) env = some (.vl (.tup ps) false, env) := by
  obtain ⟨os, e1, d1⟩ := h1
  rw [ev_tup, e1]
  simp only [d1, hz, if_true]
theorem vl_lst {es : List E} {ps : List PV} (h1 : Pcs M C es env ps) (hz : ps.length ≤ sizeLine) : ev M C (.lst es) env = some (.vl (.lst ps) true, env) := by
  obtain ⟨os, e1, d1⟩ := h1
  rw [ev_lst, e1]
  simp only [d1, hz, if_true]
theorem vl_bi {b : Bi} {es : List E} {ps : List PV} {r : PV} {f : Bool} (h1 : Pvs M C es env ps) (h2 : biF b ps = some (r, f)) : ev M C (.bi b es) env = some (.vl r f, env) := by
  obtain ⟨os, e1, d1⟩ := h1
  rw [ev_bi, e1]
  simp only [d1, h2]
theorem vl_bi1 {b : Bi} {e : E} {p r : PV} {f : Bool} (h1 : Pv M C e env p) (h2 : biF b [p] = some (r, f)) : ev M C (.bi b [e]) env = some (.vl r f, env) := vl_bi (pvs_cons h1 pvs_nil) h2
theorem pass_ro : ∀ {ms : List Md} {os : List Opd} {ps : List PV}, derefs env os = some ps → ms = List.replicate ps.length Md.ro → pass ms os env = some (ps, [], env)
  | ms, [], ps, h, hm => by cases h; subst hm; rfl
  | ms, o :: os, ps, h, hm => by
    simp only [derefs] at h
    cases q : deref env o with
    | none => rw [q] at h; cases h
    | some p =>
      cases q2 : derefs env os with
      | none => rw [q, q2] at h; cases h
      | some ps' =>
        rw [q, q2] at h
        cases h
        subst hm
        have ih := pass_ro (ms := List.replicate ps'.length Md.ro) q2 rfl
        show pass (Md.ro :: List.replicate ps'.length Md.ro) (o :: os) env = _
        simp only [pass, q, ih]
        rfl
theorem vl_call {f : Nat} {es : List E} {ps : List PV} {r : PV} {k : Bool} (h1 : Pvs M C es env ps) (hm : M f = List.replicate ps.length Md.ro) (hc : C f ps = some ((r, k), [])) : ev M C (.call f es) env = some (.vl r k, env) := by
  obtain ⟨os, e1, d1⟩ := h1
  rw [ev_call, e1]
  simp only [pass_ro d1 hm, hc, back]
theorem vl_callv {f : Nat} {e : E} {p : PV} {r : PV} {k : Bool} (h1 : Pc M C e env p) (hm : M f = [.val]) (hc : C f [p] = some ((r, k), [])) : ev M C (.call f [e]) env = some (.vl r k, env) := by
  obtain ⟨x, e1, d1⟩ := h1
  rw [ev_call, evs_cons e1 evs_nil]
  simp only [hm, pass, d1, hc, back]
/-- a call with a cup -/
theorem vl_roll {f i : Nat} {e : E} {c c' p r : PV} {g k : Bool} (h0 : env[i]? = some (some ⟨c, .own⟩)) (h1 : ev M C e env = some (.vl p g, env)) (hm : M f = [.mu, .ro]) (hc : C f [c, p] = some ((r, k), [c'])) : ev M C (.call f [(.var i), e]) env = some (.vl r k, env.set i (some ⟨c', .own⟩)) := by
  rw [ev_call, evs_cons (ev_var_of h0) (evs_cons h1 evs_nil)]
  simp only [hm, pass, h0, deref, List.any_cons, List.any_nil, Opd.is, Bool.or_false, Bool.or_self, if_false, Bool.false_eq_true, hc, back]
/-- what is walked -/
def Pw (M : Nat → List Md) (C : Cl) (e : E) (env : En) (xs : List PV) (l : List Nat) : Prop := ∃ x, ev M C e env = some (x, env) ∧ walkO env x = some (xs, l)
theorem pw_rng1 {e : E} {j : Int} (h : Pv M C e env (.int j)) (hb : inB j = true) : Pw M C (.rngI [e]) env ((rngL 0 j).map .int) [] := by
  obtain ⟨x, e1, d1⟩ := h
  refine ⟨.wk _ _, ?_, rfl⟩
  rw [ev_rngI, evs_cons e1 evs_nil]
  simp only [derefs, d1, Option.bind_some, asInts, Option.map_some, rngIF, hb, if_true]
theorem pw_rng2 {e e' : E} {i j : Int} (h : Pv M C e env (.int i)) (h' : Pv M C e' env (.int j)) (hb : inB i = true) (hb' : inB j = true) : Pw M C (.rngI [e, e']) env ((rngL i j).map .int) [] := by
  obtain ⟨x, e1, d1⟩ := h
  obtain ⟨y, e2, d2⟩ := h'
  refine ⟨.wk _ _, ?_, rfl⟩
  rw [ev_rngI, evs_cons e1 (evs_cons e2 evs_nil)]
  simp only [derefs, d1, d2, Option.bind_some, asInts, Option.map_some, rngIF, hb, hb', and_self, if_true]
theorem pw_var {i : Nat} {s : Slot} {xs : List PV} (h : env[i]? = some (some s)) (hw : walkF s.v = some xs) : Pw M C (.var i) env xs [i] := ⟨.sl i, ev_var_of h, by simp only [walkO, deref, h, hw]; rfl⟩
theorem pw_vl {e : E} {p : PV} {f : Bool} {xs : List PV} (h : ev M C e env = some (.vl p f, env)) (hw : walkF p = some xs) : Pw M C e env xs [] := ⟨_, h, by simp only [walkO, deref, hw]; rfl⟩
theorem ex_for_pw {tg : Tg} {it : E} {b : List S} {env2 : En} {xs : List PV} {l : List Nat} (h1 : Pw M C it env xs l) (h3 : forGo (forT M C W pm tg b) xs (lock env l) = some (.nx env2)) : ex M C W pm (.for_ tg it b) env = some (.nx (unlock env2 (lkOf env l))) := by
  obtain ⟨x, e1, w1⟩ := h1
  exact ex_for_nx e1 w1 h3
/-- a comprehension over what has a slot free, the rest of the slots as they were -/
theorem vl_lc {v : Nat} {it elt : E} {ifs : List E} {xs : List PV} {l : List Nat} (f : PV → Option PV) (h1 : Pw M C it env xs l) (hl : ∀ i ∈ l, isOwn env i = false)
    (ht : ∀ z ∈ xs, turn1F M C [v] (.one v) ifs elt z (env.set v none) = some (f z, env.set v none)) (hv : v < env.length) (hz : (xs.filterMap f).length ≤ sizeLine) :
    ev M C (.lc (.one v) it ifs elt) env = some (.vl (.lst (xs.filterMap f)) true, env) := by
  obtain ⟨x, e1, w1⟩ := h1
  have lk : ∀ l : List Nat, (∀ i ∈ l, isOwn env i = false) → lock env l = env := fun l => by
    induction l with
    | nil => intro _; rfl
    | cons i l ih =>
      intro h
      show lock1 (lock env l) i = env
      rw [ih fun j hj => h j (List.mem_cons_of_mem _ hj)]
      have := h i (List.mem_cons_self ..)
      unfold isOwn at this
      unfold lock1
      split
      · rename_i e; rw [e] at this; cases this
      · rfl
  have lo : lkOf env l = [] := by
    unfold lkOf
    rw [List.filter_eq_nil_iff]
    intro i hi
    rw [hl i hi]; decide
  have := ev_lc_map (tg := .one v) f e1 w1 (by rw [lk l hl]; exact ht) hz
  rw [this, lk l hl, lo]
  have r : restore env (wipeE env (Tg.one v).slots) (Tg.one v).slots = env := by
    show ((env.set v none).set v (match env[v]? with | some s => s | none => none)) = env
    rw [List.set_set, List.getElem?_eq_getElem hv]
    simp
  rw [r]
  rfl
/-- a comprehension's turn, the slot and its conditions -/
theorem turn_some {v : Nat} {elt : E} {ifs : List E} {z y : PV} (hv : v < env.length) (h1 : evIfs M C ifs (env.set v (some ⟨z, .fz⟩)) = some (true, env.set v (some ⟨z, .fz⟩))) (h2 : Pc M C elt (env.set v (some ⟨z, .fz⟩)) y) : turn1F M C [v] (.one v) ifs elt z (env.set v none) = some (some y, env.set v none) := by
  obtain ⟨x, e1, d1⟩ := h2
  have hb : bindTg [] (.one v) z (env.set v none) = some (env.set v (some ⟨z, .fz⟩)) := by
    show store [] v z false (env.set v none) = _
    unfold store
    rw [List.getElem?_set_self hv]
    show some ((env.set v none).set v (some ⟨z, .fz⟩)) = _
    rw [List.set_set]
  simp only [turn1F, hb, h1, e1, d1]
  show some (some y, (env.set v (some ⟨z, .fz⟩)).set v none) = _
  rw [List.set_set]
theorem turn_none {v : Nat} {elt : E} {ifs : List E} {z : PV} (hv : v < env.length) (h1 : evIfs M C ifs (env.set v (some ⟨z, .fz⟩)) = some (false, env.set v (some ⟨z, .fz⟩))) : turn1F M C [v] (.one v) ifs elt z (env.set v none) = some (none, env.set v none) := by
  have hb : bindTg [] (.one v) z (env.set v none) = some (env.set v (some ⟨z, .fz⟩)) := by
    show store [] v z false (env.set v none) = _
    unfold store
    rw [List.getElem?_set_self hv]
    show some ((env.set v none).set v (some ⟨z, .fz⟩)) = _
    rw [List.set_set]
  simp only [turn1F, hb, h1]
  show some ((none : Option PV), (env.set v (some ⟨z, .fz⟩)).set v none) = _
  rw [List.set_set]
theorem ifs_nil : evIfs M C [] env = some (true, env) := rfl
theorem ifs_one {e : E} {k : Bool} (h : Pv M C e env (.bl k)) : evIfs M C [e] env = some (k, env) := by
  obtain ⟨x, e1, d1⟩ := h
  cases k <;> simp only [evIfs, e1, d1]
/-- a comprehension: condition and item by value -/
theorem vl_lc1 {v : Nat} {it elt c : E} {xs : List PV} {l : List Nat} (k : PV → Bool) (g : PV → PV) (h1 : Pw M C it env xs l) (hl : ∀ i ∈ l, isOwn env i = false) (hv : v < env.length) (hz : xs.length ≤ sizeLine)
    (hk : ∀ z ∈ xs, Pv M C c (env.set v (some ⟨z, .fz⟩)) (.bl (k z))) (hg : ∀ z ∈ xs, k z = true → Pc M C elt (env.set v (some ⟨z, .fz⟩)) (g z)) : ev M C (.lc (.one v) it [c] elt) env = some (.vl (.lst ((xs.filter k).map g)) true, env) := by
  have e : (xs.filter k).map g = xs.filterMap fun z => if k z = true then some (g z) else none := by
    clear h1 hk hg hz
    induction xs with
    | nil => rfl
    | cons x xs ih => cases q : k x <;> simp [q, ih]
  rw [e]
  refine vl_lc (fun z => if k z = true then some (g z) else none) h1 hl (fun z hz => ?_) hv (Nat.le_trans (List.length_filterMap_le ..) hz)
  have h := ifs_one (hk z hz)
  cases q : k z with
  | true => rw [q] at h; rw [if_pos rfl]; exact turn_some hv h (hg z hz q)
  | false => rw [q] at h; rw [if_neg (by decide)]; exact turn_none hv h
theorem vl_lc0 {v : Nat} {it elt : E} {xs : List PV} {l : List Nat} (g : PV → PV) (h1 : Pw M C it env xs l) (hl : ∀ i ∈ l, isOwn env i = false) (hv : v < env.length) (hz : xs.length ≤ sizeLine)
    (hg : ∀ z ∈ xs, Pc M C elt (env.set v (some ⟨z, .fz⟩)) (g z)) : ev M C (.lc (.one v) it [] elt) env = some (.vl (.lst (xs.map g)) true, env) := by
  have e : xs.map g = xs.filterMap fun z => some (g z) := by rw [List.filterMap_eq_map']
  rw [e]
  exact vl_lc (fun z => some (g z)) h1 hl (fun z hz => turn_some hv ifs_nil (hg z hz)) hv (Nat.le_trans (List.length_filterMap_le ..) hz)
/-- statements -/
theorem set_vl {i : Nat} {e : E} {p : PV} {f : Bool} {env1 env2 : En} (h : ev M C e env = some (.vl p f, env1)) (hs : store pm i p f env1 = some env2) : ex M C W pm (.set i e) env = some (.nx env2) := by
  rw [ex_set, h]
  simp only [move, hs]
def NL (s : Option Slot) : Prop := ∀ q, s = some q → q.k ≠ .lk
theorem nl_fz (p : PV) : NL (some ⟨p, .fz⟩) := fun q e => by cases e; intro z; cases z
theorem nl_own (p : PV) : NL (some ⟨p, .own⟩) := fun q e => by cases e; intro z; cases z
theorem nl_ro (p : PV) : NL (some ⟨p, .ro⟩) := fun q e => by cases e; intro z; cases z
theorem nl_none : NL none := fun q e => by cases e
theorem st_nl {i : Nat} {s : Option Slot} (h : env[i]? = some s) (n : NL s) (p : PV) (f : Bool) : store [] i p f env = some (env.set i (some ⟨p, kd f⟩)) := by
  unfold store
  rw [h]
  cases s with
  | none => rfl
  | some q =>
    obtain ⟨q, k⟩ := q
    cases k <;> first | rfl | exact (n _ rfl rfl).elim
theorem set_nl {i : Nat} {e : E} {p : PV} {f : Bool} {env1 : En} {s : Option Slot} (h : ev M C e env = some (.vl p f, env1)) (hs : env1[i]? = some s) (n : NL s) : ex M C W [] (.set i e) env = some (.nx (env1.set i (some ⟨p, kd f⟩))) := set_vl h (st_nl hs n p f)
theorem ret_vl {e : E} {p : PV} {f : Bool} {env1 : En} (h : ev M C e env = some (.vl p f, env1)) : ex M C W pm (.ret e) env = some (.rt p f env1) := by
  rw [ex_ret, h]
  rfl
theorem ex_vl {e : E} {x : Opd} {env1 : En} (h : ev M C e env = some (x, env1)) : ex M C W pm (.ex e) env = some (.nx env1) := by
  rw [ex_ex, h]
theorem ite_pv {c : E} {a b : List S} {k : Bool} {r : Option Fl} (h1 : Pv M C c env (.bl k)) (h2 : k = true → exs M C W pm a env = r) (h3 : k = false → exs M C W pm b env = r) : ex M C W pm (.ite c a b) env = r := by
  obtain ⟨x, e1, d1⟩ := h1
  rw [ex_ite, e1]
  simp only [d1]
  cases k with
  | true => exact h2 rfl
  | false => exact h3 rfl
theorem sti_pv {i : Nat} {k e : E} {p p' q y : PV} (h1 : Pc M C e env y) (h2 : Pv M C k env q) (h3 : env[i]? = some (some ⟨p, .own⟩)) (h4 : setF p q y = some p') : ex M C W pm (.sti i k e) env = some (.nx (env.set i (some ⟨p', .own⟩))) := by
  obtain ⟨x, e1, d1⟩ := h1
  obtain ⟨z, e2, d2⟩ := h2
  rw [ex_sti, e1]
  simp only [d1, e2, d2, h3, h4]
theorem exs_fl {s : S} {ss : List S} {env1 : En} {r : Option Fl} (h : ex M C W pm s env = some (.nx env1)) (h2 : exs M C W pm ss env1 = r) : exs M C W pm (s :: ss) env = r := by rw [exs_nx h, h2]
theorem run_rt {D : Nat → Dfn} {d f n : Nat} {ms : List Md} {body : List S} {ps : List PV} {p : PV} {k : Bool} {env : En} {os : List PV} (h : D f = ⟨ms, n, body⟩) (hl : ps.length = ms.length) (he : exs (fun f => (D f).modes) (run W D d) W (mutsOf 0 ms) body (starts ms ps ++ List.replicate (n - ms.length) none) = some (.rt p k env)) (ho : outs ms env = some os) : run W D (d + 1) f ps = some ((p, k), os) := by
  rw [run_succ]
  simp only [h, hl, if_true, he, ho]
theorem run_nx {D : Nat → Dfn} {d f n : Nat} {ms : List Md} {body : List S} {ps : List PV} {env : En} {os : List PV} (h : D f = ⟨ms, n, body⟩) (hl : ps.length = ms.length) (he : exs (fun f => (D f).modes) (run W D d) W (mutsOf 0 ms) body (starts ms ps ++ List.replicate (n - ms.length) none) = some (.nx env)) (ho : outs ms env = some os) : run W D (d + 1) f ps = some ((.non, false), os) := by
  rw [run_succ]
  simp only [h, hl, if_true, he, ho]
/-- a def that returns an expression at once -/
theorem run_e {D : Nat → Dfn} {d f n : Nat} {ms : List Md} {e : E} {ps : List PV} {p : PV} {k : Bool} (h : D f = ⟨ms, n, [.ret e]⟩) (hl : ps.length = ms.length) (he : ev (fun f => (D f).modes) (run W D d) e (starts ms ps ++ List.replicate (n - ms.length) none) = some (.vl p k, starts ms ps ++ List.replicate (n - ms.length) none)) (ho : outs ms (starts ms ps ++ List.replicate (n - ms.length) none) = some []) : run W D (d + 1) f ps = some ((p, k), []) :=
  run_rt h hl (exs_rt (ret_vl he)) ho
end
theorem inB_nat {n : Nat} (h : n < 16777216) : inB (n : Int) = true := by
  unfold inB
  have h1 : -(2 ^ 62) ≤ (n : Int) := by omega
  have h2 : (n : Int) < 2 ^ 62 := by omega
  rw [decide_eq_true h1, decide_eq_true h2]; rfl
theorem rep_none : ∀ n : Nat, (List.replicate n ([PV.non] : List PV)).flatten = List.replicate n PV.non
  | 0 => rfl
  | n + 1 => by rw [List.replicate_succ, List.flatten_cons, rep_none n]; rfl
/-- lists of natural numbers -/
def natL (l : List Nat) : List PV := l.map fun n => .int (n : Nat)
def pnt : PV → Nat
  | .int i => i.toNat
  | _ => 0
theorem fold_nat {α : Type} (f : α → Nat → α) : ∀ (l : List Nat) (a : α), (natL l).foldl (fun a z => f a (pnt z)) a = l.foldl f a
  | [], _ => rfl
  | x :: l, a => by
    show (natL l).foldl (fun a z => f a (pnt z)) (f a (pnt (.int (x : Nat)))) = _
    rw [fold_nat f l]; rfl
theorem mem_natL {l : List Nat} {z : PV} (h : z ∈ natL l) : ∃ s ∈ l, z = .int (s : Nat) := by
  unfold natL at h
  obtain ⟨s, hs, rfl⟩ := List.mem_map.mp h
  exact ⟨s, hs, rfl⟩
theorem natL_leaf (l : List Nat) : (natL l).all leafB = true := by
  induction l with
  | nil => rfl
  | cons _ _ ih => exact ih
theorem rngL_nat (a b : Nat) : (rngL (a : Int) (b : Int)).map .int = natL (List.range' a (b - a)) := by
  have hu : ∀ (n a : Nat), (upto (a : Int) n).map PV.int = natL (List.range' a n) := fun n => by
    induction n with
    | zero => intro a; rfl
    | succ n ih =>
      intro a
      have := ih (a + 1)
      rw [List.range'_succ]
      show PV.int a :: (upto ((a : Int) + 1) n).map PV.int = .int a :: natL (List.range' (a + 1) n)
      rw [← this]; rfl
  unfold rngL
  rw [show ((b : Int) - a).toNat = b - a by omega, hu]
theorem mulF_none {h : Nat} (hs : h < sizeLine) : binF .mul (.lst [.non]) (.int (h : Nat)) = some (.lst (List.replicate h PV.non), true) := by
  have hb : inB (h : Int) = true := inB_nat (by unfold sizeLine at hs; omega)
  have i2 : [PV.non].length * (h : Int).toNat ≤ sizeLine := by
    rw [Int.toNat_natCast]
    show 1 * h ≤ _
    omega
  unfold binF mulF
  simp only [hb, i2, and_self, if_true]
  rw [Int.toNat_natCast, rep_none]
/-- a for that may return -/
theorem forGo_find {turn : PV → En → Option Fl} {R Q : En → Prop} {k : Bool} {P : PV → Option PV} : ∀ {l : List PV} {env : En}, R env → (∀ z ∈ l, ∀ env, R env → (P z = none → ∃ env', turn z env = some (.nx env') ∧ R env') ∧ (∀ p, P z = some p → ∃ env', turn z env = some (.rt p k env') ∧ Q env')) →
    (l.findSome? P = none → ∃ env', forGo turn l env = some (.nx env') ∧ R env') ∧ (∀ p, l.findSome? P = some p → ∃ env', forGo turn l env = some (.rt p k env') ∧ Q env')
  | [], env, h, _ => ⟨fun _ => ⟨env, rfl, h⟩, fun p e => by cases e⟩
  | z :: l, env, h, ht => by
    obtain ⟨t1, t2⟩ := ht z (List.mem_cons_self ..) env h
    cases q : P z with
    | some p =>
      obtain ⟨env', e1, e2⟩ := t2 p q
      rw [List.findSome?_cons, q]
      refine ⟨fun e => by (cases e), fun p' e => ?_⟩
      cases e
      exact ⟨env', by simp only [forGo, e1], e2⟩
    | none =>
      obtain ⟨env1, e1, e2⟩ := t1 q
      obtain ⟨i1, i2⟩ := forGo_find (l := l) e2 fun y hy => ht y (List.mem_cons_of_mem _ hy)
      rw [List.findSome?_cons, q]
      refine ⟨fun e => ?_, fun p e => ?_⟩
      · obtain ⟨env', e3, e4⟩ := i1 e
        exact ⟨env', by simp only [forGo, e1, e3], e4⟩
      · obtain ⟨env', e3, e4⟩ := i2 p e
        exact ⟨env', by simp only [forGo, e1, e3], e4⟩
theorem ex_for_ret {M : Nat → List Md} {C : Cl} {W : Lp} {pm : List Nat} {env : En} {tg : Tg} {it : E} {b : List S} {env2 : En} {xs : List PV} {l : List Nat} {p : PV} {k : Bool} (h1 : Pw M C it env xs l) (h3 : forGo (forT M C W pm tg b) xs (lock env l) = some (.rt p k env2)) : ex M C W pm (.for_ tg it b) env = some (.rt p k env2) := by
  obtain ⟨x, e1, w1⟩ := h1
  exact ex_for_rt e1 w1 h3
theorem find_natL (P : PV → Option PV) (l : List Nat) : (natL l).findSome? P = l.findSome? fun n => P (.int (n : Nat)) := by
  induction l with
  | nil => rfl
  | cons x l ih =>
    show ((.int (x : Nat) : PV) :: natL l).findSome? P = _
    rw [List.findSome?_cons, List.findSome?_cons, ih]
theorem maxL_nat : ∀ (ns : List Nat) (n : Nat), maxL (n : Int) (ns.map fun (k : Nat) => (k : Int)) = ((ns.foldl max n : Nat) : Int)
  | [], _ => rfl
  | x :: ns, n => by
    show maxL (if (n : Int) < (x : Int) then (x : Int) else (n : Int)) (ns.map fun (k : Nat) => (k : Int)) = ((ns.foldl max (max n x) : Nat) : Int)
    rw [← maxL_nat ns (max n x)]
    congr 1
    split <;> omega
theorem wht_go {M : Nat → List Md} {C : Cl} {W : Lp} {pm : List Nat} {env env' : En} {c : E} {b : List S} (h1 : Pv M C c env (.bl true)) (h2 : exs M C W pm b env = some (.nx env')) : whlT M C W pm c b env = some (.inl env') := by
  obtain ⟨x, e1, d1⟩ := h1
  unfold whlT
  simp only [e1, d1, h2]
theorem wht_stop {M : Nat → List Md} {C : Cl} {W : Lp} {pm : List Nat} {env : En} {c : E} {b : List S} (h1 : Pv M C c env (.bl false)) : whlT M C W pm c b env = some (.inr (.nx env)) := by
  obtain ⟨x, e1, d1⟩ := h1
  unfold whlT
  simp only [e1, d1]
/-- a comprehension over an own list -/
theorem vl_lc1o {M : Nat → List Md} {C : Cl} {env : En} {v i : Nat} {elt c : E} {p : PV} {xs : List PV} (k : PV → Bool) (g : PV → PV) (h0 : env[i]? = some (some ⟨p, .own⟩)) (hw : walkF p = some xs) (hiv : i ≠ v) (hv : v < env.length) (hz : xs.length ≤ sizeLine)
    (hk : ∀ z ∈ xs, Pv M C c ((env.set i (some ⟨p, .lk⟩)).set v (some ⟨z, .fz⟩)) (.bl (k z))) (hg : ∀ z ∈ xs, k z = true → Pc M C elt ((env.set i (some ⟨p, .lk⟩)).set v (some ⟨z, .fz⟩)) (g z)) : ev M C (.lc (.one v) (.var i) [c] elt) env = some (.vl (.lst ((xs.filter k).map g)) true, env) := by
  have e : (xs.filter k).map g = xs.filterMap fun z => if k z = true then some (g z) else none := by
    clear hk hg hz hw
    induction xs with
    | nil => rfl
    | cons x xs ih => cases q : k x <;> simp [q, ih]
  have hi : i < env.length := lt_of_some h0
  have lk : lock env [i] = env.set i (some ⟨p, .lk⟩) := by
    show lock1 env i = _
    unfold lock1
    rw [h0]
  have hv' : v < (env.set i (some ⟨p, .lk⟩)).length := by rw [List.length_set]; exact hv
  have lo : lkOf env [i] = [i] := by
    have : isOwn env i = true := by unfold isOwn; rw [h0]
    show List.filter _ [i] = _
    rw [List.filter_cons, if_pos this]; rfl
  have := ev_lc_map (M := M) (C := C) (tg := .one v) (elt := elt) (ifs := [c]) (l := [i]) (xs := xs) (fun z => if k z = true then some (g z) else none) (ev_var_of h0) (by simp only [walkO, deref, h0, hw]; rfl) (fun z hz => by
    rw [lk]
    have h := ifs_one (hk z hz)
    cases q : k z with
    | true => rw [q] at h; rw [if_pos rfl]; exact turn_some hv' h (hg z hz q)
    | false => rw [q] at h; rw [if_neg (by decide)]; exact turn_none hv' h) (Nat.le_trans (List.length_filterMap_le ..) hz)
  rw [this, lk, lo, e]
  congr 2
  show unlock1 (((env.set i (some ⟨p, .lk⟩)).set v none).set v (match env[v]? with | some s => s | none => none)) i = env
  rw [List.set_set, List.getElem?_eq_getElem hv]
  unfold unlock1
  rw [List.getElem?_set_ne (fun q => hiv q.symm), List.getElem?_set_self hi]
  show ((env.set i (some ⟨p, .lk⟩)).set v env[v]).set i (some ⟨p, .own⟩) = env
  apply List.ext_getElem? fun x => ?_
  by_cases q1 : i = x
  · subst q1
    rw [List.getElem?_set_self (by rw [List.length_set, List.length_set]; exact hi), h0]
  · rw [List.getElem?_set_ne q1]
    by_cases q2 : v = x
    · subst q2
      rw [List.getElem?_set_self hv', List.getElem?_eq_getElem hv]
    · rw [List.getElem?_set_ne q2, List.getElem?_set_ne q1]
end L2.Pz
set_option Elab.async false
set_option linter.all false
set_option maxRecDepth 100000
set_option maxHeartbeats 4000000
namespace L2.Pz
set_option autoImplicit false
open PySem hiding run
open L2

/-! ## Gx0: rules backward, from the code's root -/
theorem bd {α β : Type} {x : Option α} {f : α → Option β} {r : β} (h : x.bind f = some r) : ∃ a, x = some a ∧ f a = some r := by
  cases x with
  | none => cases h
  | some a => exact ⟨a, rfl, h⟩
section
variable {M : Nat → List Md} {C : Cl} {pm : List Nat} {env : En}
def Ev (M : Nat → List Md) (C : Cl) (e : E) (env : En) (Q : Opd → En → Prop) : Prop := ∃ o e1, ev M C e env = some (o, e1) ∧ Q o e1
def Evs (M : Nat → List Md) (C : Cl) (es : List E) (env : En) (Q : List Opd → En → Prop) : Prop := ∃ os e1, evs M C es env = some (os, e1) ∧ Q os e1
def Exs (M : Nat → List Md) (C : Cl) (pm : List Nat) (ss : List S) (env : En) (Q : Fl → Prop) : Prop := ∃ fl, exs M C lim pm ss env = some fl ∧ Q fl
variable {Q : Opd → En → Prop} {Qs : List Opd → En → Prop} {R : Fl → Prop}
theorem Ev_at {e : E} {o : Opd} {e1 : En} (h : ev M C e env = some (o, e1)) (q : Q o e1) : Ev M C e env Q := ⟨o, e1, h, q⟩
theorem Ev_con {c : PV} (q : Q (.vl c false) env) : Ev M C (.con c) env Q := ⟨_, _, ev_con _ _, q⟩
theorem Ev_glo {x : Str} {c : PV} (q : Q (.vl c false) env) : Ev M C (.glo x c) env Q := ⟨_, _, ev_glo _ _ _, q⟩
theorem Ev_var {i : Nat} {s : Slot} (h : env[i]? = some (some s)) (q : Q (.sl i) env) : Ev M C (.var i) env Q := ⟨_, _, ev_var_of h, q⟩
theorem Ev_bin {o : Bop} {a b : E} (h : Ev M C a env fun x e1 => Ev M C b e1 fun y e2 => ∃ p q r f, deref e2 x = some p ∧ deref e2 y = some q ∧ binF o p q = some (r, f) ∧ Q (.vl r f) e2) : Ev M C (.bin o a b) env Q := by
  obtain ⟨x, e1, h1, y, e2, h2, p, q, r, f, h3, h4, h5, h6⟩ := h
  exact ⟨_, _, by rw [ev_bin, h1]; simp only [h2, h3, h4, h5], h6⟩
theorem Ev_un {o : Uop} {a : E} (h : Ev M C a env fun x e1 => ∃ p r, deref e1 x = some p ∧ unF o p = some r ∧ Q (.vl r false) e1) : Ev M C (.un o a) env Q := by
  obtain ⟨x, e1, h1, p, r, h3, h5, h6⟩ := h
  exact ⟨_, _, by rw [ev_un, h1]; simp only [h3, h5], h6⟩
theorem Ev_cmp {o : Cop} {a b : E} (h : Ev M C a env fun x e1 => Ev M C b e1 fun y e2 => ∃ p q r, deref e2 x = some p ∧ deref e2 y = some q ∧ cmpF o p q = some r ∧ Q (.vl (.bl r) false) e2) : Ev M C (.cmp o a b) env Q := by
  obtain ⟨x, e1, h1, y, e2, h2, p, q, r, h3, h4, h5, h6⟩ := h
  exact ⟨_, _, by rw [ev_cmp, h1]; simp only [h2, h3, h4, h5], h6⟩
/-- three in a row, the last with no change of the slots -/
theorem Ev_cmp2 {o o' : Cop} {a b c : E} (h : Ev M C a env fun x e1 => Ev M C b e1 fun y e2 => Ev M C c e2 fun z e3 => e3 = e2 ∧ ∃ p q r k k', deref e2 x = some p ∧ deref e2 y = some q ∧ cmpF o p q = some k ∧ deref e2 z = some r ∧ cmpF o' q r = some k' ∧ Q (.vl (.bl (k && k')) false) e2) : Ev M C (.cmp2 o o' a b c) env Q := by
  obtain ⟨x, e1, h1, y, e2, h2, z, e3, h3, rfl, p, q, r, k, k', h4, h5, h6, h7, h8, h9⟩ := h
  refine ⟨_, _, ?_, h9⟩
  rw [ev_cmp2, h1]
  simp only [h2, h4, h5, h6]
  cases k
  · rfl
  · simp only [h3, h5, h7, h8, Bool.true_and]
theorem Ev_not {a : E} (h : Ev M C a env fun x e1 => ∃ k, deref e1 x = some (.bl k) ∧ Q (.vl (.bl (!k)) false) e1) : Ev M C (.not a) env Q := by
  obtain ⟨x, e1, h1, k, h3, h6⟩ := h
  exact ⟨_, _, by rw [ev_not, h1]; simp only [h3], h6⟩
theorem Ev_and {a b : E} (h : Ev M C a env fun x e1 => ∃ k, deref e1 x = some (.bl k) ∧ (k = true → Ev M C b e1 Q) ∧ (k = false → Q (.vl (.bl false) false) e1)) : Ev M C (.and a b) env Q := by
  obtain ⟨x, e1, h1, k, h3, h4, h5⟩ := h
  cases k with
  | true =>
    obtain ⟨o, e2, h6, h7⟩ := h4 rfl
    exact ⟨_, _, by rw [ev_and, h1]; simp only [h3, h6], h7⟩
  | false => exact ⟨_, _, by rw [ev_and, h1]; simp only [h3], h5 rfl⟩
theorem Ev_or {a b : E} (h : Ev M C a env fun x e1 => ∃ k, deref e1 x = some (.bl k) ∧ (k = true → Q (.vl (.bl true) false) e1) ∧ (k = false → Ev M C b e1 Q)) : Ev M C (.or a b) env Q := by
  obtain ⟨x, e1, h1, k, h3, h4, h5⟩ := h
  cases k with
  | false =>
    obtain ⟨o, e2, h6, h7⟩ := h5 rfl
    exact ⟨_, _, by rw [ev_or, h1]; simp only [h3, h6], h7⟩
  | true => exact ⟨_, _, by rw [ev_or, h1]; simp only [h3], h4 rfl⟩
theorem Ev_ite {c a b : E} (h : Ev M C c env fun x e1 => ∃ k, deref e1 x = some (.bl k) ∧ (k = true → Ev M C a e1 Q) ∧ (k = false → Ev M C b e1 Q)) : Ev M C (.ite c a b) env Q := by
  obtain ⟨x, e1, h1, k, h3, h4, h5⟩ := h
  cases k with
  | false =>
    obtain ⟨o, e2, h6, h7⟩ := h5 rfl
    exact ⟨_, _, by rw [ev_ite, h1]; simp only [h3, h6], h7⟩
  | true =>
    obtain ⟨o, e2, h6, h7⟩ := h4 rfl
    exact ⟨_, _, by rw [ev_ite, h1]; simp only [h3, h6], h7⟩
theorem Evs_nil (q : Qs [] env) : Evs M C [] env Qs := ⟨_, _, evs_nil, q⟩
theorem Evs_cons {e : E} {es : List E} (h : Ev M C e env fun x e1 => Evs M C es e1 fun os e2 => Qs (x :: os) e2) : Evs M C (e :: es) env Qs := by
  obtain ⟨x, e1, h1, os, e2, h2, h3⟩ := h
  exact ⟨_, _, evs_cons h1 h2, h3⟩
theorem Ev_tup {es : List E} (h : Evs M C es env fun os e1 => ∃ ps e2, consumes e1 os = some (ps, e2) ∧ ps.length ≤ sizeLine ∧ Q (.vl (.tup ps) false) e2) : Ev M C (.tup es) env Q := by
  obtain ⟨os, e1, h1, ps, e2, h2, h3, h4⟩ := h
  exact ⟨_, _, by rw [ev_tup, h1]; simp only [h2, h3, if_true], h4⟩
theorem Ev_lst {es : List E} (h : Evs M C es env fun os e1 => ∃ ps e2, consumes e1 os = some (ps, e2) ∧ ps.length ≤ sizeLine ∧ Q (.vl (.lst ps) true) e2) : Ev M C (.lst es) env Q := by
  obtain ⟨os, e1, h1, ps, e2, h2, h3, h4⟩ := h
  exact ⟨_, _, by rw [ev_lst, h1]; simp only [h2, h3, if_true], h4⟩
theorem Ev_dsp {es : List E} (h : Evs M C es env fun os e1 => ∃ ps e2 kvs, consumes e1 os = some (ps, e2) ∧ kvsOf ps = some kvs ∧ kvs.length ≤ 15 ∧ Q (.vl (.dk (putAllP [] kvs)) true) e2) : Ev M C (.dsp es) env Q := by
  obtain ⟨os, e1, h1, ps, e2, kvs, h2, h3, h4, h5⟩ := h
  exact ⟨_, _, by rw [ev_dsp, h1]; simp only [h2, h3, h4, if_true], h5⟩
theorem Ev_dnk (q : Q (.vl (.dk []) true) env) : Ev M C .dnk env Q := ⟨_, _, ev_dnk _, q⟩
theorem Ev_dnt (q : Q (.vl (.dt []) true) env) : Ev M C .dnt env Q := ⟨_, _, ev_dnt _, q⟩
theorem Ev_idx {a i : E} (h : Ev M C a env fun x e1 => Ev M C i e1 fun y e2 => ∃ p q r, deref e2 x = some p ∧ deref e2 y = some q ∧ idxF p q = some r ∧ Q (.vl r false) e2) : Ev M C (.idx a i) env Q := by
  obtain ⟨x, e1, h1, y, e2, h2, p, q, r, h3, h4, h5, h6⟩ := h
  exact ⟨_, _, by rw [ev_idx, h1]; simp only [h2, h3, h4, h5], h6⟩
theorem Ev_slc {a : E} {lo hi : List E} (h : Ev M C a env fun x e1 => Evs M C lo e1 fun l e2 => ∃ l', ((derefs e2 l).bind asInts).bind asOpt = some l' ∧ Evs M C hi e2 fun m e3 => ∃ m' p r f, ((derefs e3 m).bind asInts).bind asOpt = some m' ∧ deref e3 x = some p ∧ slcF p l' m' = some (r, f) ∧ Q (.vl r f) e3) : Ev M C (.slc a lo hi) env Q := by
  obtain ⟨x, e1, h1, l, e2, h2, l', h3, m, e3, h4, m', p, r, f, h5, h6, h7, h8⟩ := h
  exact ⟨_, _, by rw [ev_slc, h1]; simp only [h2, h3, h4, h5, h6, h7], h8⟩
theorem Ev_revT {a : E} (h : Ev M C a env fun x e1 => ∃ xs, deref e1 x = some (.tup xs) ∧ Q (.vl (.tup xs.reverse) false) e1) : Ev M C (.rev a) env Q := by
  obtain ⟨x, e1, h1, xs, h3, h6⟩ := h
  exact ⟨_, _, by rw [ev_rev, h1]; simp only [h3], h6⟩
theorem Ev_rev {a : E} (h : Ev M C a env fun x e1 => ∃ xs, deref e1 x = some (.lst xs) ∧ Q (.vl (.lst xs.reverse) true) e1) : Ev M C (.rev a) env Q := by
  obtain ⟨x, e1, h1, xs, h3, h6⟩ := h
  exact ⟨_, _, by rw [ev_rev, h1]; simp only [h3], h6⟩
theorem Ev_isi {t : Ty} {a : E} (h : Ev M C a env fun x e1 => ∃ p r f, deref e1 x = some p ∧ isiF t p = some (r, f) ∧ Q (.vl r f) e1) : Ev M C (.isi t a) env Q := by
  obtain ⟨x, e1, h1, p, r, f, h3, h5, h6⟩ := h
  exact ⟨_, _, by rw [ev_isi, h1]; simp only [h3, h5], h6⟩
theorem Ev_call {f : Nat} {es : List E} (h : Evs M C es env fun os e1 => ∃ ps is e2 r k outs e3, pass (M f) os e1 = some (ps, is, e2) ∧ C f ps = some ((r, k), outs) ∧ back is outs e2 = some e3 ∧ Q (.vl r k) e3) : Ev M C (.call f es) env Q := by
  obtain ⟨os, e1, h1, ps, is, e2, r, k, outs, e3, h2, h3, h4, h5⟩ := h
  exact ⟨_, _, by rw [ev_call, h1]; simp only [h2, h3, h4], h5⟩
theorem Ev_bi {b : Bi} {es : List E} (h : Evs M C es env fun os e1 => ∃ ps r f, derefs e1 os = some ps ∧ biF b ps = some (r, f) ∧ Q (.vl r f) e1) : Ev M C (.bi b es) env Q := by
  obtain ⟨os, e1, h1, ps, r, f, h2, h3, h4⟩ := h
  exact ⟨_, _, by rw [ev_bi, h1]; simp only [h2, h3], h4⟩
theorem Ev_met {m : Mt} {o : E} {es : List E} (h : Ev M C o env fun x e1 => ∃ p0, deref e1 x = some p0 ∧ Evs M C es e1 fun os e2 => ∃ p ps r f, deref e2 x = some p ∧ derefs e2 os = some ps ∧ p0.kn = p.kn ∧ metF m p ps = some (r, f) ∧ Q (.vl r f) e2) : Ev M C (.met m o es) env Q := by
  obtain ⟨x, e1, h1, p0, h2, os, e2, h3, p, ps, r, f, h4, h5, h6, h7, h8⟩ := h
  exact ⟨_, _, by rw [ev_met, h1]; simp only [h2, h3, h4, h5, h6, h7, if_true], h8⟩
theorem Ev_mm {m : Mm} {i : Nat} {es : List E} {s0 : Slot} (h0 : env[i]? = some (some s0)) (h : Evs M C es env fun os e1 => ∃ ps e2 p p' r, consumes e1 os = some (ps, e2) ∧ e2[i]? = some (some ⟨p, .own⟩) ∧ s0.v.kn = p.kn ∧ mutF m p ps = some (p', r) ∧ Q (.vl r false) (e2.set i (some ⟨p', .own⟩))) : Ev M C (.mm m i es) env Q := by
  obtain ⟨os, e1, h1, ps, e2, p, p', r, h2, h3, h4, h5, h6⟩ := h
  exact ⟨_, _, by rw [ev_mm, h0]; simp only [h1, h2, h3, h4, h5, if_true], h6⟩
theorem Ev_zip {a b : E} (h : Ev M C a env fun x e1 => Ev M C b e1 fun y e2 => ∃ p q xs ys, deref e2 x = some p ∧ deref e2 y = some q ∧ ((p = .lst xs ∧ q = .lst ys) ∨ (p = .tup xs ∧ q = .tup ys)) ∧ Q (.wk (zipP xs ys) (x.slot ++ y.slot)) e2) : Ev M C (.zip a b) env Q := by
  obtain ⟨x, e1, h1, y, e2, h2, p, q, xs, ys, h3, h4, h5, h6⟩ := h
  rcases h5 with ⟨rfl, rfl⟩ | ⟨rfl, rfl⟩ <;> exact ⟨_, _, by rw [ev_zip, h1]; simp only [h2, h3, h4], h6⟩
theorem Ev_enum {a : E} (h : Ev M C a env fun x e1 => ∃ xs, deref e1 x = some (.lst xs) ∧ Q (.wk (enumP 0 xs) x.slot) e1) : Ev M C (.enum a) env Q := by
  obtain ⟨x, e1, h1, xs, h3, h6⟩ := h
  exact ⟨_, _, by rw [ev_enum, h1]; simp only [h3], h6⟩
theorem Ev_enumT {a : E} (h : Ev M C a env fun x e1 => ∃ xs, deref e1 x = some (.tup xs) ∧ Q (.wk (enumP 0 xs) x.slot) e1) : Ev M C (.enum a) env Q := by
  obtain ⟨x, e1, h1, xs, h3, h6⟩ := h
  exact ⟨_, _, by rw [ev_enum, h1]; simp only [h3], h6⟩
theorem Ev_rng {es : List E} (h : Evs M C es env fun os e1 => ∃ ns xs, (derefs e1 os).bind asInts = some ns ∧ rngIF ns = some xs ∧ Q (.wk (xs.map PV.int) []) e1) : Ev M C (.rngI es) env Q := by
  obtain ⟨os, e1, h1, ns, xs, h3, h5, h6⟩ := h
  exact ⟨_, _, by rw [ev_rngI, h1]; simp only [h3, h5], h6⟩
/-- comprehensions: what their turns come to is said by the caller -/
theorem Ev_lc {tg : Tg} {it elt : E} {ifs : List E} (h : Ev M C it env fun x e1 => ∃ xs l ys e2, walkO e1 x = some (xs, l) ∧ lcGo (turn1F M C tg.slots tg ifs elt) xs (wipeE (lock e1 l) tg.slots) = some (ys, e2) ∧ ys.length ≤ sizeLine ∧ Q (.vl (.lst ys) true) (unlock (restore e1 e2 tg.slots) (lkOf e1 l))) : Ev M C (.lc tg it ifs elt) env Q := by
  obtain ⟨x, e1, h1, xs, l, ys, e2, h2, h3, h4, h5⟩ := h
  exact ⟨_, _, by rw [ev_lc, h1]; simp only [h2, h3, h4, if_true], h5⟩
/-! statements -/
theorem Exs_nil (q : R (.nx env)) : Exs M C pm [] env R := ⟨_, exs_nil _, q⟩
theorem Exs_fl {s : S} {ss : List S} {e1 : En} (h : ex M C lim pm s env = some (.nx e1)) (q : Exs M C pm ss e1 R) : Exs M C pm (s :: ss) env R := by
  obtain ⟨fl, h1, h2⟩ := q
  exact ⟨fl, by rw [exs_nx h, h1], h2⟩
theorem Exs_rt {s : S} {ss : List S} {e1 : En} {p : PV} {k : Bool} (h : ex M C lim pm s env = some (.rt p k e1)) (q : R (.rt p k e1)) : Exs M C pm (s :: ss) env R := ⟨_, exs_rt h, q⟩
theorem Exs_ex {e : E} {ss : List S} (h : Ev M C e env fun _ e1 => Exs M C pm ss e1 R) : Exs M C pm (.ex e :: ss) env R := by
  obtain ⟨x, e1, h1, h2⟩ := h
  exact Exs_fl (ex_vl h1) h2
theorem Exs_pas {ss : List S} (h : Exs M C pm ss env R) : Exs M C pm (.pas :: ss) env R := Exs_fl (ex_pas _) h
theorem Exs_set {i : Nat} {e : E} {ss : List S} (h : Ev M C e env fun x e1 => ∃ p f e2 e3, move pm x e1 = some ((p, f), e2) ∧ store pm i p f e2 = some e3 ∧ Exs M C pm ss e3 R) : Exs M C pm (.set i e :: ss) env R := by
  obtain ⟨x, e1, h1, p, f, e2, e3, h2, h3, h4⟩ := h
  exact Exs_fl (by rw [ex_set, h1]; simp only [h2, h3]) h4
theorem Exs_unpL {is : List Nat} {e : E} {ss : List S} (h : Ev M C e env fun x e1 => ∃ ps e2, deref e1 x = some (.lst ps) ∧ stores pm is ps e1 = some e2 ∧ Exs M C pm ss e2 R) : Exs M C pm (.unp is e :: ss) env R := by
  obtain ⟨x, e1, h1, ps, e2, h2, h3, h4⟩ := h
  exact Exs_fl (by rw [ex_unp, h1]; simp only [h2, h3]) h4
theorem Exs_unp {is : List Nat} {e : E} {ss : List S} (h : Ev M C e env fun x e1 => ∃ ps e2, deref e1 x = some (.tup ps) ∧ stores pm is ps e1 = some e2 ∧ Exs M C pm ss e2 R) : Exs M C pm (.unp is e :: ss) env R := by
  obtain ⟨x, e1, h1, ps, e2, h2, h3, h4⟩ := h
  exact Exs_fl (by rw [ex_unp, h1]; simp only [h2, h3]) h4
theorem Exs_par {is : List Nat} {es : List E} {ss : List S} (h : Evs M C es env fun os e1 => ∃ rs e2 e3, moves pm os e1 = some (rs, e2) ∧ storeR pm is rs e2 = some e3 ∧ Exs M C pm ss e3 R) : Exs M C pm (.par is es :: ss) env R := by
  obtain ⟨os, e1, h1, rs, e2, e3, h2, h3, h4⟩ := h
  exact Exs_fl (by rw [ex_par, h1]; simp only [h2, h3]) h4
/-- values go to places -/
def Psts (M : Nat → List Md) (C : Cl) (pm : List Nat) (ts : List Plc) (ps : List PV) (env : En) (Q : En → Prop) : Prop := ∃ e1, psts M C pm ts ps env = some e1 ∧ Q e1
theorem Psts_nil {Q : En → Prop} (q : Q env) : Psts M C pm [] [] env Q := ⟨_, rfl, q⟩
theorem Psts_nm {i : Nat} {ts : List Plc} {p : PV} {ps : List PV} {e1 : En} {Q : En → Prop} (h1 : store pm i p false env = some e1) (h2 : Psts M C pm ts ps e1 Q) : Psts M C pm (.nm i :: ts) (p :: ps) env Q := by
  obtain ⟨e2, h3, h4⟩ := h2
  exact ⟨e2, by unfold psts; simp only [h1]; exact h3, h4⟩
theorem Psts_it {i : Nat} {k : E} {ts : List Plc} {p : PV} {ps : List PV} {Q : En → Prop} (h : Ev M C k env fun z e3 => ∃ q o o', deref e3 z = some q ∧ e3[i]? = some (some ⟨o, .own⟩) ∧ setF o q p = some o' ∧ Psts M C pm ts ps (e3.set i (some ⟨o', .own⟩)) Q) : Psts M C pm (.it i k :: ts) (p :: ps) env Q := by
  obtain ⟨z, e3, h1, q, o, o', h2, h3, h4, e4, h5, h6⟩ := h
  exact ⟨e4, by unfold psts; simp only [h1, h2, h3, h4]; exact h5, h6⟩
theorem Psts_mn {is : List Nat} {ts : List Plc} {qs ps : List PV} {e1 : En} {Q : En → Prop} (h1 : stores pm is qs env = some e1) (h2 : Psts M C pm ts ps e1 Q) : Psts M C pm (.mn is :: ts) (.tup qs :: ps) env Q := by
  obtain ⟨e2, h, q⟩ := h2
  exact ⟨e2, by rw [psts, h1]; exact h, q⟩
theorem Psts_env {ts : List Plc} {ps : List PV} {e1 : En} {Q : En → Prop} (h : env = e1) (q : Psts M C pm ts ps e1 Q) : Psts M C pm ts ps env Q := by subst h; exact q
theorem Exs_pst {ts : List Plc} {es : List E} {ss : List S} (h : Evs M C es env fun os e1 => ∃ ps e2, consumes e1 os = some (ps, e2) ∧ Psts M C pm ts ps e2 fun e3 => Exs M C pm ss e3 R) : Exs M C pm (.pst ts es :: ss) env R := by
  obtain ⟨os, e1, h1, ps, e2, h2, e3, h3, h4⟩ := h
  exact Exs_fl (by rw [ex_pst, h1]; simp only [h2, h3]) h4
theorem Exs_sti {i : Nat} {k e : E} {ss : List S} (h : Ev M C e env fun x e1 => ∃ y e2, consume e1 x = some (y, e2) ∧ Ev M C k e2 fun z e3 => ∃ q p p', deref e3 z = some q ∧ e3[i]? = some (some ⟨p, .own⟩) ∧ setF p q y = some p' ∧ Exs M C pm ss (e3.set i (some ⟨p', .own⟩)) R) : Exs M C pm (.sti i k e :: ss) env R := by
  obtain ⟨x, e1, h1, y, e2, h2, z, e3, h3, q, p, p', h4, h5, h6, h7⟩ := h
  exact Exs_fl (by rw [ex_sti, h1]; simp only [h2, h3, h4, h5, h6]) h7
theorem Exs_ite {c : E} {a b : List S} {ss : List S} (h : Ev M C c env fun x e1 => ∃ k, deref e1 x = some (.bl k) ∧ (k = true → Exs M C pm a e1 fun fl => match fl with | .nx e2 => Exs M C pm ss e2 R | fl => R fl) ∧ (k = false → Exs M C pm b e1 fun fl => match fl with | .nx e2 => Exs M C pm ss e2 R | fl => R fl)) : Exs M C pm (.ite c a b :: ss) env R := by
  obtain ⟨x, e1, h1, k, h2, h3, h4⟩ := h
  have go : ∀ t, (Exs M C pm t e1 fun fl => match fl with | .nx e2 => Exs M C pm ss e2 R | fl => R fl) → ex M C lim pm (.ite c a b) env = exs M C lim pm t e1 → Exs M C pm (.ite c a b :: ss) env R := by
    rintro t ⟨fl, h5, h6⟩ h7
    cases fl with
    | nx e2 => exact Exs_fl (h7.trans h5) h6
    | rt p f e2 => exact Exs_rt (h7.trans h5) h6
  cases k with
  | true => exact go a (h3 rfl) (by rw [ex_ite, h1]; simp only [h2])
  | false => exact go b (h4 rfl) (by rw [ex_ite, h1]; simp only [h2])
/-- a branch that joins: both ways come to slots as J says -/
theorem Exs_ite_nil {c : E} {a b : List S} (h : Ev M C c env fun x e1 => ∃ k, deref e1 x = some (.bl k) ∧ (k = true → Exs M C pm a e1 R) ∧ (k = false → Exs M C pm b e1 R)) : Exs M C pm [.ite c a b] env R := by
  obtain ⟨x, e1, h1, k, h2, h3, h4⟩ := h
  have go : ∀ t, Exs M C pm t e1 R → ex M C lim pm (.ite c a b) env = exs M C lim pm t e1 → Exs M C pm [.ite c a b] env R := by
    rintro t ⟨fl, h5, h6⟩ h7
    cases fl with
    | nx e2 => exact ⟨_, by rw [exs_nx (h7.trans h5), exs_nil], h6⟩
    | rt p f e2 => exact ⟨_, exs_rt (h7.trans h5), h6⟩
  cases k with
  | true => exact go a (h3 rfl) (by rw [ex_ite, h1]; simp only [h2])
  | false => exact go b (h4 rfl) (by rw [ex_ite, h1]; simp only [h2])
theorem Exs_cut {s : S} {ss : List S} {J : En → Prop} (h : Exs M C pm [s] env fun fl => ∃ e1, fl = .nx e1 ∧ J e1) (q : ∀ e1, J e1 → Exs M C pm ss e1 R) : Exs M C pm (s :: ss) env R := by
  obtain ⟨fl, h1, e1, rfl, h2⟩ := h
  have : ex M C lim pm s env = some (.nx e1) := by
    rw [exs_cons] at h1
    cases q : ex M C lim pm s env with
    | none => rw [q] at h1; cases h1
    | some x =>
      rw [q] at h1
      cases x with
      | nx e2 => simp only [exs_nil] at h1; cases h1; rfl
      | rt p k e2 => cases h1
  exact Exs_fl this (q e1 h2)
theorem Exs_ret {e : E} {ss : List S} (h : Ev M C e env fun x e1 => ∃ p f e2, move pm x e1 = some ((p, f), e2) ∧ R (.rt p f e2)) : Exs M C pm (.ret e :: ss) env R := by
  obtain ⟨x, e1, h1, p, f, e2, h2, h3⟩ := h
  exact Exs_rt (by rw [ex_ret, h1]; simp only [h2]) h3
theorem Exs_retN {ss : List S} (h : R (.rt .non false env)) : Exs M C pm (.retN :: ss) env R := Exs_rt (ex_retN _) h
theorem Exs_for {tg : Tg} {it : E} {b ss : List S} {J : En → Prop} (h : Ev M C it env fun x e1 => ∃ xs l, walkO e1 x = some (xs, l) ∧ (∃ e2, forGo (forT M C lim pm tg b) xs (lock e1 l) = some (.nx e2) ∧ Exs M C pm ss (unlock e2 (lkOf e1 l)) R)) : Exs M C pm (.for_ tg it b :: ss) env R := by
  obtain ⟨x, e1, h1, xs, l, h2, e2, h3, h4⟩ := h
  exact Exs_fl (ex_for_nx h1 h2 h3) h4
theorem Exs_forR {tg : Tg} {it : E} {b ss : List S} (h : Ev M C it env fun x e1 => ∃ xs l fl, walkO e1 x = some (xs, l) ∧ forGo (forT M C lim pm tg b) xs (lock e1 l) = some fl ∧ match fl with | .nx e2 => Exs M C pm ss (unlock e2 (lkOf e1 l)) R | fl => R fl) : Exs M C pm (.for_ tg it b :: ss) env R := by
  obtain ⟨x, e1, h1, xs, l, fl, h2, h3, h4⟩ := h
  cases fl with
  | nx e2 => exact Exs_fl (ex_for_nx h1 h2 h3) h4
  | rt p k e2 => exact Exs_rt (ex_for_rt h1 h2 h3) h4
theorem Exs_whl {c : E} {b ss : List S} (h : ∃ fl, lim (whlT M C lim pm c b) env = some fl ∧ match fl with | .nx e2 => Exs M C pm ss e2 R | fl => R fl) : Exs M C pm (.whl c b :: ss) env R := by
  obtain ⟨fl, h1, h2⟩ := h
  cases fl with
  | nx e2 => exact Exs_fl (by rw [ex_whl]; exact h1) h2
  | rt p k e2 => exact Exs_rt (by rw [ex_whl]; exact h1) h2
/-- a def, from its body -/
theorem run_of {D : Nat → Dfn} {d f n : Nat} {ms : List Md} {body : List S} {ps : List PV} {p : PV} {k : Bool} {os : List PV} (h : D f = ⟨ms, n, body⟩) (hl : ps.length = ms.length)
    (hb : Exs (fun f => (D f).modes) (run lim D d) (mutsOf 0 ms) body (starts ms ps ++ List.replicate (n - ms.length) none) fun fl => (∃ e1, fl = .rt p k e1 ∧ outs ms e1 = some os) ∨ (∃ e1, fl = .nx e1 ∧ outs ms e1 = some os ∧ p = .non ∧ k = false)) : run lim D (d + 1) f ps = some ((p, k), os) := by
  obtain ⟨fl, h1, h2⟩ := hb
  rcases h2 with ⟨e1, rfl, h2⟩ | ⟨e1, rfl, h2, rfl, rfl⟩
  · exact run_rt h hl h1 h2
  · exact run_nx h hl h1 h2
end
end L2.Pz
set_option Elab.async false
set_option linter.all false
set_option maxRecDepth 100000
set_option maxHeartbeats 4000000
namespace L2.Pz
set_option autoImplicit false
open PySem hiding run
open L2

/-! ## Gx1: typed values, native operations, loops and comprehensions -/
/-- how a type's values are laid as data -/
structure Enc (α : Type) where
  e : α → PV
  dp : Nat
/-- such values are plain, and == is theirs -/
structure EncOk {α : Type} (E : Enc α) : Prop where
  lay : ∀ a, (E.e a).toD.canLay0 = true ∧ (E.e a).toD.depth ≤ E.dp
  eq : ∀ a b, eqP (E.e a) (E.e b) = true ↔ a = b
  pl : ∀ a, Plain E.dp (E.e a)
def eI : Enc Int := ⟨.int, 0⟩
def eB : Enc Bool := ⟨.bl, 0⟩
def eN : Enc Unit := ⟨fun _ => .non, 0⟩
/-- any value at all -/
def eA : Enc PV := ⟨fun z => z, 0⟩
theorem okI : EncOk eI where
  lay _ := ⟨rfl, Nat.le_refl _⟩
  eq a b := by show (a == b) = true ↔ _; exact beq_iff_eq
  pl _ := .int _
theorem okB : EncOk eB where
  lay _ := ⟨rfl, Nat.le_refl _⟩
  eq a b := by show (a == b) = true ↔ _; exact beq_iff_eq
  pl _ := .bl _
theorem okN : EncOk eN where
  lay _ := ⟨rfl, Nat.le_refl _⟩
  eq a b := ⟨fun _ => rfl, fun _ => rfl⟩
  pl _ := .non
section
variable {α β γ δ : Type}
theorem EncOk.layAll {E : Enc α} (k : EncOk E) : ∀ xs : List α, PyData.canLayAll0 (toDs (xs.map E.e)) = true ∧ PyData.depthAll (toDs (xs.map E.e)) ≤ E.dp
  | [] => ⟨rfl, Nat.zero_le _⟩
  | x :: xs => by
    obtain ⟨h1, h2⟩ := k.layAll xs
    obtain ⟨h3, h4⟩ := k.lay x
    refine ⟨?_, ?_⟩
    · show ((E.e x).toD.canLay0 && PyData.canLayAll0 (toDs (xs.map E.e))) = true
      rw [h3, h1]; rfl
    · show max (E.e x).toD.depth (PyData.depthAll (toDs (xs.map E.e))) ≤ _
      omega
theorem EncOk.eqAll {E : Enc α} (k : EncOk E) : ∀ xs ys : List α, PyData.eqvAll (toDs (xs.map E.e)) (toDs (ys.map E.e)) = true ↔ xs = ys
  | [], [] => ⟨fun _ => rfl, fun _ => rfl⟩
  | [], _ :: _ => ⟨fun h => (by cases h), fun h => (by cases h)⟩
  | _ :: _, [] => ⟨fun h => (by cases h), fun h => (by cases h)⟩
  | x :: xs, y :: ys => by
    show (PyData.eqv (E.e x).toD (E.e y).toD && PyData.eqvAll (toDs (xs.map E.e)) (toDs (ys.map E.e))) = true ↔ _
    rw [Bool.and_eq_true, k.eqAll xs ys, List.cons.injEq]
    exact and_congr (k.eq x y) Iff.rfl
/-- lists, tuples of like things, pairs, triples -/
def eL (E : Enc α) : Enc (List α) := ⟨fun xs => .lst (xs.map E.e), E.dp + 1⟩
def eT (E : Enc α) : Enc (List α) := ⟨fun xs => .tup (xs.map E.e), E.dp + 1⟩
def e2 (A : Enc α) (B : Enc β) : Enc (α × β) := ⟨fun p => .tup [A.e p.1, B.e p.2], max A.dp B.dp + 1⟩
def e3 (A : Enc α) (B : Enc β) (G : Enc γ) : Enc (α × β × γ) := ⟨fun p => .tup [A.e p.1, B.e p.2.1, G.e p.2.2], max A.dp (max B.dp G.dp) + 1⟩
theorem okL {E : Enc α} (k : EncOk E) : EncOk (eL E) where
  lay xs := ⟨(k.layAll xs).1, by show PyData.depthAll (toDs (xs.map E.e)) + 1 ≤ E.dp + 1; have := (k.layAll xs).2; omega⟩
  eq xs ys := k.eqAll xs ys
  pl xs := .lst fun x hx => by obtain ⟨a, _, rfl⟩ := List.mem_map.mp hx; exact k.pl a
theorem okT {E : Enc α} (k : EncOk E) : EncOk (eT E) where
  lay xs := ⟨(k.layAll xs).1, by show PyData.depthAll (toDs (xs.map E.e)) + 1 ≤ E.dp + 1; have := (k.layAll xs).2; omega⟩
  eq xs ys := k.eqAll xs ys
  pl xs := .tup fun x hx => by obtain ⟨a, _, rfl⟩ := List.mem_map.mp hx; exact k.pl a
theorem ok2 {A : Enc α} {B : Enc β} (ka : EncOk A) (kb : EncOk B) : EncOk (e2 A B) where
  lay p := by
    obtain ⟨h1, h2⟩ := ka.lay p.1
    obtain ⟨h3, h4⟩ := kb.lay p.2
    refine ⟨?_, ?_⟩
    · show ((A.e p.1).toD.canLay0 && ((B.e p.2).toD.canLay0 && true)) = true
      rw [h1, h3]; rfl
    · show max (A.e p.1).toD.depth (max (B.e p.2).toD.depth 0) + 1 ≤ max A.dp B.dp + 1
      omega
  eq p q := by
    show (PyData.eqv (A.e p.1).toD (A.e q.1).toD && (PyData.eqv (B.e p.2).toD (B.e q.2).toD && true)) = true ↔ _
    rw [Bool.and_true, Bool.and_eq_true, Prod.ext_iff]
    exact and_congr (ka.eq _ _) (kb.eq _ _)
  pl p := .tup fun x hx => by
    have hx : x = A.e p.1 ∨ x = B.e p.2 := by simpa using hx
    rcases hx with rfl | rfl
    · exact (ka.pl _).mono (by show A.dp ≤ max A.dp B.dp; omega)
    · exact (kb.pl _).mono (by show B.dp ≤ max A.dp B.dp; omega)
theorem ok3 {A : Enc α} {B : Enc β} {G : Enc γ} (ka : EncOk A) (kb : EncOk B) (kg : EncOk G) : EncOk (e3 A B G) where
  lay p := by
    obtain ⟨h1, h2⟩ := ka.lay p.1
    obtain ⟨h3, h4⟩ := kb.lay p.2.1
    obtain ⟨h5, h6⟩ := kg.lay p.2.2
    refine ⟨?_, ?_⟩
    · show ((A.e p.1).toD.canLay0 && ((B.e p.2.1).toD.canLay0 && ((G.e p.2.2).toD.canLay0 && true))) = true
      rw [h1, h3, h5]; rfl
    · show max (A.e p.1).toD.depth (max (B.e p.2.1).toD.depth (max (G.e p.2.2).toD.depth 0)) + 1 ≤ max A.dp (max B.dp G.dp) + 1
      omega
  eq p q := by
    show (PyData.eqv (A.e p.1).toD (A.e q.1).toD && (PyData.eqv (B.e p.2.1).toD (B.e q.2.1).toD && (PyData.eqv (G.e p.2.2).toD (G.e q.2.2).toD && true))) = true ↔ _
    rw [Bool.and_true, Bool.and_eq_true, Bool.and_eq_true, Prod.ext_iff, Prod.ext_iff]
    exact and_congr (ka.eq _ _) (and_congr (kb.eq _ _) (kg.eq _ _))
  pl p := .tup fun x hx => by
    have hx : x = A.e p.1 ∨ x = B.e p.2.1 ∨ x = G.e p.2.2 := by simpa using hx
    rcases hx with rfl | rfl | rfl
    · exact (ka.pl _).mono (by show A.dp ≤ max A.dp (max B.dp G.dp); omega)
    · exact (kb.pl _).mono (by show B.dp ≤ max A.dp (max B.dp G.dp); omega)
    · exact (kg.pl _).mono (by show G.dp ≤ max A.dp (max B.dp G.dp); omega)
end
/-- a kind that None is none of -/
def PV.some_ : PV → Bool
  | .non => false
  | _ => true
section
variable {α β γ δ : Type}
def eOf (A : Enc α) : Option α → PV
  | none => .non
  | some a => A.e a
/-- None or a thing -/
def eO (A : Enc α) (hA : ∀ a, (A.e a).some_ = true) : Enc (Option α) := ⟨eOf A, A.dp⟩
theorem okO {A : Enc α} {hA : ∀ a, (A.e a).some_ = true} (k : EncOk A) : EncOk (eO A hA) where
  lay o := by
    cases o with
    | none => exact ⟨rfl, Nat.zero_le _⟩
    | some a => exact k.lay a
  eq o p := by
    have hn : ∀ x : PV, x.some_ = true → PyData.eqv PyData.none x.toD = false ∧ PyData.eqv x.toD PyData.none = false := fun x hx => by
      cases x <;> first | (cases hx; done) | exact ⟨rfl, rfl⟩
    cases o with
    | none =>
      cases p with
      | none => exact ⟨fun _ => rfl, fun _ => rfl⟩
      | some b =>
        show PyData.eqv PyData.none (A.e b).toD = true ↔ _
        rw [(hn _ (hA b)).1]
        exact ⟨fun h => (by cases h), fun h => (by cases h)⟩
    | some a =>
      cases p with
      | none =>
        show PyData.eqv (A.e a).toD PyData.none = true ↔ _
        rw [(hn _ (hA a)).2]
        exact ⟨fun h => (by cases h), fun h => (by cases h)⟩
      | some b =>
        rw [Option.some.injEq]
        exact k.eq a b
  pl o := by
    cases o with
    | none => exact .non
    | some a => exact k.pl a
theorem isnone_ok {A : Enc α} {hA : ∀ a, (A.e a).some_ = true} (o : Option α) : cmpF .is_ ((eO A hA).e o) .non = some o.isNone := by
  cases o with
  | none => rfl
  | some a =>
    show some (A.e a).isNon = some false
    have := hA a
    cases q : A.e a <;> first | rfl | (rw [q] at this; cases this)
theorem isnon_ok {A : Enc α} {hA : ∀ a, (A.e a).some_ = true} (o : Option α) : cmpF .isn ((eO A hA).e o) .non = some (!o.isNone) := by
  have := isnone_ok (A := A) (hA := hA) o
  have e : cmpF .isn ((eO A hA).e o) .non = (cmpF .is_ ((eO A hA).e o) .non).map (!·) := rfl
  rw [e, this]; rfl
theorem some_un {A : Enc α} {hA : ∀ a, (A.e a).some_ = true} {o : Option α} {a : α} (h : o = some a) : (eO A hA).e o = A.e a := by subst h; rfl
theorem EncOk.ok {E : Enc α} (k : EncOk E) (h : E.dp ≤ 64) (a : α) : okP (E.e a) = true := by
  obtain ⟨h1, h2⟩ := k.lay a
  show ((E.e a).toD.canLay0 && decide ((E.e a).toD.depth ≤ 64)) = true
  rw [h1, decide_eq_true (by omega)]; rfl
theorem EncOk.eqd [DecidableEq α] {E : Enc α} (k : EncOk E) (a b : α) : eqP (E.e a) (E.e b) = decide (a = b) := by
  rw [Bool.eq_iff_iff, k.eq, decide_eq_true_eq]
theorem eqE_ok [DecidableEq α] {E : Enc α} (k : EncOk E) (h : E.dp ≤ 64) (a b : α) : cmpF .eq (E.e a) (E.e b) = some (decide (a = b)) := by
  show eqF false _ _ = _
  unfold eqF
  rw [if_pos ⟨k.ok h a, k.ok h b⟩, k.eqd]; cases decide (a = b) <;> rfl
theorem neE_ok [DecidableEq α] {E : Enc α} (k : EncOk E) (h : E.dp ≤ 64) (a b : α) : cmpF .ne (E.e a) (E.e b) = some (!decide (a = b)) := by
  show eqF true _ _ = _
  unfold eqF
  rw [if_pos ⟨k.ok h a, k.ok h b⟩, k.eqd]; cases decide (a = b) <;> rfl
def memb [DecidableEq α] (a : α) (xs : List α) : Bool := decide (a ∈ xs)
theorem memb_iff [DecidableEq α] {a : α} {xs : List α} : memb a xs = true ↔ a ∈ xs := by unfold memb; exact decide_eq_true_iff
theorem any_eqd [DecidableEq α] {E : Enc α} (k : EncOk E) (a : α) : ∀ xs : List α, ((xs.map E.e).any fun y => eqP y (E.e a)) = decide (a ∈ xs)
  | [] => rfl
  | x :: xs => by
    rw [List.map_cons, List.any_cons, any_eqd k a xs, k.eqd, Bool.eq_iff_iff]
    simp only [Bool.or_eq_true, decide_eq_true_eq, List.mem_cons]
    constructor <;> rintro (h | h) <;> simp_all
theorem inL_ok [DecidableEq α] {E : Enc α} (k : EncOk E) (h : E.dp + 1 ≤ 64) (a : α) (xs : List α) : cmpF .inn (E.e a) ((eL E).e xs) = some (memb a xs) := by
  show (if okP (E.e a) = true ∧ okP (.lst (xs.map E.e)) = true then some ((xs.map E.e).any fun y => eqP y (E.e a)) else none) = _
  rw [if_pos ⟨k.ok (by omega) a, (okL k).ok h xs⟩, any_eqd k]; rfl
theorem inT_ok [DecidableEq α] {E : Enc α} (k : EncOk E) (h : E.dp + 1 ≤ 64) (a : α) (xs : List α) : cmpF .inn (E.e a) ((eT E).e xs) = some (memb a xs) := by
  show (if okP (E.e a) = true ∧ okP (.tup (xs.map E.e)) = true then some ((xs.map E.e).any fun y => eqP y (E.e a)) else none) = _
  rw [if_pos ⟨k.ok (by omega) a, (okT k).ok h xs⟩, any_eqd k]; rfl
theorem nin_of {p q : PV} {k : Bool} (h : cmpF .inn p q = some k) : cmpF .nin p q = some (!k) := by
  show (inF p q).map _ = _
  show (cmpF .inn p q).map _ = _
  rw [h]; rfl
/-! ints -/
def fmul (a b : Int) : Option Int := if mulOk a b = true then some (a * b) else none
def fmod (a b : Int) : Option Int := if 0 < b then some (a % b) else none
def fdiv (a b : Int) : Option Int := if 0 < b ∧ b.natAbs.log2 < 9000 then some (a / b) else none
def fpow (a b : Int) : Option Int := if powOk a b = true then some (a ^ b.toNat) else none
theorem fmul_ok {a b c : Int} (h : fmul a b = some c) : binF .mul (.int a) (.int b) = some (.int c, false) := by
  unfold fmul at h
  split at h
  · rename_i q
    cases h
    show (if mulOk a b = true then _ else _) = _
    rw [if_pos q]
  · cases h
theorem fmod_ok {a b c : Int} (h : fmod a b = some c) : binF .mod (.int a) (.int b) = some (.int c, false) := by
  unfold fmod at h
  split at h
  · rename_i q
    cases h
    simp only [binF, intF, q, decide_true, if_true]
  · cases h
theorem fdiv_ok {a b c : Int} (h : fdiv a b = some c) : binF .fdiv (.int a) (.int b) = some (.int c, false) := by
  unfold fdiv at h
  split at h
  · rename_i q
    cases h
    simp only [binF, intF, q.1, q.2, decide_true, Bool.and_self, if_true]
  · cases h
theorem fpow_ok {a b c : Int} (h : fpow a b = some c) : binF .pow (.int a) (.int b) = some (.int c, false) := by
  unfold fpow at h
  split at h
  · rename_i q
    cases h
    show (if powOk a b = true then _ else _) = _
    rw [if_pos q]
  · cases h
/-! lists -/
def fadd (xs ys : List α) : Option (List α) := if xs.length + ys.length ≤ sizeLine then some (xs ++ ys) else none
theorem faddL_ok {E : Enc α} {xs ys zs : List α} (h : fadd xs ys = some zs) : binF .add ((eL E).e xs) ((eL E).e ys) = some ((eL E).e zs, true) := by
  unfold fadd at h
  split at h
  · rename_i q
    cases h
    show addF (.lst _) (.lst _) = some (.lst _, true)
    simp only [addF, List.length_map, q, if_true, List.map_append]
  · cases h
theorem faddT_ok {E : Enc α} {xs ys zs : List α} (h : fadd xs ys = some zs) : binF .add ((eT E).e xs) ((eT E).e ys) = some ((eT E).e zs, false) := by
  unfold fadd at h
  split at h
  · rename_i q
    cases h
    show addF (.tup _) (.tup _) = some (.tup _, false)
    simp only [addF, List.length_map, q, if_true, List.map_append]
  · cases h
def frep (xs : List α) (j : Int) : Option (List α) := if inB j = true ∧ xs.length * j.toNat ≤ sizeLine then some (List.replicate j.toNat xs).flatten else none
theorem map_flat (f : α → β) (xs : List α) : ∀ n, (List.replicate n (xs.map f)).flatten = (List.replicate n xs).flatten.map f
  | 0 => rfl
  | n + 1 => by rw [List.replicate_succ, List.flatten_cons, map_flat f xs n, List.replicate_succ, List.flatten_cons, List.map_append]
theorem frep_ok {E : Enc α} {xs zs : List α} {j : Int} (h : frep xs j = some zs) : binF .mul ((eL E).e xs) (.int j) = some ((eL E).e zs, true) := by
  unfold frep at h
  split at h
  · rename_i q
    cases h
    show mulF (.lst _) (.int j) = some (.lst _, true)
    simp only [mulF, List.length_map, q, and_self, if_true, map_flat]
  · cases h
def frepT (xs : List α) (j : Int) : Option (List α) := if 0 < xs.length ∧ xs.length ≤ 1000 ∧ 1 ≤ j ∧ j ≤ 1000 then some (List.replicate j.toNat xs).flatten else none
theorem frepT_ok {E : Enc α} {xs zs : List α} {j : Int} (h : frepT xs j = some zs) : binF .mul ((eT E).e xs) (.int j) = some ((eT E).e zs, false) := by
  unfold frepT at h
  split at h
  · rename_i q
    cases h
    show mulF (.tup _) (.int j) = some (.tup _, false)
    simp only [mulF, List.length_map, q, and_self, if_true, map_flat]
  · cases h
def getI (xs : List α) (i : Int) : Option α := (L2.ixN xs.length i).bind fun j => xs[j]?
theorem getI_at {E : Enc α} {xs : List α} {i : Int} {x : α} (h : getI xs i = some x) : atP (xs.map E.e) i = some (E.e x) := by
  unfold getI at h
  unfold atP
  rw [List.length_map]
  cases q : L2.ixN xs.length i with
  | none => rw [q] at h; cases h
  | some j =>
    rw [q] at h
    show (xs.map E.e)[j]? = _
    have h : xs[j]? = some x := h
    rw [List.getElem?_map, h]; rfl
theorem getL_ok {E : Enc α} {xs : List α} {i : Int} {x : α} (h : getI xs i = some x) : idxF ((eL E).e xs) (.int i) = some (E.e x) := getI_at h
theorem getT_ok {E : Enc α} {xs : List α} {i : Int} {x : α} (h : getI xs i = some x) : idxF ((eT E).e xs) (.int i) = some (E.e x) := getI_at h
def setI (xs : List α) (i : Int) (x : α) : Option (List α) := (L2.ixN xs.length i).map fun j => xs.set j x
theorem setI_ok {E : Enc α} {xs ys : List α} {i : Int} {x : α} (h : setI xs i x = some ys) : setF ((eL E).e xs) (.int i) (E.e x) = some ((eL E).e ys) := by
  unfold setI at h
  show (L2.ixN (xs.map E.e).length i).map _ = _
  rw [List.length_map]
  cases q : L2.ixN xs.length i with
  | none => rw [q] at h; cases h
  | some j =>
    rw [q] at h
    cases h
    show some (PV.lst _) = some (PV.lst _)
    rw [List.map_set]
def cutI (xs : List α) (lo hi : Option Int) : List α := (xs.drop (HT.sIx xs.length 0 lo)).take (HT.sIx xs.length xs.length hi - HT.sIx xs.length 0 lo)
theorem cut_map (f : α → PV) (xs : List α) (lo hi : Option Int) : cutP (xs.map f) lo hi = (cutI xs lo hi).map f := by
  unfold cutP cutI
  rw [List.length_map, List.map_take, List.map_drop]
theorem cutL_ok {E : Enc α} (xs : List α) (lo hi : Option Int) : slcF ((eL E).e xs) lo hi = some ((eL E).e (cutI xs lo hi), true) := by
  show some (PV.lst _, true) = some (PV.lst _, true)
  rw [cut_map]
theorem cutT_ok {E : Enc α} (xs : List α) (lo hi : Option Int) : slcF ((eT E).e xs) lo hi = some ((eT E).e (cutI xs lo hi), false) := by
  show some (PV.tup _, false) = some (PV.tup _, false)
  rw [cut_map]
theorem ints_map : ∀ xs : List Int, asInts (xs.map eI.e) = some xs
  | [] => rfl
  | x :: xs => by
    show (asInts (xs.map eI.e)).map (x :: ·) = _
    rw [ints_map xs]; rfl
theorem bools_map : ∀ xs : List Bool, asBools (xs.map eB.e) = some xs
  | [] => rfl
  | x :: xs => by
    show (asBools (xs.map eB.e)).map (x :: ·) = _
    rw [bools_map xs]; rfl
theorem lenL_ok {E : Enc α} (xs : List α) : biF .len [(eL E).e xs] = some (.int (xs.length : Int), false) := by
  show some (PV.int ((xs.map E.e).length : Int), false) = _
  rw [List.length_map]
theorem lenT_ok {E : Enc α} (xs : List α) : biF .len [(eT E).e xs] = some (.int (xs.length : Int), false) := by
  show some (PV.int ((xs.map E.e).length : Int), false) = _
  rw [List.length_map]
theorem lenS_ok (xs : List Int) : biF .len [.set xs] = some (.int (xs.length : Int), false) := rfl
theorem sumL_ok (xs : List Int) : biF .sum [(eL eI).e xs] = some (.int xs.sum, false) := by
  show (asInts (xs.map eI.e)).map _ = _
  rw [ints_map]; rfl
theorem sumT_ok (xs : List Int) : biF .sum [(eT eI).e xs] = some (.int xs.sum, false) := by
  show (asInts (xs.map eI.e)).map _ = _
  rw [ints_map]; rfl
def fmin : List Int → Option Int
  | [] => none
  | n :: ns => some (minL n ns)
def fmax : List Int → Option Int
  | [] => none
  | n :: ns => some (maxL n ns)
theorem fmin_ok {xs : List Int} {m : Int} (h : fmin xs = some m) : biF .min [(eL eI).e xs] = some (.int m, false) := by
  cases xs with
  | nil => cases h
  | cons n ns =>
    cases h
    show minF [.lst _] = _
    simp only [minF, ints_map]
theorem fmax_ok {xs : List Int} {m : Int} (h : fmax xs = some m) : biF .max [(eL eI).e xs] = some (.int m, false) := by
  cases xs with
  | nil => cases h
  | cons n ns =>
    cases h
    show maxF [.lst _] = _
    simp only [maxF, ints_map]
theorem min2_ok (i j : Int) : biF .min [.int i, .int j] = some (.int (if j < i then j else i), false) := rfl
theorem max2_ok (i j : Int) : biF .max [.int i, .int j] = some (.int (if i < j then j else i), false) := rfl
theorem absB_ok (i : Int) : biF .abs [.int i] = some (.int (if i < 0 then -i else i), false) := rfl
theorem allB_ok (xs : List Bool) : biF .all [(eL eB).e xs] = some (.bl (xs.all id), false) := by
  show (asBools (xs.map eB.e)).map _ = _
  rw [bools_map]; rfl
theorem anyB_ok (xs : List Bool) : biF .any [(eL eB).e xs] = some (.bl (xs.any id), false) := by
  show (asBools (xs.map eB.e)).map _ = _
  rw [bools_map]; rfl
theorem sortL_ok (xs : List Int) : biF .sorted [(eL eI).e xs] = some ((eL eI).e (isort xs), true) := by
  show (match asInts (xs.map eI.e) with
    | some ns => some (PV.lst ((isort ns).map PV.int), true)
    | none => (asTups (xs.map eI.e)).map fun ls => (PV.lst ((isortL ls).map fun (l : List Int) => PV.tup (l.map PV.int)), true)) = _
  rw [ints_map]; rfl
theorem sortT_ok (xs : List Int) : biF .sorted [(eT eI).e xs] = some ((eL eI).e (isort xs), true) := by
  show (asInts (xs.map eI.e)).map _ = _
  rw [ints_map]; rfl
/-- tuples of ints, sorted -/
def fsrtL (xs : List (List Int)) : Option (List (List Int)) := if (xs.all fun x => !x.isEmpty) = true then some (isortL xs) else none
theorem asTups_map : ∀ {xs : List (List Int)}, (xs.all fun x => !x.isEmpty) = true → asTups (xs.map (eT eI).e) = some xs
  | [], _ => rfl
  | [] :: xs, h => by simp at h
  | (n :: ns) :: xs, h => by
    rw [List.all_cons, Bool.and_eq_true] at h
    have e : asInts ((n :: ns).map eI.e) = some (n :: ns) := ints_map (n :: ns)
    show (match asInts ((n :: ns).map eI.e) with
      | some (n :: ns) => (asTups (xs.map (eT eI).e)).map ((n :: ns) :: ·)
      | _ => none) = _
    rw [e, asTups_map h.2]; rfl
theorem sort_tups {ps : List PV} (hi : ∀ p ∈ ps, ∃ q, p = .tup q) {ls : List (List Int)} (e : asTups ps = some ls) : biF .sorted [.lst ps] = some (PV.lst ((isortL ls).map fun (l : List Int) => PV.tup (l.map PV.int)), true) := by
  show (match asInts ps with
    | some ns => some (PV.lst ((isort ns).map PV.int), true)
    | none => (asTups ps).map fun ls => (PV.lst ((isortL ls).map fun (l : List Int) => PV.tup (l.map PV.int)), true)) = _
  cases ps with
  | nil => cases e; rfl
  | cons p ps =>
    obtain ⟨q, rfl⟩ := hi p (List.mem_cons_self ..)
    rw [show asInts (PV.tup q :: ps) = none from rfl, e]; rfl
theorem srtL_ok {xs ys : List (List Int)} (h : fsrtL xs = some ys) : biF .sorted [(eL (eT eI)).e xs] = some ((eL (eT eI)).e ys, true) := by
  unfold fsrtL at h
  split at h
  · rename_i q
    cases h
    exact sort_tups (fun p hp => by obtain ⟨x, _, rfl⟩ := List.mem_map.mp hp; exact ⟨_, rfl⟩) (asTups_map q)
  · cases h
def pl (p : Int × Int) : List Int := [p.1, p.2]
def insQ (x : Int × Int) : List (Int × Int) → List (Int × Int)
  | [] => [x]
  | y :: r => if lexI (pl y) (pl x) = true then y :: insQ x r else x :: y :: r
/-- pairs of ints, sorted -/
def isortQ : List (Int × Int) → List (Int × Int)
  | [] => []
  | x :: r => insQ x (isortQ r)
theorem insQ_map (x : Int × Int) : ∀ l : List (Int × Int), insL (pl x) (l.map pl) = (insQ x l).map pl
  | [] => rfl
  | y :: r => by
    show (if lexI (pl y) (pl x) = true then pl y :: insL (pl x) (r.map pl) else pl x :: pl y :: r.map pl) = (if lexI (pl y) (pl x) = true then y :: insQ x r else x :: y :: r).map pl
    split
    · rw [insQ_map x r]; rfl
    · rfl
theorem isortQ_map : ∀ l : List (Int × Int), isortL (l.map pl) = (isortQ l).map pl
  | [] => rfl
  | x :: r => by
    show insL (pl x) (isortL (r.map pl)) = (insQ x (isortQ r)).map pl
    rw [isortQ_map r, insQ_map]
theorem srtQ_ok (xs : List (Int × Int)) : biF .sorted [(eL (e2 eI eI)).e xs] = some ((eL (e2 eI eI)).e (isortQ xs), true) := by
  have e : asTups (xs.map (e2 eI eI).e) = some (xs.map pl) := by
    have h := asTups_map (xs := xs.map pl) (by simp [pl])
    rw [List.map_map] at h
    exact h
  refine (sort_tups (fun p hp => by obtain ⟨x, _, rfl⟩ := List.mem_map.mp hp; exact ⟨_, rfl⟩) e).trans ?_
  rw [isortQ_map, List.map_map]; rfl
theorem sortS_ok (xs : List Int) : biF .sorted [.set xs] = some ((eL eI).e (isort xs), true) := rfl
def fset (xs : List Int) : Option (List Int) := if (dedup xs).length + 1 < scanBound then some (dedup xs) else none
theorem fsetL_ok {xs ys : List Int} (h : fset xs = some ys) : biF .set [(eL eI).e xs] = some (.set ys, true) := by
  unfold fset at h
  split at h
  · rename_i q
    cases h
    show setBi [.lst _] = _
    simp only [setBi, seqInts, ints_map]
    exact if_pos q
  · cases h
def fsetT (xs : List Int) : Option (List Int) := if xs.length + 1 < scanBound then some (dedup xs) else none
theorem fsetT_ok {xs ys : List Int} (h : fsetT xs = some ys) : biF .set [(eT eI).e xs] = some (.set ys, true) := by
  unfold fsetT at h
  split at h
  · rename_i q
    cases h
    show setBi [.tup _] = _
    simp only [setBi, seqInts, ints_map]
    exact if_pos q
  · cases h
theorem inS_ok (x : Int) (xs : List Int) : cmpF .inn (.int x) (.set xs) = some (memb x xs) := by
  show some (xs.contains x) = _
  congr 1
  unfold memb
  rw [Bool.eq_iff_iff, List.contains_iff_mem, decide_eq_true_eq]
theorem tupL_ok {E : Enc α} (xs : List α) : biF .tuple [(eL E).e xs] = some ((eT E).e xs, false) := rfl
theorem tupT_ok {E : Enc α} (xs : List α) : biF .tuple [(eT E).e xs] = some ((eT E).e xs, false) := rfl
theorem lstL_ok {E : Enc α} (xs : List α) : biF .list [(eL E).e xs] = some ((eL E).e xs, true) := rfl
theorem lstT_ok {E : Enc α} (xs : List α) : biF .list [(eT E).e xs] = some ((eL E).e xs, true) := rfl
/-- range as a thing, walked -/
def frng (lo hi : Int) : Option (List Int) := if inB lo = true ∧ inB hi = true ∧ (hi - lo).toNat ≤ sizeLine then some (rngL lo hi) else none
theorem frngT_ok {lo hi : Int} {xs : List Int} (h : frng lo hi = some xs) : biF .tuple [.rng lo hi] = some ((eT eI).e xs, false) := by
  unfold frng at h
  split at h
  · rename_i q
    cases h
    show tupleF [.rng lo hi] = _
    simp only [tupleF, q, and_self, if_true]
    rfl
  · cases h
theorem frngL_ok {lo hi : Int} {xs : List Int} (h : frng lo hi = some xs) : biF .list [.rng lo hi] = some ((eL eI).e xs, true) := by
  unfold frng at h
  split at h
  · rename_i q
    cases h
    show listF [.rng lo hi] = _
    simp only [listF, q, and_self, if_true]
    rfl
  · cases h
def mkr (lo hi : Int) : Option Unit := if inB lo = true ∧ inB hi = true then some () else none
theorem inB0 : inB 0 = true := by decide
theorem mkr1_ok {hi : Int} {u : Unit} (h : mkr 0 hi = some u) : biF .range [.int hi] = some (.rng 0 hi, false) := by
  unfold mkr at h
  split at h
  · rename_i q
    show rangeF [.int hi] = _
    simp only [rangeF, q.2, if_true]
  · cases h
theorem mkr2_ok {lo hi : Int} {u : Unit} (h : mkr lo hi = some u) : biF .range [.int lo, .int hi] = some (.rng lo hi, false) := by
  unfold mkr at h
  split at h
  · rename_i q
    show rangeF [.int lo, .int hi] = _
    simp only [rangeF, q, and_self, if_true]
  · cases h
/-- range in a for -/
def frg (lo hi : Int) : Option (List Int) := if inB lo = true ∧ inB hi = true then some (rngL lo hi) else none
theorem frg1_ok {hi : Int} {xs : List Int} (h : frg 0 hi = some xs) : rngIF [hi] = some xs := by
  unfold frg at h
  split at h
  · rename_i q
    cases h
    simp only [rngIF, q.2, if_true]
  · cases h
theorem frg2_ok {lo hi : Int} {xs : List Int} (h : frg lo hi = some xs) : rngIF [lo, hi] = some xs := by
  unfold frg at h
  split at h
  · rename_i q
    cases h
    simp only [rngIF, q, and_self, if_true]
  · cases h
def frg3 (lo hi k : Int) : Option (List Int) := if (k ≠ 0 ∧ k.natAbs < 1073741824) ∧ Builtin.Range.small lo hi k = true then some (stepL lo k (Builtin.Range.rangeSize lo hi k).toNat) else none
theorem frg3_ok {lo hi k : Int} {xs : List Int} (h : frg3 lo hi k = some xs) : rngIF [lo, hi, k] = some xs := by
  unfold frg3 at h
  split at h
  · rename_i q
    cases h
    simp only [rngIF]
    rw [if_pos q]
  · cases h
theorem appH_ok {xs : List PV} {x : PV} (h : Nat.ble xs.length 1000 = true) : mutF .append (.lst xs) [x] = some (.lst (xs ++ [x]), .non) := by
  show (if xs.length < sizeLine then some (PV.lst (xs ++ [x]), PV.non) else none) = _
  rw [if_pos (by have := Nat.le_of_ble_eq_true h; unfold sizeLine; omega)]
def fapp (xs : List α) (x : α) : Option (List α) := if xs.length < sizeLine then some (xs ++ [x]) else none
theorem fapp_ok {E : Enc α} {xs ys : List α} {x : α} (h : fapp xs x = some ys) : mutF .append ((eL E).e xs) [E.e x] = some ((eL E).e ys, .non) := by
  unfold fapp at h
  split at h
  · rename_i q
    cases h
    show appendF (.lst _) [_] = some (.lst _, _)
    simp only [appendF, List.length_map, q, if_true, List.map_append]
    rfl
  · cases h
def fpop (xs : List α) (i : Int) : Option (α × List α) := if inB i = true then (L2.ixN xs.length i).bind fun j => (xs[j]?).map fun y => (y, xs.eraseIdx j) else none
theorem map_erase (f : α → β) : ∀ (xs : List α) (j : Nat), (xs.map f).eraseIdx j = (xs.eraseIdx j).map f
  | [], _ => rfl
  | x :: xs, 0 => rfl
  | x :: xs, j + 1 => by show f x :: (xs.map f).eraseIdx j = f x :: _; rw [map_erase f xs j]
theorem fpop_ok {E : Enc α} {xs ys : List α} {i : Int} {x : α} (h : fpop xs i = some (x, ys)) : mutF .pop ((eL E).e xs) [.int i] = some ((eL E).e ys, E.e x) := by
  unfold fpop at h
  split at h
  · rename_i q
    show popF (.lst _) [.int i] = _
    simp only [popF, q, if_true, List.length_map]
    cases q1 : L2.ixN xs.length i with
    | none => rw [q1] at h; cases h
    | some j =>
      rw [q1] at h
      have h : (xs[j]?).map (fun y => (y, xs.eraseIdx j)) = some (x, ys) := h
      cases q2 : xs[j]? with
      | none => rw [q2] at h; cases h
      | some y =>
        rw [q2] at h
        cases h
        simp only [List.getElem?_map, q2, Option.map_some, map_erase]
        rfl
  · cases h
def fpopL (xs : List α) : Option (α × List α) := (xs.getLast?).map fun y => (y, xs.dropLast)
theorem fpopL_ok {E : Enc α} {xs ys : List α} {x : α} (h : fpopL xs = some (x, ys)) : mutF .pop ((eL E).e xs) [] = some ((eL E).e ys, E.e x) := by
  unfold fpopL at h
  show popF (.lst _) [] = _
  simp only [popF, List.getLast?_map]
  cases q : xs.getLast? with
  | none => rw [q] at h; cases h
  | some y =>
    rw [q] at h
    cases h
    simp only [Option.map_some, ← List.map_dropLast]
    rfl
/-! what is walked: two lists side by side, numbered -/
theorem zip_map (A : Enc α) (B : Enc β) : ∀ (xs : List α) (ys : List β), zipP (xs.map A.e) (ys.map B.e) = (xs.zip ys).map (e2 A B).e
  | [], ys => by cases ys <;> rfl
  | x :: xs, [] => rfl
  | x :: xs, y :: ys => by
    show PV.tup [A.e x, B.e y] :: zipP (xs.map A.e) (ys.map B.e) = _
    rw [zip_map A B xs ys]; rfl
def numb (n : Nat) : List α → List (Int × α)
  | [] => []
  | x :: xs => ((n : Nat), x) :: numb (n + 1) xs
theorem enum_map (A : Enc α) : ∀ (xs : List α) (n : Nat), enumP n (xs.map A.e) = (numb n xs).map (e2 eI A).e
  | [], _ => rfl
  | x :: xs, n => by
    show PV.tup [.int n, A.e x] :: enumP (n + 1) (xs.map A.e) = _
    rw [enum_map A xs (n + 1)]; rfl
end
/-! loops -/
section
variable {α β γ σ ρ : Type}
def forO (f : α → σ → Option σ) : List α → σ → Option σ
  | [], s => some s
  | x :: xs, s => (f x s).bind (forO f xs)
def forR (f : α → σ → Option (σ ⊕ ρ)) : List α → σ → Option (σ ⊕ ρ)
  | [], s => some (.inl s)
  | x :: xs, s => (f x s).bind fun r => match r with
    | .inl s => forR f xs s
    | .inr r => some (.inr r)
theorem forGo_O {turn : PV → En → Option Fl} {J : σ → En → Prop} {enc : α → PV} {f : α → σ → Option σ} : ∀ {xs : List α} {s s' : σ} {env : En}, (∀ x ∈ xs, ∀ (s s' : σ) (env : En), J s env → f x s = some s' → ∃ env', turn (enc x) env = some (.nx env') ∧ J s' env') → J s env → forO f xs s = some s' → ∃ env', forGo turn (xs.map enc) env = some (.nx env') ∧ J s' env'
  | [], s, s', env, _, h, e => by cases e; exact ⟨env, rfl, h⟩
  | x :: xs, s, s', env, ht, h, e => by
    obtain ⟨s1, h1, h2⟩ := bd e
    obtain ⟨env1, h3, h4⟩ := ht x (List.mem_cons_self ..) s s1 env h h1
    obtain ⟨env2, h5, h6⟩ := forGo_O (xs := xs) (fun y hy => ht y (List.mem_cons_of_mem _ hy)) h4 h2
    exact ⟨env2, by rw [List.map_cons]; simp only [forGo, h3, h5], h6⟩
/-- how a turn that may return ends -/
def TurnR (J : σ → En → Prop) (K : ρ → Fl → Prop) : σ ⊕ ρ → Fl → Prop
  | .inl s, fl => ∃ env', fl = .nx env' ∧ J s env'
  | .inr r, fl => (∃ p k env', fl = .rt p k env') ∧ K r fl
theorem forGo_R {turn : PV → En → Option Fl} {J : σ → En → Prop} {K : ρ → Fl → Prop} {enc : α → PV} {f : α → σ → Option (σ ⊕ ρ)} : ∀ {xs : List α} {s : σ} {r : σ ⊕ ρ} {env : En}, (∀ x ∈ xs, ∀ (s : σ) (r : σ ⊕ ρ) (env : En), J s env → f x s = some r → ∃ fl, turn (enc x) env = some fl ∧ TurnR J K r fl) → J s env → forR f xs s = some r → ∃ fl, forGo turn (xs.map enc) env = some fl ∧ TurnR J K r fl
  | [], s, r, env, _, h, e => by cases e; exact ⟨_, rfl, env, rfl, h⟩
  | x :: xs, s, r, env, ht, h, e => by
    obtain ⟨r1, h1, h2⟩ := bd e
    obtain ⟨fl, h3, h4⟩ := ht x (List.mem_cons_self ..) s r1 env h h1
    cases r1 with
    | inl s1 =>
      obtain ⟨env1, rfl, h4⟩ := h4
      obtain ⟨fl2, h5, h6⟩ := forGo_R (xs := xs) (fun y hy => ht y (List.mem_cons_of_mem _ hy)) h4 h2
      exact ⟨fl2, by rw [List.map_cons]; simp only [forGo, h3, h5], h6⟩
    | inr v =>
      obtain ⟨⟨p, k, env', rfl⟩, h4⟩ := h4
      have h2 : some (Sum.inr v) = some r := h2
      cases h2
      exact ⟨_, by rw [List.map_cons]; simp only [forGo, h3], ⟨_, _, _, rfl⟩, h4⟩
def turnsN (f : σ → Option (σ ⊕ ρ)) : Nat → σ → Option ρ
  | 0, _ => none
  | n + 1, s => (f s).bind fun r => match r with
    | .inl s => turnsN f n s
    | .inr r => some r
open Classical in
/-- a while: what some number of turns comes to -/
noncomputable def limN (f : σ → Option (σ ⊕ ρ)) (s : σ) : Option ρ := if h : ∃ (r : ρ) (n : Nat), turnsN f n s = some r then some h.choose else none
theorem limN_ok {f : σ → Option (σ ⊕ ρ)} {s : σ} {r : ρ} (h : limN f s = some r) : ∃ n, turnsN f n s = some r := by
  unfold limN at h
  split at h
  · rename_i q
    cases h
    exact q.choose_spec
  · cases h
theorem turnsN_mono {f : σ → Option (σ ⊕ ρ)} : ∀ {n m : Nat} {s : σ} {r : ρ}, turnsN f n s = some r → n ≤ m → turnsN f m s = some r
  | 0, _, _, _, h, _ => by cases h
  | n + 1, 0, _, _, _, h => by omega
  | n + 1, m + 1, s, r, h, hm => by
    obtain ⟨x, h1, h2⟩ := bd h
    unfold turnsN
    rw [h1]
    cases x with
    | inl s1 => exact turnsN_mono (n := n) (m := m) h2 (by omega)
    | inr v => exact h2
theorem limN_of {f : σ → Option (σ ⊕ ρ)} {s : σ} {r : ρ} (n : Nat) (h : turnsN f n s = some r) : limN f s = some r := by
  have q : ∃ (r : ρ) (n : Nat), turnsN f n s = some r := ⟨r, n, h⟩
  unfold limN
  rw [dif_pos q]
  obtain ⟨m, hm⟩ := q.choose_spec
  have a := turnsN_mono hm (Nat.le_max_left m n)
  have b := turnsN_mono h (Nat.le_max_right m n)
  rw [a] at b
  exact b
theorem limN_step {f : σ → Option (σ ⊕ ρ)} {s s' : σ} (h : f s = some (.inl s')) : limN f s = limN f s' := by
  cases q : limN f s' with
  | some r =>
    obtain ⟨n, hn⟩ := limN_ok q
    exact limN_of (n + 1) (by unfold turnsN; rw [h]; exact hn)
  | none =>
    cases q2 : limN f s with
    | none => rfl
    | some r =>
      obtain ⟨n, hn⟩ := limN_ok q2
      cases n with
      | zero => cases hn
      | succ n =>
        unfold turnsN at hn
        rw [h] at hn
        have := limN_of n (show turnsN f n s' = some r from hn)
        rw [q] at this; cases this
theorem limN_stop {f : σ → Option (σ ⊕ ρ)} {s : σ} {r : ρ} (h : f s = some (.inr r)) : limN f s = some r := limN_of 1 (by unfold turnsN; rw [h]; rfl)
/-- how a while's turn ends -/
def TurnW (J : σ → En → Prop) (K : ρ → Fl → Prop) : σ ⊕ ρ → Sum En Fl → Prop
  | .inl s, z => ∃ env', z = .inl env' ∧ J s env'
  | .inr r, z => ∃ fl, z = .inr fl ∧ K r fl
theorem lim_N {g : En → Option (Sum En Fl)} {J : σ → En → Prop} {K : ρ → Fl → Prop} {f : σ → Option (σ ⊕ ρ)} (ht : ∀ (s : σ) (r : σ ⊕ ρ) (env : En), J s env → f s = some r → ∃ z, g env = some z ∧ TurnW J K r z) {s : σ} {r : ρ} {env : En} (h : J s env) (e : limN f s = some r) : ∃ fl, lim g env = some fl ∧ K r fl := by
  obtain ⟨n, hn⟩ := limN_ok e
  clear e
  induction n generalizing s env with
  | zero => cases hn
  | succ n ih =>
    obtain ⟨x, h1, h2⟩ := bd hn
    obtain ⟨z, h3, h4⟩ := ht s x env h h1
    cases x with
    | inl s1 =>
      obtain ⟨env', rfl, h4⟩ := h4
      obtain ⟨fl, h5, h6⟩ := ih h4 h2
      exact ⟨fl, by rw [lim_step h3]; exact h5, h6⟩
    | inr v =>
      obtain ⟨fl, rfl, h4⟩ := h4
      have h2 : some v = some r := h2
      cases h2
      exact ⟨fl, lim_stop h3, h4⟩
/-! comprehensions -/
def fmO (f : α → Option (Option β)) : List α → Option (List β)
  | [] => some []
  | x :: xs => (f x).bind fun y => (fmO f xs).bind fun ys => some (match y with | some y => y :: ys | none => ys)
def lcO (f : α → σ → Option (Option β × σ)) : List α → σ → Option (List β × σ)
  | [], s => some ([], s)
  | x :: xs, s => (f x s).bind fun y => (lcO f xs y.2).bind fun ys => some (match y.1 with | some y => (y :: ys.1, ys.2) | none => ys)
theorem lcGo_fm {turn : PV → En → Option (Option PV × En)} {A : α → PV} {B : β → PV} {f : α → Option (Option β)} {env : En} : ∀ {xs : List α} {ys : List β}, (∀ x ∈ xs, ∀ o, f x = some o → ∃ o' e', turn (A x) env = some (o', e') ∧ o' = o.map B ∧ e' = env) → fmO f xs = some ys → lcGo turn (xs.map A) env = some (ys.map B, env)
  | [], ys, _, e => by cases e; rfl
  | x :: xs, ys, ht, e => by
    obtain ⟨o, h1, h2⟩ := bd e
    obtain ⟨zs, h3, h4⟩ := bd h2
    have ih := lcGo_fm (xs := xs) (fun y hy => ht y (List.mem_cons_of_mem _ hy)) h3
    obtain ⟨_, _, h5, rfl, rfl⟩ := ht x (List.mem_cons_self ..) o h1
    rw [List.map_cons]
    cases o with
    | none => cases h4; simp only [lcGo, h5, Option.map_none, ih]
    | some y => cases h4; simp only [lcGo, h5, Option.map_some, ih, List.map_cons]
theorem lcGo_lc {turn : PV → En → Option (Option PV × En)} {A : α → PV} {B : β → PV} {f : α → σ → Option (Option β × σ)} {J : σ → En → Prop} : ∀ {xs : List α} {s : σ} {ys : List β × σ} {env : En}, (∀ x ∈ xs, ∀ (s : σ) (o : Option β × σ) (env : En), J s env → f x s = some o → ∃ o' e', turn (A x) env = some (o', e') ∧ o' = o.1.map B ∧ J o.2 e') → J s env → lcO f xs s = some ys → ∃ e', lcGo turn (xs.map A) env = some (ys.1.map B, e') ∧ J ys.2 e'
  | [], s, ys, env, _, h, e => by cases e; exact ⟨env, rfl, h⟩
  | x :: xs, s, ys, env, ht, h, e => by
    obtain ⟨o, h1, h2⟩ := bd e
    obtain ⟨zs, h3, h4⟩ := bd h2
    obtain ⟨o', e', h5, h6, h7⟩ := ht x (List.mem_cons_self ..) s o env h h1
    obtain ⟨e2, h8, h9⟩ := lcGo_lc (xs := xs) (fun y hy => ht y (List.mem_cons_of_mem _ hy)) h7 h3
    rw [List.map_cons]
    obtain ⟨o, s1⟩ := o
    subst h6
    cases o with
    | none => cases h4; exact ⟨e2, by simp only [lcGo, h5, Option.map_none, h8], h9⟩
    | some y => cases h4; exact ⟨e2, by simp only [lcGo, h5, Option.map_some, h8, List.map_cons], h9⟩
theorem fmO_map (g : α → β) : ∀ xs : List α, fmO (fun x => some (some (g x))) xs = some (xs.map g)
  | [] => rfl
  | x :: xs => by
    unfold fmO
    rw [fmO_map g xs]; rfl
theorem fmO_fil (c : α → Bool) (g : α → β) : ∀ xs : List α, fmO (fun x => some (if c x = true then some (g x) else none)) xs = some ((xs.filter c).map g)
  | [] => rfl
  | x :: xs => by
    unfold fmO
    rw [fmO_fil c g xs, List.filter_cons]
    cases c x <;> rfl
theorem fmO_len {f : α → Option (Option β)} : ∀ {xs : List α} {ys : List β}, fmO f xs = some ys → ys.length ≤ xs.length
  | [], ys, e => by cases e; exact Nat.le_refl _
  | x :: xs, ys, e => by
    obtain ⟨o, h1, h2⟩ := bd e
    obtain ⟨zs, h3, h4⟩ := bd h2
    have := fmO_len h3
    cases o <;> cases h4 <;> simp <;> omega
def szO (xs : List α) : Option Unit := if xs.length ≤ sizeLine then some () else none
theorem szO_ok {xs : List α} {u : Unit} (h : szO xs = some u) (f : α → PV) : (xs.map f).length ≤ sizeLine := by
  unfold szO at h
  split at h
  · rw [List.length_map]; assumption
  · cases h
end
section
variable {M : Nat → List Md} {C : Cl} {pm : List Nat} {env : En}
def EvIfs (M : Nat → List Md) (C : Cl) (es : List E) (env : En) (Q : Bool → En → Prop) : Prop := ∃ k e1, evIfs M C es env = some (k, e1) ∧ Q k e1
theorem EvIfs_nil {Q : Bool → En → Prop} (q : Q true env) : EvIfs M C [] env Q := ⟨_, _, rfl, q⟩
theorem EvIfs_cons {Q : Bool → En → Prop} {e : E} {es : List E} (h : Ev M C e env fun x e1 => ∃ k, deref e1 x = some (.bl k) ∧ (k = true → EvIfs M C es e1 Q) ∧ (k = false → Q false e1)) : EvIfs M C (e :: es) env Q := by
  obtain ⟨x, e1, h1, k, h2, h3, h4⟩ := h
  cases k with
  | true =>
    obtain ⟨k, e2, h5, h6⟩ := h3 rfl
    exact ⟨k, e2, by simp only [evIfs, h1, h2, h5], h6⟩
  | false => exact ⟨false, e1, by simp only [evIfs, h1, h2], h4 rfl⟩
theorem turn_of {tg : Tg} {ifs : List E} {elt : E} {z : PV} {vs : List Nat} {e1 : En} {Q : Option PV → En → Prop} (hb : bindTg [] tg z env = some e1) (h : EvIfs M C ifs e1 fun k e2 => (k = true → Ev M C elt e2 fun o e3 => ∃ y e4, consume e3 o = some (y, e4) ∧ Q (some y) (wipeE e4 vs)) ∧ (k = false → Q none (wipeE e2 vs))) : ∃ o' e', turn1F M C vs tg ifs elt z env = some (o', e') ∧ Q o' e' := by
  obtain ⟨k, e2, h1, h2, h3⟩ := h
  cases k with
  | true =>
    obtain ⟨o, e3, h4, y, e4, h5, h6⟩ := h2 rfl
    exact ⟨_, _, by simp only [turn1F, hb, h1, h4, h5], h6⟩
  | false => exact ⟨_, _, by simp only [turn1F, hb, h1], h3 rfl⟩
theorem forT_of {tg : Tg} {b : List S} {z : PV} {e1 : En} {R : Fl → Prop} (hb : bindTg pm tg z env = some e1) (h : Exs M C pm b e1 R) : ∃ fl, forT M C lim pm tg b z env = some fl ∧ R fl := by
  obtain ⟨fl, h1, h2⟩ := h
  exact ⟨fl, by simp only [forT, hb, h1], h2⟩
theorem whlT_of {c : E} {b : List S} {Q : Sum En Fl → Prop} (h : Ev M C c env fun x e1 => ∃ k, deref e1 x = some (.bl k) ∧ (k = true → Exs M C pm b e1 fun fl => match fl with | .nx e2 => Q (.inl e2) | fl => Q (.inr fl)) ∧ (k = false → Q (.inr (.nx e1)))) : ∃ z, whlT M C lim pm c b env = some z ∧ Q z := by
  obtain ⟨x, e1, h1, k, h2, h3, h4⟩ := h
  cases k with
  | true =>
    obtain ⟨fl, h5, h6⟩ := h3 rfl
    cases fl with
    | nx e2 => exact ⟨_, by simp only [whlT, h1, h2, h5], h6⟩
    | rt p k e2 => exact ⟨_, by simp only [whlT, h1, h2, h5], h6⟩
  | false => exact ⟨_, by simp only [whlT, h1, h2], h4 rfl⟩
end
end L2.Pz
set_option Elab.async false
set_option linter.all false
set_option maxRecDepth 100000
set_option maxHeartbeats 4000000
namespace L2.Pz
set_option autoImplicit false
open PySem hiding run
open L2

/-! ## Gx2: what the printed walks lean on -/
section
variable {α β γ σ ρ : Type}
def mapS (f : α → β) (xs : List α) : Option (List β) := if xs.length ≤ sizeLine then some (xs.map f) else none
def filS (c : α → Bool) (f : α → β) (xs : List α) : Option (List β) := if xs.length ≤ sizeLine then some ((xs.filter c).map f) else none
def fmS (f : α → Option (Option β)) (xs : List α) : Option (List β) := if xs.length ≤ sizeLine then fmO f xs else none
def lcS (f : α → σ → Option (Option β × σ)) (xs : List α) (s : σ) : Option (List β × σ) := if xs.length ≤ sizeLine then lcO f xs s else none
theorem mapS_fm {f : α → β} {xs : List α} {ys : List β} (h : mapS f xs = some ys) : fmO (fun x => some (some (f x))) xs = some ys := by
  unfold mapS at h
  split at h
  · cases h; exact fmO_map f xs
  · cases h
theorem mapS_sz {f : α → β} {xs : List α} {ys : List β} (h : mapS f xs = some ys) {B : β → PV} : (ys.map B).length ≤ sizeLine := by
  unfold mapS at h
  split at h
  · cases h; rw [List.length_map, List.length_map]; assumption
  · cases h
theorem filS_fm {c : α → Bool} {f : α → β} {xs : List α} {ys : List β} (h : filS c f xs = some ys) : fmO (fun x => some (if c x = true then some (f x) else none)) xs = some ys := by
  unfold filS at h
  split at h
  · cases h; exact fmO_fil c f xs
  · cases h
theorem filS_sz {c : α → Bool} {f : α → β} {xs : List α} {ys : List β} (h : filS c f xs = some ys) {B : β → PV} : (ys.map B).length ≤ sizeLine := by
  unfold filS at h
  split at h
  · cases h; rw [List.length_map, List.length_map]
    have := List.length_filter_le c xs
    omega
  · cases h
theorem fmS_fm {f : α → Option (Option β)} {xs : List α} {ys : List β} (h : fmS f xs = some ys) : fmO f xs = some ys := by
  unfold fmS at h
  split at h
  · exact h
  · cases h
theorem fmS_sz {f : α → Option (Option β)} {xs : List α} {ys : List β} (h : fmS f xs = some ys) {B : β → PV} : (ys.map B).length ≤ sizeLine := by
  unfold fmS at h
  split at h
  · have := fmO_len h; rw [List.length_map]; omega
  · cases h
theorem lcO_len {f : α → σ → Option (Option β × σ)} : ∀ {xs : List α} {s : σ} {ys : List β × σ}, lcO f xs s = some ys → ys.1.length ≤ xs.length
  | [], s, ys, e => by cases e; exact Nat.le_refl _
  | x :: xs, s, ys, e => by
    obtain ⟨o, h1, h2⟩ := bd e
    obtain ⟨zs, h3, h4⟩ := bd h2
    have := lcO_len h3
    obtain ⟨o, s1⟩ := o
    cases o <;> cases h4 <;> simp <;> omega
theorem lcS_lc {f : α → σ → Option (Option β × σ)} {xs : List α} {s : σ} {ys : List β × σ} (h : lcS f xs s = some ys) : lcO f xs s = some ys := by
  unfold lcS at h
  split at h
  · exact h
  · cases h
theorem lcS_sz {f : α → σ → Option (Option β × σ)} {xs : List α} {s : σ} {ys : List β × σ} (h : lcS f xs s = some ys) {B : β → PV} : (ys.1.map B).length ≤ sizeLine := by
  unfold lcS at h
  split at h
  · have := lcO_len h; rw [List.length_map]; omega
  · cases h
def onR (k : σ → Option ρ) : σ ⊕ ρ → Option ρ
  | .inl s => k s
  | .inr v => some v
theorem onR_l {k : σ → Option ρ} {s : σ} {r : ρ} (h : onR k (.inl s) = some r) : k s = some r := h
theorem onR_r {k : σ → Option ρ} {v r : ρ} (h : onR k (.inr v) = some r) : v = r := by cases h; rfl

open Classical in
noncomputable def fsame (a b : α) : Option Bool := if a = b then some true else none
theorem fsame_eq {a b : α} {r : Bool} (h : fsame a b = some r) : a = b ∧ r = true := by
  unfold fsame at h
  split at h
  · cases h; exact ⟨by assumption, rfl⟩
  · cases h
theorem fsame_of {a b : α} (h : a = b) : fsame a b = some true := by
  unfold fsame
  rw [if_pos h]
/-- unlike things in a row -/
structure EncH (α : Type) where
  es : α → List PV
  dp : Nat
  pl : ∀ a, ∀ x ∈ es a, Plain dp x
def hn : EncH Unit where
  es _ := []
  dp := 0
  pl _ x h := by cases h
def hc {A : Enc α} (k : EncOk A) (B : EncH β) : EncH (α × β) where
  es p := A.e p.1 :: B.es p.2
  dp := max A.dp B.dp
  pl p x h := by
    rcases List.mem_cons.mp h with rfl | h
    · exact (k.pl _).mono (by omega)
    · exact (B.pl _ x h).mono (by omega)
theorem like_ok {E : Enc α} (k : EncOk E) {D : Nat → Dfn} {li ls : Nat} (hs : D ls = cSort) (hl : D li = cLike li ls) (hd : E.dp ≤ 10) {a b : α} {r : Bool} (h : fsame a b = some r) (d : Nat) : run lim D (d + 12) li [E.e a, E.e b] = some ((.bl r, false), []) := by
  obtain ⟨rfl, rfl⟩ := fsame_eq h
  exact like_run hs hl 10 ((k.pl a).mono hd) d
theorem likeH_ok (E : EncH α) {D : Nat → Dfn} {li ls : Nat} (hs : D ls = cSort) (hl : D li = cLike li ls) (hd : E.dp + 1 ≤ 10) {a b : α} {r : Bool} (h : fsame a b = some r) (d : Nat) : run lim D (d + 12) li [.lst (E.es a), .lst (E.es b)] = some ((.bl r, false), []) := by
  obtain ⟨rfl, rfl⟩ := fsame_eq h
  exact like_run hs hl 10 (Plain.mono (n := E.dp + 1) (.lst (E.pl a)) hd) d
theorem likeU_ok (E : EncH α) {D : Nat → Dfn} {li ls : Nat} (hs : D ls = cSort) (hl : D li = cLike li ls) (hd : E.dp + 1 ≤ 10) {a b : α} {r : Bool} (h : fsame a b = some r) (d : Nat) : run lim D (d + 12) li [.tup (E.es a), .tup (E.es b)] = some ((.bl r, false), []) := by
  obtain ⟨rfl, rfl⟩ := fsame_eq h
  exact like_run hs hl 10 (Plain.mono (n := E.dp + 1) (.tup (E.pl a)) hd) d
end
/-! the cup of chance -/
abbrev CupT := Int × Int
def eC (c : CupT) : PV := .lst [.int c.1, .int c.2]
def froll (c : CupT) (m : Int) : Option (Int × CupT) :=
  if 0 < m ∧ m.natAbs.log2 < 9000 then
    (if 0 < c.1 then some (c.1 % m, (c.1 / m, c.2))
    else some (((c.2 * 31051 + 7993) % 2147483543 * ((c.2 * 31051 + 7993) % 2147483543 + 229) % 2147483587 / 821) % m, (c.1, (c.2 * 31051 + 7993) % 2147483543)))
  else none
theorem froll_ok {D : Nat → Dfn} {i : Nat} (h : D i = cRoll) (d : Nat) {c : CupT} {m : Int} {r : Int × CupT} (e : froll c m = some r) : run lim D (d + 1) i [eC c, .int m] = some ((.int r.1, false), [eC r.2]) := by
  unfold froll at e
  split at e
  · rename_i hml
    obtain ⟨hm, hl⟩ := hml
    obtain ⟨a, b⟩ := c
    by_cases ha : 0 < a
    · rw [if_pos ha] at e
      cases e
      rw [run_succ, h]
      simp [eC, cRoll, exs, ex, ev, evs, starts, kdOf, deref, derefs, cmpF, icF, idxF, atP, ixN, ha, mutsOf, binF, intF, hm, hl, biF, intBi, move, store, consume, kd, setF, outs, asInts]
    · rw [if_neg ha] at e
      cases e
      have h1 : mulOk b 31051 = true := by unfold mulOk; simp
      have hb1 := Int.emod_nonneg (b * 31051 + 7993) (show (2147483543 : Int) ≠ 0 by decide)
      have hb2 := Int.emod_lt_of_pos (b * 31051 + 7993) (show (0 : Int) < 2147483543 by decide)
      generalize hb : (b * 31051 + 7993) % 2147483543 = b' at hb1 hb2
      have h2 : mulOk b' (b' + 229) = true := by
        unfold mulOk
        have e1 : decide (-(2 ^ 64) < b') = true := decide_eq_true (by omega)
        have e2 : decide (b' < 2 ^ 64) = true := decide_eq_true (by omega)
        rw [e1, e2]; simp
      rw [run_succ, h]
      have l8 : Nat.log2 821 < 9000 := by decide
      simp [eC, cRoll, exs, ex, ev, evs, starts, kdOf, deref, derefs, cmpF, icF, idxF, atP, ixN, ha, mutsOf, binF, intF, mulF, addF, h1, h2, hb, hm, hl, biF, intBi, move, store, consume, kd, setF, outs, asInts, l8]
  · cases e
/-- what a roll gives -/
theorem froll_ex (c : CupT) {m : Int} (hm : 0 < m) (hl : m < 2 ^ 200) : ∃ v c', froll c m = some (v, c') ∧ 0 ≤ v ∧ v < m := by
  have hl' : m.natAbs.log2 < 9000 := by
    have h1 : m.natAbs < 2 ^ 200 := by omega
    have h2 : m.natAbs.log2 < 200 := (Nat.log2_lt (by omega)).mpr h1
    omega
  unfold froll
  rw [if_pos ⟨hm, hl'⟩]
  split
  · exact ⟨_, _, rfl, Int.emod_nonneg _ (by omega), Int.emod_lt_of_pos _ hm⟩
  · exact ⟨_, _, rfl, Int.emod_nonneg _ (by omega), Int.emod_lt_of_pos _ hm⟩
def fcup (ns : List Int) : Option CupT := if ns.length ≤ 63 then
    (let x := ns.headD 0
    let a := if x < 0 then -x else x
    some (if 1000000000000000000 ≤ a then a / 73 else 0, (a * 283 + 3907) % 2077503167 + 167)) else none
theorem fcup_ok {D : Nat → Dfn} {i : Nat} (h : D i = cCup) (d : Nat) {ns : List Int} {r : CupT} (e : fcup ns = some r) : run lim D (d + 1) i [.scr ns] = some ((eC r, true), []) := by
  unfold fcup at e
  split at e
  · rename_i hl
    have go : ∀ x : Int, (∃ l : List Int, addF (.lst (ns.map PV.int)) (.lst [.int 0]) = some (.lst (l.map PV.int), true) ∧ atP (l.map PV.int) 0 = some (.int x)) → run lim D (d + 1) i [.scr ns] = some ((.lst [.int (if 1000000000000000000 ≤ (if x < 0 then -x else x) then (if x < 0 then -x else x) / 73 else 0), .int (((if x < 0 then -x else x) * 283 + 3907) % 2077503167 + 167)], true), []) := by
      rintro x ⟨l, e1, e2⟩
      have h1 : mulOk (if x < 0 then -x else x) 283 = true := by unfold mulOk; simp
      have h2 : powOk 10 18 = true := by decide
      have l8 : Nat.log2 73 < 9000 := by decide
      rw [run_succ, h]
      by_cases hx : 1000000000000000000 ≤ (if x < 0 then -x else x) <;>
        simp [cCup, exs, ex, ev, evs, deref, derefs, starts, kdOf, biF, listF, consumes, consume, binF, e1, e2, idxF, absF, move, store, kd, mutsOf, outs, sizeLine, cmpF, icF, intF, mulF, h1, h2, hx, l8, intBi, addF_int]
    cases e
    cases ns with
    | nil => exact go 0 ⟨[0], by simp [addF, sizeLine], by simp [atP, ixN]⟩
    | cons n ns =>
      refine go n ⟨n :: (ns ++ [0]), ?_, by
        have : (0 : Int) < ns.length + 1 + 1 := by omega
        simp [atP, ixN, this]⟩
      have : ns.length + 1 + 1 ≤ sizeLine := by
        simp only [List.length_cons] at hl
        unfold sizeLine; omega
      simp [addF, this]
  · cases e
section
variable {M : Nat → List Md} {C : Cl} {pm : List Nat} {env : En}
theorem Ev_eq {e : E} {o : Opd} {e1 : En} (h : Ev M C e env fun o' e' => o' = o ∧ e' = e1) : ev M C e env = some (o, e1) := by
  obtain ⟨o', e', h1, rfl, rfl⟩ := h
  exact h1
theorem Ev_abs {e : E} {p : PV} {Q : Opd → En → Prop} (h : Ev M C e env fun o e1 => e1 = env ∧ deref env o = some p ∧ consume env o = some (p, env) ∧ ∀ pm, move pm o env = some ((p, false), env)) (q : ∀ o, deref env o = some p → consume env o = some (p, env) → (∀ pm, move pm o env = some ((p, false), env)) → Q o env) : Ev M C e env Q := by
  obtain ⟨o, e1, h1, rfl, h2, h3, h4⟩ := h
  exact ⟨o, _, h1, q o h2 h3 h4⟩
theorem Ev_absE {e : E} {p : PV} {e2 : En} {Q : Opd → En → Prop} (h : Ev M C e env fun o e1 => e1 = e2 ∧ deref e2 o = some p ∧ consume e2 o = some (p, e2) ∧ ∀ pm, move pm o e2 = some ((p, false), e2)) (q : ∀ o, deref e2 o = some p → consume e2 o = some (p, e2) → (∀ pm, move pm o e2 = some ((p, false), e2)) → Q o e2) : Ev M C e env Q := by
  obtain ⟨o, e1, h1, rfl, h2, h3, h4⟩ := h
  exact ⟨o, _, h1, q o h2 h3 h4⟩
theorem and_tt {a b : Bool} (h : a = true) : Opd.vl (.bl b) false = .vl (.bl (a && b)) false := by rw [h]; rfl
theorem and_ff {a b : Bool} (h : a = false) : Opd.vl (.bl false) false = .vl (.bl (a && b)) false := by rw [h]; rfl
theorem or_tt {a b : Bool} (h : a = true) : Opd.vl (.bl true) false = .vl (.bl (a || b)) false := by rw [h]; rfl
theorem or_ff' {a b : Bool} (h : a = false) : Opd.vl (.bl b) false = .vl (.bl (a || b)) false := by rw [h]; rfl
theorem ite_tt {α : Type} {c : Bool} {x y : α} {f : α → PV} {p : PV} {k : Bool} (h : c = true) (hp : p = f x) : Opd.vl p k = .vl (f (if c = true then x else y)) k := by rw [if_pos h, hp]
theorem ite_ff {α : Type} {c : Bool} {x y : α} {f : α → PV} {p : PV} {k : Bool} (h : c = false) (hp : p = f y) : Opd.vl p k = .vl (f (if c = true then x else y)) k := by rw [if_neg (by rw [h]; decide), hp]
theorem itp_tt {α : Type} {c : Bool} {x y : α} {f : α → PV} {p : PV} (h : c = true) (hp : p = f x) : p = f (if c = true then x else y) := by rw [if_pos h, hp]
theorem itp_ff {α : Type} {c : Bool} {x y : α} {f : α → PV} {p : PV} (h : c = false) (hp : p = f y) : p = f (if c = true then x else y) := by rw [if_neg (by rw [h]; decide), hp]
theorem abs_fin {p q : PV} {o : Opd} (hp : p = q) (h1 : deref env o = some p) (h2 : consume env o = some (p, env)) (h3 : ∀ pm, move pm o env = some ((p, false), env)) : env = env ∧ deref env o = some q ∧ consume env o = some (q, env) ∧ ∀ pm, move pm o env = some ((q, false), env) := by
  subst hp
  exact ⟨rfl, h1, h2, h3⟩
theorem ifn {α : Type} {c : Bool} {x y : α} (h : c = false) : (if c = true then x else y) = y := if_neg (by rw [h]; decide)
theorem st_nlp {i : Nat} {s : Option Slot} (hp : pm.contains i = false) (h : env[i]? = some s) (n : NL s) (p : PV) (f : Bool) : store pm i p f env = some (env.set i (some ⟨p, kd f⟩)) := by
  unfold store
  rw [hp, h]
  cases s with
  | none => rfl
  | some q =>
    obtain ⟨q, k⟩ := q
    cases k <;> first | rfl | exact (n _ rfl rfl).elim
theorem Exs_env {ss : List S} {R : Fl → Prop} {e1 : En} (h : env = e1) (q : Exs M C pm ss e1 R) : Exs M C pm ss env R := by rw [h]; exact q
theorem for_use {turn : PV → En → Option Fl} {l : List PV} {lk : List Nat} {ss : List S} {R : Fl → Prop} {J : En → Prop} (h : ∃ env', forGo turn l env = some (.nx env') ∧ J env') (q : ∀ env', J env' → Exs M C pm ss (unlock env' lk) R) : ∃ e2, forGo turn l env = some (.nx e2) ∧ Exs M C pm ss (unlock e2 lk) R := by
  obtain ⟨env', h1, h2⟩ := h
  exact ⟨env', h1, q _ h2⟩
theorem forT_nx {x : Option Fl} {J : En → Prop} (h : ∃ fl, x = some fl ∧ ∃ e', fl = .nx e' ∧ J e') : ∃ env', x = some (.nx env') ∧ J env' := by
  obtain ⟨fl, h1, e', rfl, h2⟩ := h
  exact ⟨e', h1, h2⟩
theorem Exs_forR' {tg : Tg} {it : E} {b ss : List S} {R : Fl → Prop} (h : Ev M C it env fun x e1 => ∃ xs l, walkO e1 x = some (xs, l) ∧ ∃ fl, forGo (forT M C lim pm tg b) xs (lock e1 l) = some fl ∧ match fl with | .nx e2 => Exs M C pm ss (unlock e2 (lkOf e1 l)) R | fl => R fl) : Exs M C pm (.for_ tg it b :: ss) env R := by
  obtain ⟨x, e1, h1, xs, l, h2, fl, h3, h4⟩ := h
  exact Exs_forR ⟨x, e1, h1, xs, l, fl, h2, h3, h4⟩
theorem forR_use {σ ρ : Type} {turn : PV → En → Option Fl} {l : List PV} {lk : List Nat} {ss : List S} {R : Fl → Prop} {J : σ → En → Prop} {K : ρ → Fl → Prop} {r : σ ⊕ ρ} (h : ∃ fl, forGo turn l env = some fl ∧ TurnR J K r fl) (q1 : ∀ s, r = .inl s → ∀ env', J s env' → Exs M C pm ss (unlock env' lk) R) (q2 : ∀ v, r = .inr v → ∀ fl, K v fl → R fl) : ∃ fl, forGo turn l env = some fl ∧ match fl with | .nx e2 => Exs M C pm ss (unlock e2 lk) R | fl => R fl := by
  obtain ⟨fl, h1, h2⟩ := h
  refine ⟨fl, h1, ?_⟩
  cases r with
  | inl s =>
    obtain ⟨e', rfl, h2⟩ := h2
    exact q1 s rfl e' h2
  | inr v =>
    obtain ⟨⟨p, k, e', rfl⟩, h2⟩ := h2
    exact q2 v rfl _ h2
theorem whl_use {g : En → Option (Sum En Fl)} {ss : List S} {R : Fl → Prop} {J : En → Prop} (h : ∃ fl, lim g env = some fl ∧ ∃ e', fl = .nx e' ∧ J e') (q : ∀ e', J e' → Exs M C pm ss e' R) : ∃ fl, lim g env = some fl ∧ match fl with | .nx e2 => Exs M C pm ss e2 R | fl => R fl := by
  obtain ⟨fl, h1, e', rfl, h2⟩ := h
  exact ⟨_, h1, q _ h2⟩
/-- a while that may return -/
theorem whl_useR {σ ρ : Type} {g : En → Option (Sum En Fl)} {ss : List S} {R : Fl → Prop} {J : σ → En → Prop} {K : ρ → Fl → Prop} {r : σ ⊕ ρ} (h : ∃ fl, lim g env = some fl ∧ TurnR J K r fl) (q1 : ∀ s, r = .inl s → ∀ env', J s env' → Exs M C pm ss env' R) (q2 : ∀ v, r = .inr v → ∀ fl, K v fl → R fl) : ∃ fl, lim g env = some fl ∧ match fl with | .nx e2 => Exs M C pm ss e2 R | fl => R fl := by
  obtain ⟨fl, h1, h2⟩ := h
  refine ⟨fl, h1, ?_⟩
  cases r with
  | inl s =>
    obtain ⟨e', rfl, h2⟩ := h2
    exact q1 s rfl e' h2
  | inr v =>
    obtain ⟨⟨p, k, e', rfl⟩, h2⟩ := h2
    exact q2 v rfl _ h2
theorem Exs_aug {i : Nat} {o : Bop} {e : E} {ss : List S} {R : Fl → Prop} (h : Ev M C e env fun y e1 => ∃ p q r f e2, deref e1 (.sl i) = some (.int p) ∧ deref e1 y = some (.int q) ∧ binF o (.int p) (.int q) = some (r, f) ∧ store pm i r f e1 = some e2 ∧ Exs M C pm ss e2 R) : Exs M C pm (.aug i o e :: ss) env R := by
  obtain ⟨y, e1, h1, p, q, r, f, e2, h2, h3, h4, h5, h6⟩ := h
  exact Exs_fl (by rw [ex_aug, h1]; simp only [h2, h3, h4, h5]) h6
theorem walk_zip {α β : Type} {A : Enc α} {B : Enc β} {xs : List α} {ys : List β} {l : List Nat} : walkO env (.wk (zipP (xs.map A.e) (ys.map B.e)) l) = some ((xs.zip ys).map (e2 A B).e, l) := by rw [zip_map]; rfl
theorem walk_enum {α : Type} {A : Enc α} {xs : List α} {l : List Nat} : walkO env (.wk (enumP 0 (xs.map A.e)) l) = some ((numb 0 xs).map (e2 eI A).e, l) := by rw [enum_map]; rfl
end
def small (c : Int) : Bool := decide (-(2 ^ 64) < c) && decide (c < 2 ^ 64)
theorem mulL_lit {c x : Int} (h : small c = true) : binF .mul (.int c) (.int x) = some (.int (c * x), false) := by
  unfold small at h
  have : mulOk c x = true := by unfold mulOk; rw [h]; simp
  show (if mulOk c x = true then _ else _) = _
  rw [if_pos this]
theorem mulR_lit {c x : Int} (h : small c = true) : binF .mul (.int x) (.int c) = some (.int (x * c), false) := by
  unfold small at h
  have : mulOk x c = true := by unfold mulOk; rw [h]; simp
  show (if mulOk x c = true then _ else _) = _
  rw [if_pos this]
theorem mod_lit {c x : Int} (h : decide (0 < c) = true) : binF .mod (.int x) (.int c) = some (.int (x % c), false) := fmod_ok (by unfold fmod; rw [if_pos (of_decide_eq_true h)])
theorem div_lit {c x : Int} (h : (decide (0 < c) && decide (c.natAbs.log2 < 9000)) = true) : binF .fdiv (.int x) (.int c) = some (.int (x / c), false) := by
  rw [Bool.and_eq_true, decide_eq_true_eq, decide_eq_true_eq] at h
  exact fdiv_ok (by unfold fdiv; rw [if_pos h])
end L2.Pz
namespace L2.Pz
set_option autoImplicit false
theorem storeR_cons {pm : List Nat} {i : Nat} {is : List Nat} {p : PV} {f : Bool} {ps : List Rv} {env e1 e2 : En} (h : store pm i p f env = some e1) (h2 : storeR pm is ps e1 = some e2) : storeR pm (i :: is) ((p, f) :: ps) env = some e2 := by
  simp only [storeR, h, h2]
theorem stores_cons {pm : List Nat} {i : Nat} {is : List Nat} {p : PV} {ps : List PV} {env e1 e2 : En} (h : store pm i p false env = some e1) (h2 : stores pm is ps e1 = some e2) : stores pm (i :: is) (p :: ps) env = some e2 := by
  simp only [stores, h, h2]
def fbox {α : Type} (a : α) : Option α := some a
theorem fbox_eq {α : Type} {a b : α} (h : fbox a = some b) : a = b := Option.some.inj h
end L2.Pz
set_option Elab.async false
set_option linter.all false
set_option maxRecDepth 100000
set_option maxHeartbeats 4000000
namespace L2.Pz
set_option autoImplicit false
open PySem hiding run
open L2

/-! ## Gx3: more that the printed walks lean on -/
theorem szd (n : Nat) {l : List PV} (h : l.length = n := by rfl) (hn : n ≤ 10000 := by decide) : l.length ≤ sizeLine := by unfold sizeLine; omega
section
variable {env : En} {a b c d : Opd} {p q r s : PV}
theorem derefs1 (h : deref env a = some p) : derefs env [a] = some [p] := by simp only [derefs, h]
theorem derefs2 (h : deref env a = some p) (h2 : deref env b = some q) : derefs env [a, b] = some [p, q] := by simp only [derefs, h, h2]
theorem derefs3 (h : deref env a = some p) (h2 : deref env b = some q) (h3 : deref env c = some r) : derefs env [a, b, c] = some [p, q, r] := by simp only [derefs, h, h2, h3]
theorem derefs4 (h : deref env a = some p) (h2 : deref env b = some q) (h3 : deref env c = some r) (h4 : deref env d = some s) : derefs env [a, b, c, d] = some [p, q, r, s] := by simp only [derefs, h, h2, h3, h4]
theorem pass_ros {ms : List Md} {os : List Opd} {ps : List PV} (h : derefs env os = some ps) (hm : ms = List.replicate ps.length Md.ro := by rfl) : pass ms os env = some (ps, [], env) := pass_ro h hm
theorem pass_ro2 {ms : List Md} (h : deref env a = some p) (h2 : deref env b = some q) (hm : ms = [.ro, .ro] := by rfl) : pass ms [a, b] env = some ([p, q], [], env) := pass_ro (derefs2 h h2) hm
end
section
variable {α β γ σ ρ τ : Type}
def onG (w : ρ → τ) (k : σ → Option τ) : σ ⊕ ρ → Option τ
  | .inl s => k s
  | .inr v => some (w v)
theorem onG_l {w : ρ → τ} {k : σ → Option τ} {s : σ} {r : τ} (h : onG w k (.inl s) = some r) : k s = some r := h
theorem onG_r {w : ρ → τ} {k : σ → Option τ} {v : ρ} {r : τ} (h : onG w k (.inr v) = some r) : w v = r := by cases h; rfl
theorem lcG_use {turn : PV → En → Option (Option PV × En)} {l : List PV} {lk : List Nat} {ws : Opd} {e1 env : En} {vs : List Nat} {J : En → Prop} {ys : List PV} {Q : Opd → En → Prop} (hw : walkO e1 ws = some (l, lk)) (h : ∃ e', lcGo turn l env = some (ys, e') ∧ J e') (hz : ys.length ≤ sizeLine) (q : ∀ e2, J e2 → Q (.vl (.lst ys) true) (unlock (restore e1 e2 vs) (lkOf e1 lk))) : ∃ xs l' ys' e2, walkO e1 ws = some (xs, l') ∧ lcGo turn xs env = some (ys', e2) ∧ ys'.length ≤ sizeLine ∧ Q (.vl (.lst ys') true) (unlock (restore e1 e2 vs) (lkOf e1 l')) := by
  obtain ⟨e', h1, h2⟩ := h
  exact ⟨l, lk, ys, e', hw, h1, hz, q e' h2⟩
/-- two generators -/
def flO (f : α → Option (List β)) : List α → Option (List β)
  | [] => some []
  | x :: xs => (f x).bind fun ys => (flO f xs).bind fun zs => some (ys ++ zs)
def flS (f : α → Option (List β)) (xs : List α) : Option (List β) := (flO f xs).bind fun ys => if ys.length ≤ sizeLine then some ys else none
theorem flS_fl {f : α → Option (List β)} {xs : List α} {ys : List β} (h : flS f xs = some ys) : flO f xs = some ys := by
  obtain ⟨zs, h1, h2⟩ := bd h
  split at h2
  · cases h2; exact h1
  · cases h2
theorem flS_sz {f : α → Option (List β)} {xs : List α} {ys : List β} (h : flS f xs = some ys) {B : β → PV} : (ys.map B).length ≤ sizeLine := by
  obtain ⟨zs, h1, h2⟩ := bd h
  split at h2
  · cases h2; rw [List.length_map]; assumption
  · cases h2
theorem flO_map (g : α → List β) : ∀ xs : List α, flO (fun x => some (g x)) xs = some (xs.flatMap g)
  | [] => rfl
  | x :: xs => by unfold flO; rw [flO_map g xs]; rfl
theorem lcGo2_fl {turn : PV → En → Option (List PV × En)} {A : α → PV} {B : β → PV} {f : α → Option (List β)} {env : En} : ∀ {xs : List α} {ys : List β}, (∀ x ∈ xs, ∀ o, f x = some o → ∃ o' e', turn (A x) env = some (o', e') ∧ o' = o.map B ∧ e' = env) → flO f xs = some ys → lcGo2 turn (xs.map A) env = some (ys.map B, env)
  | [], ys, _, e => by cases e; rfl
  | x :: xs, ys, ht, e => by
    obtain ⟨o, h1, h2⟩ := bd e
    obtain ⟨zs, h3, h4⟩ := bd h2
    have ih := lcGo2_fl (xs := xs) (fun y hy => ht y (List.mem_cons_of_mem _ hy)) h3
    obtain ⟨_, _, h5, rfl, rfl⟩ := ht x (List.mem_cons_self ..) o h1
    cases h4
    rw [List.map_cons]
    simp only [lcGo2, h5, ih, List.map_append]
theorem ev_lc2 {M : Nat → List Md} {C : Cl} (tg : Tg) (it : E) (ifs : List E) (tg1 : Tg) (it1 : E) (ifs1 : List E) (elt : E) (env : En) : ev M C (.lc2 tg it ifs tg1 it1 ifs1 elt) env = (match ev M C it env with
    | some (x, env) => match walkO env x with
      | some (xs, o) => match lcGo2 (turn2F M C tg ifs tg1 it1 ifs1 elt) xs (wipeE (lock env o) (tg.slots ++ tg1.slots)) with
        | some (ys, env') => if ys.length ≤ sizeLine then some (.vl (.lst ys) true, unlock (restore env env' (tg.slots ++ tg1.slots)) (lkOf env o)) else none
        | none => none
      | none => none
    | none => none) := by first | rfl | (simp only [ev]; rfl)
theorem Ev_lc2 {M : Nat → List Md} {C : Cl} {env : En} {Q : Opd → En → Prop} {tg tg1 : Tg} {it it1 elt : E} {ifs ifs1 : List E} (h : Ev M C it env fun x e1 => ∃ xs l ys e2, walkO e1 x = some (xs, l) ∧ lcGo2 (turn2F M C tg ifs tg1 it1 ifs1 elt) xs (wipeE (lock e1 l) (tg.slots ++ tg1.slots)) = some (ys, e2) ∧ ys.length ≤ sizeLine ∧ Q (.vl (.lst ys) true) (unlock (restore e1 e2 (tg.slots ++ tg1.slots)) (lkOf e1 l))) : Ev M C (.lc2 tg it ifs tg1 it1 ifs1 elt) env Q := by
  obtain ⟨x, e1, h1, xs, l, ys, e2, h2, h3, h4, h5⟩ := h
  exact ⟨_, _, by rw [ev_lc2, h1]; simp only [h2, h3, h4, if_true], h5⟩
theorem turn2_of {M : Nat → List Md} {C : Cl} {env : En} {tg tg1 : Tg} {it1 elt : E} {ifs1 : List E} {z : PV} {e1 : En} {Q : List PV → En → Prop} (hb : bindTg [] tg z env = some e1) (h : Ev M C it1 e1 fun x e2 => ∃ xs l ys e3, walkO e2 x = some (xs, l) ∧ lcGo (turn1F M C tg1.slots tg1 ifs1 elt) xs (wipeE (lock e2 l) tg1.slots) = some (ys, e3) ∧ Q ys (wipeE (unlock (restore e2 e3 tg1.slots) (lkOf e2 l)) (tg.slots ++ tg1.slots))) : ∃ o' e', turn2F M C tg [] tg1 it1 ifs1 elt z env = some (o', e') ∧ Q o' e' := by
  obtain ⟨x, e2, h1, xs, l, ys, e3, h2, h3, h4⟩ := h
  exact ⟨_, _, by simp only [turn2F, hb, evIfs, h1, h2, h3], h4⟩
/-- a list of options, none of them None -/
def unO : List (Option α) → Option (List α)
  | [] => some []
  | none :: _ => none
  | some x :: xs => (unO xs).map (x :: ·)
theorem unO_map {A : Enc α} {hA : ∀ a, (A.e a).some_ = true} : ∀ {xs : List (Option α)} {ys : List α}, unO xs = some ys → xs.map (eO A hA).e = ys.map A.e
  | [], ys, h => by cases h; rfl
  | none :: _, _, h => by cases h
  | some x :: xs, ys, h => by
    unfold unO at h
    cases q : unO xs with
    | none => rw [q] at h; cases h
    | some zs =>
      rw [q] at h
      cases h
      rw [List.map_cons, List.map_cons, unO_map q]; rfl
theorem unL_dp {A : Enc α} {hA : ∀ a, (A.e a).some_ = true} {xs : List (Option α)} {ys : List α} (h : unO xs = some ys) : some ((eL (eO A hA)).e xs) = some ((eL A).e ys) := by
  show some (PV.lst _) = some (PV.lst _)
  rw [unO_map h]
theorem unT_dp {A : Enc α} {hA : ∀ a, (A.e a).some_ = true} {xs : List (Option α)} {ys : List α} (h : unO xs = some ys) : some ((eT (eO A hA)).e xs) = some ((eT A).e ys) := by
  show some (PV.tup _) = some (PV.tup _)
  rw [unO_map h]
/-! dicts with whole numbers as keys -/
def eD (E : Enc α) (d : List (Int × α)) : PV := .dk (d.map fun p => (.inl p.1, E.e p.2))
def dgt (d : List (Int × α)) (k : Int) : Option α := (d.find? fun p => decide (p.1 = k)).map Prod.snd
theorem look_map (E : Enc α) (k : Int) : ∀ d : List (Int × α), lookP (d.map fun p => ((.inl p.1 : Key), E.e p.2)) (.inl k) = (dgt d k).map E.e
  | [] => rfl
  | (j, x) :: d => by
    show (if (Sum.inl j : Key) = .inl k then some (E.e x) else lookP (d.map fun p => ((.inl p.1 : Key), E.e p.2)) (.inl k)) = _
    rw [look_map E k d]
    unfold dgt
    rw [List.find?_cons]
    by_cases q : j = k
    · rw [if_pos (by rw [q]), decide_eq_true q]; rfl
    · rw [if_neg (fun h => q (Sum.inl.inj h)), decide_eq_false q]
def dgetD (d : List (Int × α)) (k : Int) (x : α) : α := (dgt d k).getD x
theorem getD_ok {E : Enc α} (d : List (Int × α)) (k : Int) (x : α) (hi : (E.e x).imm = true) : metF .get (eD E d) [.int k, E.e x] = some (E.e (dgetD d k x), false) := by
  show (if (E.e x).imm = true then (toKey (.int k)).map fun k => ((lookP (d.map fun p => ((.inl p.1 : Key), E.e p.2)) k).getD (E.e x), false) else none) = _
  rw [if_pos hi]
  show some ((lookP (d.map fun p => ((.inl p.1 : Key), E.e p.2)) (.inl k)).getD (E.e x), false) = _
  rw [look_map]
  unfold dgetD
  cases dgt d k <;> rfl
theorem dgt_ok {E : Enc α} {d : List (Int × α)} {k : Int} {x : α} (h : dgt d k = some x) : idxF (eD E d) (.int k) = some (E.e x) := by
  show (toKey (.int k)).bind (fun k => lookP (d.map fun p => ((.inl p.1 : Key), E.e p.2)) k) = _
  show lookP (d.map fun p => ((.inl p.1 : Key), E.e p.2)) (.inl k) = _
  rw [look_map, h]; rfl
theorem inD_ok {E : Enc α} (k : Int) (d : List (Int × α)) : cmpF .inn (.int k) (eD E d) = some (dgt d k).isSome := by
  show (toKey (.int k)).map (fun k => (lookP (d.map fun p => ((.inl p.1 : Key), E.e p.2)) k).isSome) = _
  show some (lookP (d.map fun p => ((.inl p.1 : Key), E.e p.2)) (.inl k)).isSome = _
  rw [look_map]
  cases dgt d k <;> rfl
def dput1 (d : List (Int × α)) (k : Int) (x : α) : List (Int × α) := if (d.any fun p => decide (p.1 = k)) = true then d.map (fun p => if p.1 = k then (p.1, x) else p) else d ++ [(k, x)]
def dput (d : List (Int × α)) (k : Int) (x : α) : Option (List (Int × α)) := if d.length < sizeLine then some (dput1 d k x) else none
theorem put_map (E : Enc α) (k : Int) (x : α) (d : List (Int × α)) : putP (d.map fun p => ((.inl p.1 : Key), E.e p.2)) (.inl k) (E.e x) = (dput1 d k x).map fun p => ((.inl p.1 : Key), E.e p.2) := by
  have e : ((d.map fun p => ((.inl p.1 : Key), E.e p.2)).any fun kv => decide (kv.1 = .inl k)) = d.any fun p => decide (p.1 = k) := by
    rw [List.any_map]
    congr 1
    funext p
    show decide ((Sum.inl p.1 : Key) = .inl k) = _
    rw [decide_eq_decide]
    exact ⟨fun h => Sum.inl.inj h, fun h => by rw [h]⟩
  unfold putP dput1
  rw [e]
  split
  · rw [List.map_map, List.map_map]
    apply List.map_congr_left
    intro p _
    show (if (Sum.inl p.1 : Key) = .inl k then _ else _) = _
    by_cases q : p.1 = k
    · rw [if_pos (by rw [q])]; simp [q]
    · rw [if_neg (fun h => q (Sum.inl.inj h))]; simp [q]
  · rw [List.map_append]; rfl
theorem dput_ok {E : Enc α} {d d' : List (Int × α)} {k : Int} {x : α} (h : dput d k x = some d') : setF (eD E d) (.int k) (E.e x) = some (eD E d') := by
  unfold dput at h
  split at h
  · rename_i q
    cases h
    show (if (d.map fun p => ((.inl p.1 : Key), E.e p.2)).length < sizeLine then some (PV.dk (putP (d.map fun p => ((.inl p.1 : Key), E.e p.2)) (.inl k) (E.e x))) else none) = _
    rw [List.length_map, if_pos q, put_map]; rfl
  · cases h
theorem keys_map (E : Enc α) : ∀ d : List (Int × α), keyInts (d.map fun p => ((.inl p.1 : Key), E.e p.2)) = some (d.map Prod.fst)
  | [] => rfl
  | p :: d => by
    show (keyInts (d.map fun p => ((.inl p.1 : Key), E.e p.2))).map (p.1 :: ·) = _
    rw [keys_map E d]; rfl
theorem sortD_ok {E : Enc α} (d : List (Int × α)) : biF .sorted [eD E d] = some ((eL eI).e (isort (d.map Prod.fst)), true) := by
  show (keyInts (d.map fun p => ((.inl p.1 : Key), E.e p.2))).map _ = _
  rw [keys_map]; rfl
theorem minD_ok {E : Enc α} {d : List (Int × α)} {m : Int} (h : fmin (d.map Prod.fst) = some m) : biF .min [eD E d] = some (.int m, false) := by
  show (match keyInts (d.map fun p => ((.inl p.1 : Key), E.e p.2)) with
    | some (n :: ns) => some (PV.int (minL n ns), false)
    | _ => none) = _
  rw [keys_map]
  cases e : d.map Prod.fst with
  | nil => rw [e] at h; cases h
  | cons n ns => rw [e] at h; cases h; rfl
theorem lenD_ok {E : Enc α} (d : List (Int × α)) : biF .len [eD E d] = some (.int (d.length : Int), false) := by
  show some (PV.int ((d.map fun p => ((.inl p.1 : Key), E.e p.2)).length : Int), false) = _
  rw [List.length_map]
def dall (d : List (Int × α)) : List (Int × α) → List (Int × α)
  | [] => d
  | (k, x) :: r => dall (dput1 d k x) r
theorem pairs_map (E : Enc α) : ∀ d : List (Int × α), pairsK (d.map (e2 eI E).e) = some (d.map fun p => ((.inl p.1 : Key), E.e p.2))
  | [] => rfl
  | p :: d => by
    show (match toKey (.int p.1), pairsK (d.map (e2 eI E).e) with
      | some k, some r => some ((k, E.e p.2) :: r)
      | _, _ => none) = _
    rw [pairs_map E d]; rfl
theorem dall_map (E : Enc α) : ∀ (r d : List (Int × α)), putAllP (d.map fun p => ((.inl p.1 : Key), E.e p.2)) (r.map fun p => ((.inl p.1 : Key), E.e p.2)) = (dall d r).map fun p => ((.inl p.1 : Key), E.e p.2)
  | [], d => rfl
  | (k, x) :: r, d => by
    show putAllP (putP (d.map fun p => ((.inl p.1 : Key), E.e p.2)) (.inl k) (E.e x)) (r.map fun p => ((.inl p.1 : Key), E.e p.2)) = _
    rw [put_map, dall_map E r]; rfl
def fdict (r : List (Int × α)) : Option (List (Int × α)) := if r.length < sizeLine then some (dall [] r) else none
theorem fdict_ok {E : Enc α} {r d : List (Int × α)} (h : fdict r = some d) : biF .dict [(eL (e2 eI E)).e r] = some (eD E d, true) := by
  unfold fdict at h
  split at h
  · rename_i q
    cases h
    show dictF [.lst (r.map (e2 eI E).e)] = _
    simp only [dictF, pairs_map, List.length_map, q, if_true]
    show some (PV.dk (putAllP (([] : List (Int × α)).map fun p => ((.inl p.1 : Key), E.e p.2)) _), true) = _
    rw [dall_map]; rfl
  · cases h
end
end L2.Pz
namespace L2.Pz
set_option autoImplicit false
theorem consumes_cons {env e1 e2 : En} {o : Opd} {os : List Opd} {p : PV} {ps : List PV} (h : consume env o = some (p, e1)) (h2 : consumes e1 os = some (ps, e2)) : consumes env (o :: os) = some (p :: ps, e2) := by
  simp only [consumes, h, h2]
end L2.Pz
namespace L2.Pz
set_option autoImplicit false
open PySem hiding run
theorem Ev_lcJ {M : Nat → List Md} {C : Cl} {env : En} {Q : Opd → En → Prop} {tg : Tg} {it elt : E} {ifs : List E} {J : En → Prop} (h : Ev M C it env fun x e1 => ∃ xs l ys, walkO e1 x = some (xs, l) ∧ (∃ e', lcGo (turn1F M C tg.slots tg ifs elt) xs (wipeE (lock e1 l) tg.slots) = some (ys, e') ∧ J e') ∧ ys.length ≤ sizeLine ∧ ∀ e2, J e2 → Q (.vl (.lst ys) true) (unlock (restore e1 e2 tg.slots) (lkOf e1 l))) : Ev M C (.lc tg it ifs elt) env Q := by
  obtain ⟨x, e1, h1, xs, l, ys, h2, ⟨e', h3, hJ⟩, h4, h5⟩ := h
  exact Ev_lc ⟨x, e1, h1, xs, l, ys, e', h2, h3, h4, h5 e' hJ⟩
end L2.Pz
namespace L2.Pz
set_option autoImplicit false
open PySem hiding run
/-! any values -/
def isA (t : Ty) (v : PV) : Option Bool := match isiF t v with
  | some (.bl b, _) => some b
  | _ => none
theorem isA_ok {t : Ty} {v : PV} {b : Bool} (h : isA t v = some b) : ∃ f, isiF t v = some (.bl b, f) := by
  unfold isA at h
  split at h
  · rename_i b' f e; cases h; exact ⟨f, e⟩
  · cases h
theorem isA_ok' {t : Ty} {v : PV} {b : Bool} (h : isA t v = some b) : isiF t v = some (.bl b, false) := by
  obtain ⟨f, e⟩ := isA_ok h
  unfold isiF at e ⊢
  split at e <;> first | (cases e; done) | skip
  cases e
  rfl
def asInt : PV → Option Int
  | .int i => some i
  | _ => none
theorem asInt_ok {v : PV} {i : Int} (h : asInt v = some i) : v = .int i := by
  cases v <;> first | (cases h; rfl) | cases h
def asBool : PV → Option Bool
  | .bl i => some i
  | _ => none
theorem asBool_ok {v : PV} {i : Bool} (h : asBool v = some i) : v = .bl i := by
  cases v <;> first | (cases h; rfl) | cases h
def asTup : PV → Option (List PV)
  | .tup xs => some xs
  | _ => none
theorem map_eA (xs : List PV) : xs.map eA.e = xs := List.map_id' xs
theorem asTup_ok {v : PV} {xs : List PV} (h : asTup v = some xs) : v = (eT eA).e xs := by
  cases v <;> first | (cases h; done) | skip
  cases h
  show PV.tup _ = PV.tup _
  rw [map_eA]
def unI : List PV → Option (List Int)
  | [] => some []
  | .int x :: xs => (unI xs).map (x :: ·)
  | _ :: _ => none
theorem unI_map : ∀ {xs : List PV} {ys : List Int}, unI xs = some ys → xs.map eA.e = ys.map eI.e
  | [], ys, h => by cases h; rfl
  | x :: xs, ys, h => by
    cases x <;> first | (cases h; done) | skip
    rename_i i
    unfold unI at h
    cases q : unI xs with
    | none => rw [q] at h; cases h
    | some zs =>
      rw [q] at h
      cases h
      rw [List.map_cons, List.map_cons, unI_map q]; rfl
theorem unIL_dp {xs : List PV} {ys : List Int} (h : unI xs = some ys) : some ((eL eA).e xs) = some ((eL eI).e ys) := by
  show some (PV.lst _) = some (PV.lst _)
  rw [unI_map h]
theorem unIT_dp {xs : List PV} {ys : List Int} (h : unI xs = some ys) : some ((eT eA).e xs) = some ((eT eI).e ys) := by
  show some (PV.tup _) = some (PV.tup _)
  rw [unI_map h]
theorem walk_of {env : En} {i : Nat} {p : PV} {xs : List PV} (h : deref env (.sl i) = some p) (hw : walkF p = some xs) : walkO env (.sl i) = some (xs, [i]) := by
  simp only [walkO, h, hw]; rfl
theorem walk_of_vl {env : En} {p q : PV} {f : Bool} {xs : List PV} (h : deref env (.vl p f) = some q) (hw : walkF q = some xs) : walkO env (.vl p f) = some (xs, []) := by
  simp only [walkO, h, hw]; rfl
end L2.Pz
namespace L2.Pz
set_option autoImplicit false
open PySem hiding run
/-- a def whose value may be new or not -/
theorem run_ofE {D : Nat → Dfn} {d f n : Nat} {ms : List Md} {body : List S} {ps : List PV} {p : PV} {os : List PV} (h : D f = ⟨ms, n, body⟩) (hl : ps.length = ms.length)
    (hb : Exs (fun f => (D f).modes) (run lim D d) (mutsOf 0 ms) body (starts ms ps ++ List.replicate (n - ms.length) none) fun fl => (∃ k e1, fl = .rt p k e1 ∧ outs ms e1 = some os) ∨ (∃ e1, fl = .nx e1 ∧ outs ms e1 = some os ∧ p = .non)) : ∃ k, run lim D (d + 1) f ps = some ((p, k), os) := by
  obtain ⟨fl, h1, h2⟩ := hb
  rcases h2 with ⟨k, e1, rfl, h2⟩ | ⟨e1, rfl, h2, rfl⟩
  · exact ⟨k, run_rt h hl h1 h2⟩
  · exact ⟨false, run_nx h hl h1 h2⟩
end L2.Pz
namespace L2.Pz
set_option autoImplicit false
theorem isO_ok {α : Type} {A : Enc α} {hA : ∀ a, (A.e a).some_ = true} {t : Ty} {o : Option α} (h : ∀ a, isiF t (A.e a) = some (.bl true, false)) (hn : knIs t .non = false) : isiF t ((eO A hA).e o) = some (.bl o.isSome, false) := by
  cases o with
  | none => show some (PV.bl (knIs t .non), false) = _; rw [hn]; rfl
  | some a => exact h a
end L2.Pz
namespace L2.Pz
set_option autoImplicit false
open PySem hiding run
/-! dict displays; lists unpacked -/
theorem Ev_dspD {α : Type} {E : Enc α} {M : Nat → List Md} {C : Cl} {env : En} {Q : Opd → En → Prop} {es : List L2.Pz.E} {l : List (Int × α)} (hl : l.length ≤ 15) (h : Evs M C es env fun os e1 => ∃ ps e2, consumes e1 os = some (ps, e2) ∧ kvsOf ps = some (l.map fun p => ((.inl p.1 : Key), E.e p.2)) ∧ Q (.vl (eD E (dall [] l)) true) e2) : Ev M C (.dsp es) env Q := by
  obtain ⟨os, e1, h1, ps, e2, h2, h3, h4⟩ := h
  refine Ev_dsp ⟨os, e1, h1, ps, e2, _, h2, h3, by rw [List.length_map]; exact hl, ?_⟩
  have := dall_map E l []
  rw [List.map_nil] at this
  rw [this]; exact h4
section
variable {α : Type}
def un2 : List α → Option (α × α)
  | [a, b] => some (a, b)
  | _ => none
def un3 : List α → Option (α × α × α)
  | [a, b, c] => some (a, b, c)
  | _ => none
def un4 : List α → Option (α × α × α × α)
  | [a, b, c, d] => some (a, b, c, d)
  | _ => none
def un5 : List α → Option (α × α × α × α × α)
  | [a, b, c, d, e] => some (a, b, c, d, e)
  | _ => none
theorem un2_eq {xs : List α} {p : α × α} (h : un2 xs = some p) : xs = [p.1, p.2] := by
  unfold un2 at h
  split at h
  · cases h; rfl
  · cases h
theorem un3_eq {xs : List α} {p : α × α × α} (h : un3 xs = some p) : xs = [p.1, p.2.1, p.2.2] := by
  unfold un3 at h
  split at h
  · cases h; rfl
  · cases h
theorem un4_eq {xs : List α} {p : α × α × α × α} (h : un4 xs = some p) : xs = [p.1, p.2.1, p.2.2.1, p.2.2.2] := by
  unfold un4 at h
  split at h
  · cases h; rfl
  · cases h
theorem un5_eq {xs : List α} {p : α × α × α × α × α} (h : un5 xs = some p) : xs = [p.1, p.2.1, p.2.2.1, p.2.2.2.1, p.2.2.2.2] := by
  unfold un5 at h
  split at h
  · cases h; rfl
  · cases h
end
end L2.Pz
set_option Elab.async false
set_option linter.all false
set_option maxRecDepth 100000
set_option maxHeartbeats 4000000
namespace L2.Pz
set_option autoImplicit false
open PySem hiding run
open L2

/-! ## Gm0: what the native operations give -/
section
variable {α β γ σ ρ : Type}
theorem fmod_pos {a b : Int} (h : 0 < b) : fmod a b = some (a % b) := if_pos h
theorem fdiv_pos {a b : Int} (h : 0 < b) (h2 : b < 2 ^ 200) : fdiv a b = some (a / b) := by
  unfold fdiv
  refine if_pos ⟨h, ?_⟩
  have h1 : b.natAbs < 2 ^ 200 := by omega
  have h2 : b.natAbs.log2 < 200 := (Nat.log2_lt (by omega)).mpr h1
  omega
theorem fmul_sm {a b : Int} (h : -(2 ^ 64) < b) (h2 : b < 2 ^ 64) : fmul a b = some (a * b) := by
  unfold fmul
  refine if_pos ?_
  unfold mulOk
  rw [decide_eq_true h, decide_eq_true h2]; simp
theorem inB_of {i : Int} (h : -(2 ^ 62) ≤ i) (h2 : i < 2 ^ 62) : inB i = true := by
  unfold inB
  rw [decide_eq_true h, decide_eq_true h2]; rfl
theorem getI_nat {xs : List α} {i : Nat} {x : α} (h : xs[i]? = some x) : getI xs (i : Int) = some x := by
  unfold getI
  rw [ixN_nat (lt_of_some h)]
  exact h
theorem setI_nat {xs : List α} {i : Nat} (h : i < xs.length) (x : α) : setI xs (i : Int) x = some (xs.set i x) := by
  unfold setI
  rw [ixN_nat h]; rfl
theorem fapp_of {xs : List α} {x : α} (h : xs.length < sizeLine) : fapp xs x = some (xs ++ [x]) := if_pos h
theorem fadd_of {xs ys : List α} (h : xs.length + ys.length ≤ sizeLine) : fadd xs ys = some (xs ++ ys) := if_pos h
theorem mapS_of {f : α → β} {xs : List α} (h : xs.length ≤ sizeLine) : mapS f xs = some (xs.map f) := if_pos h
theorem filS_of {c : α → Bool} {f : α → β} {xs : List α} (h : xs.length ≤ sizeLine) : filS c f xs = some ((xs.filter c).map f) := if_pos h
theorem fmO_of {f : α → Option (Option β)} {g : α → Option β} : ∀ {xs : List α}, (∀ x ∈ xs, f x = some (g x)) → fmO f xs = some (xs.filterMap g)
  | [], _ => rfl
  | x :: xs, h => by
    unfold fmO
    rw [h x (List.mem_cons_self ..), fmO_of fun y hy => h y (List.mem_cons_of_mem _ hy)]
    rw [List.filterMap_cons]
    cases g x <;> rfl
theorem fmS_of {f : α → Option (Option β)} (g : α → Option β) {xs : List α} (hz : xs.length ≤ sizeLine) (h : ∀ x ∈ xs, f x = some (g x)) : fmS f xs = some (xs.filterMap g) := by
  unfold fmS
  rw [if_pos hz, fmO_of h]
/-- items only -/
theorem fmS_map {f : α → Option (Option β)} (g : α → β) {xs : List α} (hz : xs.length ≤ sizeLine) (h : ∀ x ∈ xs, f x = some (some (g x))) : fmS f xs = some (xs.map g) := by
  rw [fmS_of (fun x => some (g x)) hz h, List.filterMap_eq_map']
/-- those that meet a condition -/
theorem fmS_fil {f : α → Option (Option β)} (c : α → Bool) (g : α → β) {xs : List α} (hz : xs.length ≤ sizeLine) (h : ∀ x ∈ xs, f x = some (if c x = true then some (g x) else none)) : fmS f xs = some ((xs.filter c).map g) := by
  rw [fmS_of _ hz h]
  congr 1
  clear h hz
  induction xs with
  | nil => rfl
  | cons x xs ih =>
    rw [List.filterMap_cons, List.filter_cons, ih]
    cases c x <;> rfl
theorem forO_of {f : α → σ → Option σ} {g : σ → α → σ} {I : σ → Prop} : ∀ {xs : List α} {s : σ}, I s → (∀ x ∈ xs, ∀ s, I s → f x s = some (g s x) ∧ I (g s x)) → forO f xs s = some (xs.foldl g s) ∧ I (xs.foldl g s)
  | [], s, h, _ => ⟨rfl, h⟩
  | x :: xs, s, h, ht => by
    obtain ⟨h1, h2⟩ := ht x (List.mem_cons_self ..) s h
    obtain ⟨h3, h4⟩ := forO_of (xs := xs) h2 fun y hy => ht y (List.mem_cons_of_mem _ hy)
    exact ⟨by unfold forO; rw [h1]; exact h3, h4⟩
/-- a loop over an image -/
theorem forO_map {f : β → σ → Option σ} (e : α → β) : ∀ (xs : List α) (s : σ), forO f (xs.map e) s = forO (fun x => f (e x)) xs s
  | [], _ => rfl
  | x :: xs, s => by
    show (f (e x) s).bind (forO f (xs.map e)) = (f (e x) s).bind (forO (fun x => f (e x)) xs)
    congr 1
    funext s
    exact forO_map e xs s
/-- states seen through an image -/
theorem forO_enc {f : α → σ → Option σ} {g : ρ → α → ρ} {e : ρ → σ} {I : ρ → Prop} : ∀ {xs : List α} {s : ρ}, I s → (∀ x ∈ xs, ∀ s, I s → f x (e s) = some (e (g s x)) ∧ I (g s x)) → forO f xs (e s) = some (e (xs.foldl g s)) ∧ I (xs.foldl g s)
  | [], s, h, _ => ⟨rfl, h⟩
  | x :: xs, s, h, ht => by
    obtain ⟨h1, h2⟩ := ht x (List.mem_cons_self ..) s h
    obtain ⟨h3, h4⟩ := forO_enc (xs := xs) h2 fun y hy => ht y (List.mem_cons_of_mem _ hy)
    exact ⟨by unfold forO; rw [h1]; exact h3, h4⟩
theorem rng_nat (a b : Nat) : rngL (a : Int) (b : Int) = (List.range' a (b - a)).map fun (n : Nat) => (n : Int) := by
  have hu : ∀ (n a : Nat), upto (a : Int) n = (List.range' a n).map fun (n : Nat) => (n : Int) := fun n => by
    induction n with
    | zero => intro a; rfl
    | succ n ih =>
      intro a
      have := ih (a + 1)
      rw [List.range'_succ, List.map_cons, ← this]; rfl
  unfold rngL
  rw [show ((b : Int) - a).toNat = b - a by omega, hu]
theorem rng0_nat (b : Nat) : rngL 0 (b : Int) = (List.range b).map fun (n : Nat) => (n : Int) := by
  have := rng_nat 0 b
  rw [Nat.sub_zero] at this
  rw [List.range_eq_range']
  exact this
theorem frg0 {b : Nat} (h : b < 16777216) : frg 0 (b : Int) = some ((List.range b).map fun (n : Nat) => (n : Int)) := by
  unfold frg
  rw [if_pos ⟨by decide, inB_nat h⟩, rng0_nat]
theorem frg_nat {a b : Nat} (ha : a < 16777216) (h : b < 16777216) : frg (a : Int) (b : Int) = some ((List.range' a (b - a)).map fun (n : Nat) => (n : Int)) := by
  unfold frg
  rw [if_pos ⟨inB_nat ha, inB_nat h⟩, rng_nat]
theorem frng0 {b : Nat} (h : b ≤ 1000000) : frng 0 (b : Int) = some ((List.range b).map fun (n : Nat) => (n : Int)) := by
  unfold frng
  rw [if_pos ⟨by decide, inB_nat (by omega), by unfold sizeLine; omega⟩, rng0_nat]
theorem mkr0 {b : Nat} (h : b ≤ 1000000) : mkr 0 (b : Int) = some () := if_pos ⟨by decide, inB_nat (by omega)⟩
/-! while: it ends by a measure -/
theorem limN_meas {f : σ → Option (σ ⊕ ρ)} {I : σ → Prop} {m : σ → Nat} {Q : ρ → Prop} (ht : ∀ s, I s → (∃ r, f s = some (.inr r) ∧ Q r) ∨ (∃ s', f s = some (.inl s') ∧ I s' ∧ m s' < m s)) : ∀ {s : σ}, I s → ∃ r, limN f s = some r ∧ Q r := by
  have go : ∀ (n : Nat) (s : σ), m s ≤ n → I s → ∃ r, limN f s = some r ∧ Q r := fun n => by
    induction n with
    | zero =>
      intro s hm hi
      rcases ht s hi with ⟨r, h1, h2⟩ | ⟨s', h1, _, h3⟩
      · exact ⟨r, limN_stop h1, h2⟩
      · omega
    | succ n ih =>
      intro s hm hi
      rcases ht s hi with ⟨r, h1, h2⟩ | ⟨s', h1, h2, h3⟩
      · exact ⟨r, limN_stop h1, h2⟩
      · obtain ⟨r, h4, h5⟩ := ih s' (by omega) h2
        exact ⟨r, by rw [limN_step h1]; exact h4, h5⟩
  exact fun {s} hi => go (m s) s (Nat.le_refl _) hi
/-! sorting, unlike ones -/
theorem insP (x : Int) : ∀ l : List Int, (ins x l).Perm (x :: l)
  | [] => .refl _
  | y :: r => by
    unfold ins
    split
    · exact .refl _
    · exact ((insP x r).cons y).trans (.swap x y r)
theorem isortP : ∀ l : List Int, (isort l).Perm l
  | [] => .refl _
  | x :: r => (insP x (isort r)).trans ((isortP r).cons x)
theorem memIsort {x : Int} {l : List Int} : x ∈ isort l ↔ x ∈ l := (isortP l).mem_iff
theorem insSorted {x : Int} : ∀ {l : List Int}, l.Pairwise (· ≤ ·) → (ins x l).Pairwise (· ≤ ·)
  | [], _ => by unfold ins; exact List.pairwise_singleton _ _
  | y :: r, h => by
    unfold ins
    rw [List.pairwise_cons] at h
    split
    · rename_i q
      exact List.pairwise_cons.mpr ⟨fun z hz => by
        rcases List.mem_cons.mp hz with rfl | hz
        · exact q
        · exact Int.le_trans q (h.1 z hz), List.pairwise_cons.mpr h⟩
    · rename_i q
      refine List.pairwise_cons.mpr ⟨fun z hz => ?_, insSorted h.2⟩
      rcases List.mem_cons.mp ((insP x r).mem_iff.mp hz) with rfl | hz
      · omega
      · exact h.1 z hz
theorem isortSorted : ∀ l : List Int, (isort l).Pairwise (· ≤ ·)
  | [] => .nil
  | x :: r => insSorted (isortSorted r)
theorem sorted_eq {l m : List Int} (h : l.Pairwise (· ≤ ·)) (k : m.Pairwise (· ≤ ·)) (p : l.Perm m) : l = m := by
  induction l generalizing m with
  | nil => exact (List.nil_perm.mp p).symm
  | cons x l ih =>
    cases m with
    | nil => exact absurd p.length_eq (by simp)
    | cons y m =>
      rw [List.pairwise_cons] at h k
      have hx : x = y := by
        have h1 : x ∈ y :: m := p.mem_iff.mp (List.mem_cons_self ..)
        have h2 : y ∈ x :: l := p.mem_iff.mpr (List.mem_cons_self ..)
        rcases List.mem_cons.mp h1 with q | q
        · exact q
        · rcases List.mem_cons.mp h2 with q2 | q2
          · exact q2.symm
          · have := h.1 y q2
            have := k.1 x q
            omega
      subst hx
      rw [ih h.2 k.2 (List.Perm.cons_inv p)]
theorem isort_id {l : List Int} (h : l.Pairwise (· ≤ ·)) : isort l = l := sorted_eq (isortSorted l) h (isortP l)
theorem lt_le {l : List Int} (h : l.Pairwise (· < ·)) : l.Pairwise (· ≤ ·) := h.imp fun h => by omega
theorem lt_nodup {l : List Int} (h : l.Pairwise (· < ·)) : l.Nodup := h.imp fun h => by omega
theorem le_lt {l : List Int} (h : l.Pairwise (· ≤ ·)) (k : l.Nodup) : l.Pairwise (· < ·) := by
  have : l.Pairwise (fun a b => a ≤ b ∧ a ≠ b) := h.and k
  exact this.imp fun h => by omega
theorem dedupNodup : ∀ l : List Int, (dedup l).Nodup
  | [] => .nil
  | x :: r => by
    unfold dedup
    split
    · exact dedupNodup r
    · rename_i q
      exact List.nodup_cons.mpr ⟨fun h => q (by rw [List.contains_iff_mem]; exact h), dedupNodup r⟩
theorem memDedup {x : Int} {l : List Int} : x ∈ dedup l ↔ x ∈ l := mem_dedup0 x l
theorem dedup_len (l : List Int) : (dedup l).length ≤ l.length := by
  induction l with
  | nil => exact Nat.le_refl _
  | cons x r ih =>
    unfold dedup
    split
    · simp only [List.length_cons]; omega
    · simp only [List.length_cons]; omega
theorem dedup_id {l : List Int} (h : l.Nodup) : dedup l = l := by
  induction l with
  | nil => rfl
  | cons x r ih =>
    rw [List.nodup_cons] at h
    unfold dedup
    rw [if_neg (by rw [List.contains_iff_mem, memDedup]; exact h.1), ih h.2]
/-- strictly rising lists with the same members are the same -/
theorem rise_eq {l m : List Int} (h : l.Pairwise (· < ·)) (k : m.Pairwise (· < ·)) (e : ∀ x, x ∈ l ↔ x ∈ m) : l = m :=
  sorted_eq (lt_le h) (lt_le k) ((List.perm_ext_iff_of_nodup (lt_nodup h) (lt_nodup k)).mpr e)
/-- tuple(sorted(set(..))) -/
def gath (l : List Int) : List Int := isort (dedup l)
theorem gath_rise (l : List Int) : (gath l).Pairwise (· < ·) := le_lt (isortSorted _) ((isortP _).nodup_iff.mpr (dedupNodup l))
theorem mem_gath {x : Int} {l : List Int} : x ∈ gath l ↔ x ∈ l := by unfold gath; rw [memIsort, memDedup]
theorem gath_eq {l m : List Int} (e : ∀ x, x ∈ l ↔ x ∈ m) : gath l = gath m := rise_eq (gath_rise l) (gath_rise m) fun x => by rw [mem_gath, mem_gath, e]
theorem gath_id {l : List Int} (h : l.Pairwise (· < ·)) : gath l = l := rise_eq (gath_rise l) h fun x => mem_gath
theorem fset_of {l : List Int} (h : (dedup l).length + 1 < scanBound) : fset l = some (dedup l) := if_pos h
/-- members among so many -/
theorem dedup_among {l L : List Int} (h : ∀ x ∈ l, x ∈ L) : (dedup l).length ≤ L.length := nodup_len (dedupNodup l) fun x hx => h x (memDedup.mp hx)
/-! draws -/
theorem roll_ex (c : CupT) {m : Nat} (hm : 0 < m) (hl : m < 1000000) : ∃ (v : Nat) (c' : CupT), froll c (m : Int) = some ((v : Int), c') ∧ v < m := by
  obtain ⟨v, c', h1, h2, h3⟩ := froll_ex c (m := (m : Int)) (by omega) (by omega)
  obtain ⟨n, rfl⟩ : ∃ n : Nat, v = (n : Int) := ⟨v.toNat, by omega⟩
  exact ⟨n, c', h1, by omega⟩
/-- a comprehension that draws: its items are images of some of the list's -/
theorem lcO_ex {f : α → σ → Option (Option β × σ)} {g : α → Option β → Prop} {J : σ → Prop} : ∀ {xs : List α} {s : σ}, J s → (∀ x ∈ xs, ∀ s, J s → ∃ o s', f x s = some (o, s') ∧ g x o ∧ J s') → ∃ (os : List (Option β)) (s' : σ), lcO f xs s = some (os.filterMap id, s') ∧ J s' ∧ os.length = xs.length ∧ ∀ (i : Nat) (x : α) (o : Option β), xs[i]? = some x → os[i]? = some o → g x o
  | [], s, hj, _ => ⟨[], s, rfl, hj, rfl, fun i x o h => by simp at h⟩
  | x :: xs, s, hj, h => by
    obtain ⟨o, s1, h1, h2, h3⟩ := h x (List.mem_cons_self ..) s hj
    obtain ⟨os, s2, h4, h5, h6, h7⟩ := lcO_ex (xs := xs) h3 fun y hy => h y (List.mem_cons_of_mem _ hy)
    refine ⟨o :: os, s2, ?_, h5, by simp [h6], fun i y q => ?_⟩
    · unfold lcO
      rw [h1]
      show (lcO f xs s1).bind _ = _
      rw [h4]
      cases o <;> rfl
    · cases i with
      | zero => intro a b; simp at a b; subst a b; exact h2
      | succ i => intro a b; exact h7 i y q (by simpa using a) (by simpa using b)
theorem lcS_of {f : α → σ → Option (Option β × σ)} {xs : List α} {s : σ} (hz : xs.length ≤ sizeLine) : lcS f xs s = lcO f xs s := if_pos hz
end
end L2.Pz
set_option Elab.async false
set_option linter.all false
set_option maxRecDepth 100000
set_option maxHeartbeats 4000000
namespace Lw
set_option autoImplicit false
open PySem hiding run
open L2 L2.Pz
/-! numbers as Ints, rising rows -/
abbrev cN : Nat → Int := fun n => (n : Int)
def cL (l : List Nat) : List Int := l.map cN
theorem mod_nat (a b h : Nat) : ((a : Int) + (b : Int)) % (h : Int) = (((a + b) % h : Nat) : Int) := by rw [Int.natCast_emod, Int.natCast_add]
theorem sz_of {α : Type} {l : List α} (h : l.length ≤ 1000000) : l.length ≤ sizeLine := by unfold sizeLine; omega
theorem cL_len (l : List Nat) : (cL l).length = l.length := List.length_map ..
theorem mem_cL {x : Int} {l : List Nat} : x ∈ cL l ↔ ∃ n ∈ l, x = (n : Int) := by
  unfold cL
  rw [List.mem_map]
  exact ⟨fun ⟨n, h, e⟩ => ⟨n, h, e.symm⟩, fun ⟨n, h, e⟩ => ⟨n, h, e.symm⟩⟩
theorem mem_cLn {x : Nat} {l : List Nat} : (x : Int) ∈ cL l ↔ x ∈ l := by
  rw [mem_cL]
  constructor
  · rintro ⟨n, h, e⟩
    have : x = n := by omega
    rw [this]; exact h
  · exact fun h => ⟨x, h, rfl⟩
theorem mem_rng {x : Int} {h : Nat} : x ∈ cL (List.range h) ↔ 0 ≤ x ∧ x < h := by
  rw [mem_cL]
  constructor
  · rintro ⟨n, hn, rfl⟩
    have := List.mem_range.mp hn
    omega
  · rintro ⟨h1, h2⟩
    exact ⟨x.toNat, List.mem_range.mpr (by omega), by omega⟩
theorem cL_up {l : List Nat} : (cL l).Pairwise (· < ·) ↔ l.Pairwise (· < ·) := by
  unfold cL
  rw [List.pairwise_map]
  constructor <;> intro h <;> exact h.imp fun h => by simpa using h
/-- all neighbours rise -/
theorem zip_tail {α : Type} {l : List α} {R : α → α → Prop} [DecidableRel R] (tr : ∀ {x y z}, R x y → R y z → R x z) : ((l.zip l.tail).map fun p => decide (R p.1 p.2)).all id = true ↔ l.Pairwise R := by
  induction l with
  | nil => simp
  | cons x l ih =>
    cases l with
    | nil => simp
    | cons y l =>
      rw [List.tail_cons, List.zip_cons_cons, List.map_cons, List.all_cons, Bool.and_eq_true]
      rw [List.tail_cons] at ih
      rw [ih, List.pairwise_cons (a := x)]
      show decide (R x y) = true ∧ _ ↔ _
      rw [decide_eq_true_eq]
      constructor
      · rintro ⟨h1, h2⟩
        refine ⟨fun z hz => ?_, h2⟩
        rcases List.mem_cons.mp hz with rfl | hz
        · exact h1
        · exact tr h1 ((List.pairwise_cons.mp h2).1 z hz)
      · rintro ⟨h1, h2⟩
        exact ⟨h1 y (List.mem_cons_self ..), h2⟩
theorem cut1 {α : Type} (l : List α) : cutI l (some (1 : Int)) none = l.tail := by
  have h1 : HT.sIx l.length 0 (some (1 : Int)) = min 1 l.length := HT.sIx_nat _ _ 1
  have h2 : HT.sIx l.length l.length none = l.length := rfl
  unfold cutI
  rw [h1, h2]
  cases l with
  | nil => rfl
  | cons x l =>
    have : min 1 (x :: l).length = 1 := by simp
    rw [this]
    simp
theorem perm_sum {l m : List Int} (p : l.Perm m) : l.sum = m.sum := by
  induction p with
  | nil => rfl
  | cons x p ih => rw [List.sum_cons, List.sum_cons, ih]
  | swap x y l => rw [List.sum_cons, List.sum_cons, List.sum_cons, List.sum_cons]; omega
  | trans p q ih jh => rw [ih, jh]
theorem forR_all {α σ ρ : Type} {f : α → σ → Option (σ ⊕ ρ)} : ∀ {xs : List α} {s : σ}, (∀ x ∈ xs, f x s = some (.inl s)) → forR f xs s = some (.inl s)
  | [], _, _ => rfl
  | x :: xs, s, h => by
    unfold forR
    rw [h x (List.mem_cons_self ..)]
    exact forR_all fun y hy => h y (List.mem_cons_of_mem _ hy)
/-- the first that is found -/
theorem forR_find {α ρ : Type} {f : α → Unit → Option (Unit ⊕ ρ)} {p : α → Bool} {g : α → ρ} : ∀ {xs : List α}, (∀ x ∈ xs, f x () = some (if p x = true then .inr (g x) else .inl ())) → forR f xs () = some (match xs.find? p with
    | some x => .inr (g x)
    | none => .inl ())
  | [], _ => rfl
  | x :: xs, h => by
    unfold forR
    rw [h x (List.mem_cons_self ..), Option.bind_some, List.find?_cons]
    cases q : p x with
    | true => rfl
    | false => exact forR_find fun y hy => h y (List.mem_cons_of_mem _ hy)
/-- rows of hours -/
structure CI (h : Nat) (l : List Int) : Prop where
  hh : 0 < h
  h4 : h ≤ 400
  up : l.Pairwise (· < ·)
  lo : ∀ x ∈ l, 0 ≤ x ∧ x < (h : Int)
theorem CI.len {h : Nat} {l : List Int} (c : CI h l) : l.length ≤ h := by
  have := nodup_len (lt_nodup c.up) (L := cL (List.range h)) fun x hx => mem_rng.mpr (c.lo x hx)
  rwa [cL_len, List.length_range] at this
theorem nodup_back {l L : List Int} (h : l.Nodup) (s : ∀ x ∈ l, x ∈ L) (hl : L.length ≤ l.length) : ∀ y ∈ L, y ∈ l := by
  intro y hy
  apply Classical.byContradiction
  intro n
  have := nodup_len (l := y :: l) (L := L) (List.nodup_cons.mpr ⟨n, h⟩) fun k hk => by
    rcases List.mem_cons.mp hk with rfl | hk
    · exact hy
    · exact s k hk
  rw [List.length_cons] at this
  omega
end Lw
set_option Elab.async false
set_option linter.all false
set_option maxRecDepth 100000
set_option maxHeartbeats 4000000
namespace Lw
set_option autoImplicit false
open PySem hiding run
open L2 L2.Pz
/-! images of rows by times and shifts, on a clock -/
def PP (h : Nat) (l : List Int) (t b : Int) : List Int := l.map fun x => (x * t + b) % (h : Int)
def AA (h : Nat) (l : List Int) (t b : Int) : List Int := isort (PP h l t b)
section
variable {h : Nat} {l : List Int}
theorem em1 (a s c k : Int) : ((a % k) * s + c) % k = (a * s + c) % k := by
  rw [Int.add_emod, Int.mul_emod, Int.emod_emod, ← Int.mul_emod, ← Int.add_emod]
theorem em2 (x t b k : Int) : (x * (t % k) + b % k) % k = (x * t + b) % k := by
  rw [Int.add_emod, Int.mul_emod, Int.emod_emod, Int.emod_emod, ← Int.mul_emod, ← Int.add_emod]
theorem PP_PP (t b s c : Int) : PP h (PP h l t b) s c = PP h l (t * s) (b * s + c) := by
  unfold PP
  rw [List.map_map]
  apply List.map_congr_left
  intro x _
  show ((x * t + b) % (h : Int) * s + c) % (h : Int) = _
  rw [em1, Int.add_mul, Int.mul_assoc, Int.add_assoc]
theorem PP_congr {t t' b b' : Int} (ht : t % (h : Int) = t' % (h : Int)) (hb : b % (h : Int) = b' % (h : Int)) : PP h l t b = PP h l t' b' := by
  unfold PP
  apply List.map_congr_left
  intro x _
  rw [← em2 x t b, ht, hb, em2]
theorem PP_perm {l' : List Int} (p : l.Perm l') (t b : Int) : (PP h l t b).Perm (PP h l' t b) := p.map _
theorem AA_perm (t b : Int) : (AA h l t b).Perm (PP h l t b) := isortP _
theorem AA_eq {l' : List Int} {t b t' b' : Int} : AA h l t b = AA h l' t' b' ↔ (PP h l t b).Perm (PP h l' t' b') :=
  ⟨fun e => ((isortP _).symm.trans (by rw [show isort (PP h l t b) = isort (PP h l' t' b') from e])).trans (isortP _), fun p => sorted_eq (isortSorted _) (isortSorted _) (((isortP _).trans p).trans (isortP _).symm)⟩
theorem PP_id (c : CI h l) : PP h l 1 0 = l := by
  unfold PP
  conv => rhs; rw [← List.map_id l]
  apply List.map_congr_left
  intro x hx
  obtain ⟨h1, h2⟩ := c.lo x hx
  show (x * 1 + 0) % (h : Int) = x
  rw [Int.mul_one, Int.add_zero, Int.emod_eq_of_lt h1 h2]
theorem AA_id (c : CI h l) : AA h l 1 0 = l := by
  unfold AA
  rw [PP_id c, isort_id (lt_le c.up)]
theorem PP_len (t b : Int) : (PP h l t b).length = l.length := List.length_map ..
theorem PP_lo (hh : 0 < h) {t b : Int} : ∀ x ∈ PP h l t b, 0 ≤ x ∧ x < (h : Int) := by
  intro x hx
  obtain ⟨y, _, rfl⟩ := List.mem_map.mp hx
  exact ⟨Int.emod_nonneg _ (by omega), Int.emod_lt_of_pos _ (by omega)⟩
theorem PP_sum (t b : Int) : (PP h l t b).sum % (h : Int) = (t * l.sum + b * (l.length : Int)) % (h : Int) := by
  induction l with
  | nil => simp [PP]
  | cons x l ih =>
    show ((x * t + b) % (h : Int) + (PP h l t b).sum) % (h : Int) = _
    rw [Int.add_emod, Int.emod_emod, ih, ← Int.add_emod, List.sum_cons, List.length_cons]
    congr 1
    rw [Int.mul_add, Int.natCast_add, Int.mul_add, Int.mul_comm x t]
    show _ = _ + (_ + b * 1)
    rw [Int.mul_one]
    omega
/-- coprime times may be left out -/
theorem cop_dvd {a k : Int} (g : Nat.gcd k.natAbs h = 1) (e : (a * k) % (h : Int) = 0) : a % (h : Int) = 0 := by
  have d : (h : Int) ∣ a * k := Int.dvd_of_emod_eq_zero e
  have d2 : h ∣ a.natAbs * k.natAbs := by
    rw [← Int.natAbs_mul]
    have := Int.natAbs_dvd_natAbs.mpr d
    simpa using this
  have d3 : h ∣ a.natAbs := Nat.Coprime.dvd_of_dvd_mul_right (by rw [Nat.Coprime, Nat.gcd_comm]; exact g) d2
  exact Int.emod_eq_zero_of_dvd (Int.ofNat_dvd_left.mpr d3)
theorem cop_inj {t b x y : Int} (g : Nat.gcd t.natAbs h = 1) (hx : 0 ≤ x ∧ x < (h : Int)) (hy : 0 ≤ y ∧ y < (h : Int)) (e : (x * t + b) % (h : Int) = (y * t + b) % (h : Int)) : x = y := by
  have e2 := Int.emod_eq_emod_iff_emod_sub_eq_zero.mp e
  rw [show x * t + b - (y * t + b) = (x - y) * t by rw [Int.sub_mul]; omega] at e2
  have e3 := cop_dvd g e2
  have e4 := Int.emod_eq_emod_iff_emod_sub_eq_zero.mpr e3
  rw [Int.emod_eq_of_lt hx.1 hx.2, Int.emod_eq_of_lt hy.1 hy.2] at e4
  exact e4
theorem PP_nodup (c : CI h l) {t b : Int} (g : Nat.gcd t.natAbs h = 1) : (PP h l t b).Nodup := by
  unfold PP
  rw [List.Nodup, List.pairwise_map]
  have key : ∀ {m : List Int}, (∀ x ∈ m, 0 ≤ x ∧ x < (h : Int)) → m.Pairwise (· < ·) → m.Pairwise fun x y => (x * t + b) % (h : Int) ≠ (y * t + b) % (h : Int) := by
    intro m
    induction m with
    | nil => intro _ _; exact .nil
    | cons x m ih =>
      intro hm hp
      rw [List.pairwise_cons] at hp ⊢
      refine ⟨fun y hy e => ?_, ih (fun y hy => hm y (List.mem_cons_of_mem _ hy)) hp.2⟩
      have := cop_inj g (hm x (List.mem_cons_self ..)) (hm y (List.mem_cons_of_mem _ hy)) e
      have := hp.1 y hy
      omega
  exact key c.lo c.up
theorem AA_CI (c : CI h l) {t b : Int} (g : Nat.gcd t.natAbs h = 1) : CI h (AA h l t b) :=
  ⟨c.hh, c.h4, le_lt (isortSorted _) ((isortP _).nodup_iff.mpr (PP_nodup c g)), fun x hx => PP_lo c.hh x (memIsort.mp hx)⟩
/-! shifts -/
def sh (h : Nat) (l : List Int) (t : Int) : Option Int := (cL (List.range h)).find? fun b => decide (AA h l 1 b = AA h l t 0)
def kp (h : Nat) (l : List Int) (t : Int) : Option Int := (cL (List.range h)).find? fun b => decide (AA h (AA h l 1 b) t 0 = AA h l 1 b)
theorem sh_iff (hh : 0 < h) {t : Int} : sh h l t ≠ none ↔ ∃ c : Int, (PP h l 1 c).Perm (PP h l t 0) := by
  unfold sh
  rw [Ne, List.find?_eq_none]
  constructor
  · intro n
    apply Classical.byContradiction
    intro m
    refine n fun b hb e => m ⟨b, AA_eq.mp (of_decide_eq_true e)⟩
  · rintro ⟨c, p⟩ n
    refine n (c % (h : Int)) (mem_rng.mpr ⟨Int.emod_nonneg _ (by omega), Int.emod_lt_of_pos _ (by omega)⟩) (decide_eq_true (AA_eq.mpr ?_))
    rw [PP_congr (t' := 1) (b' := c) rfl (Int.emod_emod _ _)]
    exact p
theorem sh_mul (hh : 0 < h) {s t : Int} (h1 : sh h l s ≠ none) (h2 : sh h l t ≠ none) : sh h l ((s * t) % (h : Int)) ≠ none := by
  obtain ⟨c, p⟩ := (sh_iff hh).mp h1
  obtain ⟨d, q⟩ := (sh_iff hh).mp h2
  refine (sh_iff hh).mpr ⟨d + c * t, ?_⟩
  have p2 := PP_perm (h := h) p t 0
  rw [PP_PP, PP_PP] at p2
  have q2 := PP_perm (h := h) q 1 (c * t)
  rw [PP_PP, PP_PP] at q2
  rw [PP_congr (t := (s * t) % (h : Int)) (t' := s * t) (b' := 0) (Int.emod_emod _ _) rfl]
  have e1 : PP h l (1 * 1) (d * 1 + c * t) = PP h l 1 (d + c * t) := by rw [Int.mul_one, Int.mul_one]
  have e2 : PP h l (t * 1) (0 * 1 + c * t) = PP h l (1 * t) (c * t + 0) := by rw [Int.mul_one, Int.one_mul]; simp
  have e3 : PP h l (s * t) (0 * t + 0) = PP h l (s * t) 0 := by simp
  rw [e1, e2] at q2
  rw [e3] at p2
  exact q2.trans p2
/-- the row whose sum is nought is kept -/
theorem sh_kept (c : CI h l) (g : Nat.gcd l.length h = 1) {b t : Int} (hb : (l.sum + b * (l.length : Int)) % (h : Int) = 0) (ht : sh h l t ≠ none) : AA h (AA h l 1 b) t 0 = AA h l 1 b := by
  obtain ⟨d, p⟩ := (sh_iff c.hh).mp ht
  have c1 : CI h (AA h l 1 b) := AA_CI c (by show Nat.gcd 1 h = 1; rw [Nat.gcd_one_left])
  have e1 : (PP h (AA h l 1 b) t 0).Perm (PP h l t (b * t)) := by
    have := PP_perm (h := h) (AA_perm (h := h) (l := l) 1 b) t 0
    rw [PP_PP, Int.one_mul, Int.add_zero] at this
    exact this
  have e2 : (PP h l 1 (d + b * t)).Perm (PP h l t (b * t)) := by
    have := PP_perm (h := h) p 1 (b * t)
    rw [PP_PP, PP_PP, Int.mul_one, Int.mul_one, Int.mul_one, Int.zero_mul, Int.zero_add] at this
    exact this
  have e3 : (PP h (AA h l 1 b) 1 (d + b * t - b)).Perm (PP h l 1 (d + b * t)) := by
    have := PP_perm (h := h) (AA_perm (h := h) (l := l) 1 b) 1 (d + b * t - b)
    rw [PP_PP, Int.mul_one, Int.mul_one, show b + (d + b * t - b) = d + b * t by omega] at this
    exact this
  have e4 : (PP h (AA h l 1 b) t 0).Perm (PP h (AA h l 1 b) 1 (d + b * t - b)) := e1.trans (e2.symm.trans e3.symm)
  have s0 : (AA h l 1 b).sum % (h : Int) = 0 := by
    rw [perm_sum (AA_perm 1 b), PP_sum, Int.one_mul]; exact hb
  have s1 := PP_sum (h := h) (l := AA h l 1 b) t 0
  have s2 := PP_sum (h := h) (l := AA h l 1 b) 1 (d + b * t - b)
  have hl : (AA h l 1 b).length = l.length := by rw [(AA_perm 1 b).length_eq, PP_len]
  rw [Int.zero_mul, Int.add_zero, Int.mul_emod, s0, Int.mul_zero, Int.zero_emod, perm_sum e4, s2, Int.one_mul, Int.add_emod, s0, Int.zero_add, Int.emod_emod, hl] at s1
  have z := cop_dvd (k := (l.length : Int)) (by rw [Int.natAbs_natCast]; exact g) s1
  have e5 : PP h (AA h l 1 b) 1 (d + b * t - b) = PP h (AA h l 1 b) 1 0 := PP_congr rfl (by rw [z, Int.zero_emod])
  rw [e5, PP_id c1] at e4
  conv => rhs; rw [← isort_id (lt_le c1.up)]
  exact sorted_eq (isortSorted _) (isortSorted _) (((isortP _).trans e4).trans (isortP _).symm)
/-- images of rows with a shift have one -/
theorem sh_image (hh : 0 < h) {p t b : Int} (hp : sh h l p ≠ none) : sh h (AA h l t b) p ≠ none := by
  obtain ⟨c, q⟩ := (sh_iff hh).mp hp
  refine (sh_iff hh).mpr ⟨c * t + b * p - b, ?_⟩
  have e1 := PP_perm (h := h) (AA_perm (h := h) (l := l) t b) 1 (c * t + b * p - b)
  have e2 := PP_perm (h := h) (AA_perm (h := h) (l := l) t b) p 0
  have q2 := PP_perm (h := h) q t (b * p)
  rw [PP_PP] at e1 e2
  rw [PP_PP, PP_PP] at q2
  rw [Int.mul_one, Int.mul_one, show b + (c * t + b * p - b) = c * t + b * p by omega] at e1
  rw [Int.add_zero] at e2
  rw [Int.one_mul, Int.zero_mul, Int.zero_add, Int.mul_comm p t] at q2
  exact e1.trans (q2.trans e2.symm)
end
end Lw
set_option Elab.async false
set_option linter.all false
set_option maxRecDepth 100000
set_option maxHeartbeats 4000000
namespace Lw
set_option autoImplicit false
open PySem hiding run
open L2 L2.Pz
/-! how often each difference comes -/
def tal (h : Nat) (ds : List Int) : List Int := (List.range h).map fun (d : Nat) => ((ds.count (d : Int) : Nat) : Int)
section
variable {h : Nat} {l : List Int}
theorem tal_len (ds : List Int) : (tal h ds).length = h := by unfold tal; rw [List.length_map, List.length_range]
theorem tal_get {ds : List Int} {d : Nat} (hd : d < h) : (tal h ds)[d]? = some ((ds.count (d : Int) : Nat) : Int) := by
  unfold tal
  rw [List.getElem?_map, List.getElem?_range hd]; rfl
theorem tal_nil : tal h [] = List.replicate h 0 := by
  apply List.ext_getElem?
  intro i
  by_cases q : i < h
  · rw [tal_get q, List.getElem?_replicate, if_pos q]; rfl
  · rw [List.getElem?_eq_none (by rw [tal_len]; omega), List.getElem?_eq_none (by rw [List.length_replicate]; omega)]
theorem tal_set {ds : List Int} {d : Nat} (hd : d < h) : (tal h ds).set d (((ds.count (d : Int) : Nat) : Int) + 1) = tal h (ds ++ [(d : Int)]) := by
  apply List.ext_getElem?
  intro i
  by_cases q : i < h
  · rw [List.getElem?_set, tal_get q, tal_get q, tal_len, List.count_append]
    by_cases e : d = i
    · subst e
      rw [if_pos rfl, if_pos hd]
      simp
    · rw [if_neg e]
      have : ¬ ((d : Int) = (i : Int)) := by omega
      simp [List.count_singleton, this]
  · rw [List.getElem?_eq_none (by rw [List.length_set, tal_len]; omega), List.getElem?_eq_none (by rw [tal_len]; omega)]
/-- all differences -/
def dfs (h : Nat) (l m : List Int) : List Int := l.flatMap fun x => m.map fun y => (x - y) % (h : Int)
theorem cnt_one (c : CI h l) {x : Int} {d : Int} (hd : 0 ≤ d ∧ d < (h : Int)) : (l.map fun y => (x - y) % (h : Int)).count d = if (x - d) % (h : Int) ∈ l then 1 else 0 := by
  have hh := c.hh
  have nd : (l.map fun y => (x - y) % (h : Int)).Nodup := by
    have := PP_nodup c (t := -1) (b := x) (by show Nat.gcd 1 h = 1; rw [Nat.gcd_one_left])
    have e : PP h l (-1) x = l.map fun y => (x - y) % (h : Int) := by
      unfold PP
      apply List.map_congr_left
      intro y _
      show (y * -1 + x) % _ = _
      congr 1
      omega
    rwa [e] at this
  have iff : d ∈ (l.map fun y => (x - y) % (h : Int)) ↔ (x - d) % (h : Int) ∈ l := by
    rw [List.mem_map]
    constructor
    · rintro ⟨y, hy, e⟩
      have : (x - d) % (h : Int) = y := by
        rw [← e, Int.sub_emod, Int.emod_emod, ← Int.sub_emod, show x - (x - y) = y by omega]
        exact Int.emod_eq_of_lt (c.lo y hy).1 (c.lo y hy).2
      rw [this]; exact hy
    · intro hy
      refine ⟨_, hy, ?_⟩
      rw [Int.sub_emod, Int.emod_emod, ← Int.sub_emod, show x - (x - d) = d by omega]
      exact Int.emod_eq_of_lt hd.1 hd.2
  by_cases q : (x - d) % (h : Int) ∈ l
  · rw [if_pos q, List.Nodup.count nd, if_pos (iff.mpr q)]
  · rw [if_neg q, List.Nodup.count nd, if_neg fun z => q (iff.mp z)]
theorem cnt_dfs (c : CI h l) {d : Int} (hd : 0 ≤ d ∧ d < (h : Int)) : ∀ m : List Int, (dfs h m l).count d = (m.filter fun x => decide ((x - d) % (h : Int) ∈ l)).length
  | [] => rfl
  | x :: m => by
    show ((l.map fun y => (x - y) % (h : Int)) ++ dfs h m l).count d = _
    rw [List.count_append, cnt_one c hd, cnt_dfs c hd m, List.filter_cons]
    by_cases q : (x - d) % (h : Int) ∈ l
    · rw [if_pos q, if_pos (decide_eq_true q), List.length_cons]; omega
    · rw [if_neg q, if_neg (by rw [decide_eq_false q]; decide)]; omega
/-- as many on as back -/
theorem on_back (c : CI h l) (d : Int) : (l.filter fun x => decide ((x - d) % (h : Int) ∈ l)).length = (l.filter fun y => decide ((y + d) % (h : Int) ∈ l)).length := by
  have hh := c.hh
  have le : ∀ e : Int, (l.filter fun x => decide ((x + e) % (h : Int) ∈ l)).length ≤ (l.filter fun y => decide ((y + -e) % (h : Int) ∈ l)).length := by
    intro e
    have c2 : CI h (l.filter fun x => decide ((x + e) % (h : Int) ∈ l)) := ⟨c.hh, c.h4, c.up.filter _, fun x hx => c.lo x (List.mem_filter.mp hx).1⟩
    have nd := PP_nodup c2 (t := 1) (b := e) (by show Nat.gcd 1 h = 1; rw [Nat.gcd_one_left])
    have := nodup_len nd (L := l.filter fun y => decide ((y + -e) % (h : Int) ∈ l)) fun z hz => by
      obtain ⟨x, hx, rfl⟩ := List.mem_map.mp hz
      obtain ⟨x1, x2⟩ := List.mem_filter.mp hx
      have x2 := of_decide_eq_true x2
      show (x * 1 + e) % (h : Int) ∈ _
      rw [Int.mul_one]
      refine List.mem_filter.mpr ⟨x2, decide_eq_true ?_⟩
      rw [Int.add_emod, Int.emod_emod, ← Int.add_emod, show x + e + -e = x by omega, Int.emod_eq_of_lt (c.lo x x1).1 (c.lo x x1).2]
      exact x1
    rwa [PP_len] at this
  have h1 := le d
  have h2 := le (-d)
  rw [Int.neg_neg] at h2
  have e : (fun x : Int => decide ((x - d) % (h : Int) ∈ l)) = fun x => decide ((x + -d) % (h : Int) ∈ l) := by
    funext x; rw [Int.sub_eq_add_neg]
  rw [e]
  omega
theorem sum_tal_add (ds : List Int) (d : Int) (hd : 0 ≤ d ∧ d < (h : Int)) : (tal h (d :: ds)).sum = (tal h ds).sum + 1 := by
  have key : ∀ (n : Nat), ((List.range n).map fun (k : Nat) => (((d :: ds).count (k : Int) : Nat) : Int)).sum = ((List.range n).map fun (k : Nat) => ((ds.count (k : Int) : Nat) : Int)).sum + (if d < (n : Int) then 1 else 0) := by
    intro n
    induction n with
    | zero => simp; omega
    | succ n ih =>
      rw [List.range_succ, List.map_append, List.map_append, List.sum_append, List.sum_append, ih, List.map_singleton, List.map_singleton, List.sum_singleton, List.sum_singleton, List.count_cons]
      by_cases q : d = (n : Int)
      · rw [if_pos (show (d == (n : Int)) = true by rw [q]; exact beq_self_eq_true _), if_neg (show ¬ d < (n : Int) by omega), if_pos (show d < ((n + 1 : Nat) : Int) by omega)]
        omega
      · rw [if_neg (show ¬ (d == (n : Int)) = true by rw [beq_iff_eq]; exact q)]
        by_cases q3 : d < (n : Int)
        · rw [if_pos q3, if_pos (show d < ((n + 1 : Nat) : Int) by omega)]; omega
        · rw [if_neg q3, if_neg (show ¬ d < ((n + 1 : Nat) : Int) by omega)]; omega
  unfold tal
  rw [key h, if_pos hd.2]
theorem sum_tal : ∀ {ds : List Int}, (∀ d ∈ ds, 0 ≤ d ∧ d < (h : Int)) → (tal h ds).sum = (ds.length : Int)
  | [], _ => by
    rw [tal_nil]
    simp
  | d :: ds, hd => by
    rw [sum_tal_add ds d (hd d (List.mem_cons_self ..)), sum_tal fun x hx => hd x (List.mem_cons_of_mem _ hx), List.length_cons]
    omega
end
end Lw
set_option Elab.async false
set_option linter.all false
set_option maxRecDepth 100000
set_option maxHeartbeats 4000000
namespace Lw
set_option autoImplicit false
open PySem hiding run
open L2 L2.Pz
/-! dicts -/
section
variable {α : Type}
theorem dgt_cons (p : Int × α) (d : List (Int × α)) (j : Int) : dgt (p :: d) j = if p.1 = j then some p.2 else dgt d j := by
  unfold dgt
  rw [List.find?_cons]
  by_cases q : p.1 = j
  · rw [decide_eq_true q, if_pos q]; rfl
  · rw [decide_eq_false q, if_neg q]
theorem dgt_map (k j : Int) (x : α) : ∀ d : List (Int × α), dgt (d.map fun p => if p.1 = k then (p.1, x) else p) j = if k = j then (dgt d j).map fun _ => x else dgt d j
  | [] => by rw [List.map_nil]; split <;> rfl
  | p :: d => by
    rw [List.map_cons, dgt_cons, dgt_cons, dgt_map k j x d]
    by_cases q : p.1 = k
    · rw [if_pos q]
      by_cases q2 : k = j
      · simp [q, q2]
      · simp [q, q2]
    · rw [if_neg q]
      by_cases q2 : k = j
      · subst q2; simp [q]
      · simp [q2]
theorem dgt_any (k : Int) : ∀ d : List (Int × α), (d.any fun p => decide (p.1 = k)) = (dgt d k).isSome
  | [] => rfl
  | p :: d => by
    rw [List.any_cons, dgt_any k d, dgt_cons]
    by_cases q : p.1 = k
    · simp [q]
    · simp [q]
theorem dgt_app (k j : Int) (x : α) : ∀ d : List (Int × α), dgt (d ++ [(k, x)]) j = (dgt d j).or (if k = j then some x else none)
  | [] => by rw [List.nil_append, dgt_cons]; rfl
  | p :: d => by
    rw [List.cons_append, dgt_cons, dgt_cons, dgt_app k j x d]
    split <;> rfl
theorem dgt_put (d : List (Int × α)) (k j : Int) (x : α) : dgt (dput1 d k x) j = if k = j then some x else dgt d j := by
  unfold dput1
  rw [dgt_any]
  by_cases q : (dgt d k).isSome = true
  · rw [if_pos q, dgt_map]
    by_cases q2 : k = j
    · subst q2
      rw [if_pos rfl, if_pos rfl]
      cases e : dgt d k with
      | none => rw [e] at q; cases q
      | some v => rfl
    · rw [if_neg q2, if_neg q2]
  · rw [if_neg q, dgt_app]
    by_cases q2 : k = j
    · subst q2
      rw [if_pos rfl, if_pos rfl]
      cases e : dgt d k with
      | none => rfl
      | some v => rw [e] at q; exact (q rfl).elim
    · rw [if_neg q2, if_neg q2, Option.or_none]
theorem dgt_all (j : Int) : ∀ (r d : List (Int × α)), (dgt (dall d r) j).isSome = true ↔ (dgt d j).isSome = true ∨ ∃ p ∈ r, p.1 = j
  | [], d => by simp [dall]
  | (k, x) :: r, d => by
    show (dgt (dall (dput1 d k x) r) j).isSome = true ↔ _
    rw [dgt_all j r, dgt_put]
    by_cases q : k = j
    · subst q; simp
    · rw [if_neg q]; simp [q]
end
end Lw
set_option Elab.async false
set_option linter.all false
set_option maxRecDepth 100000
set_option maxHeartbeats 0
namespace Lw
open PySem PySem.Spec PyProof.Rows L2 L2.Pz
/-! the codes of the defs -/
def top (i : Nat) : Stmt := PySem.Challenge.pw_setsadded_k06_whole_lists_of_short_sets.main.body.getD i (.Pass ⟨0, 0, 0, 0⟩)
def c0 : Dfn := ⟨[.ro], 1, [.ret (.and (.isi .int (.var 0)) (.not (.isi .bool (.var 0))))]⟩
def t0 : Txt := ⟨(Str.ofString "is_integer"), (Str.ofString "is_integer"), defArgs (top 7), defBody (top 7), defScope (top 7), [(Str.ofString "value")]⟩
def c1 : Dfn := ⟨[.ro, .ro, .ro], 3, [.ret (.and (.call 0 [(.var 0)]) (.cmp2 .le .le (.var 1) (.var 0) (.var 2)))]⟩
def t1 : Txt := ⟨(Str.ofString "is_whole"), (Str.ofString "is_whole"), defArgs (top 8), defBody (top 8), defScope (top 8), [(Str.ofString "value"), (Str.ofString "low"), (Str.ofString "high")]⟩
def c2 : Dfn := ⟨[.ro, .ro, .ro], 3, [.ret (.and (.isi .tuple (.var 0)) (.cmp2 .le .le (.var 1) (.bi .len [(.var 0)]) (.var 2)))]⟩
def t2 : Txt := ⟨(Str.ofString "is_tuple_of"), (Str.ofString "is_tuple_of"), defArgs (top 9), defBody (top 9), defScope (top 9), [(Str.ofString "value"), (Str.ofString "low"), (Str.ofString "high")]⟩
def c3 : Dfn := ⟨[.ro], 3, [.ret (.bi .all [(.lc (.many [1, 2]) (.zip (.var 0) (.slc (.var 0) [(.con (.int 1))] [])) [] (.cmp .lt (.var 1) (.var 2)))])]⟩
def t3 : Txt := ⟨(Str.ofString "is_rising"), (Str.ofString "is_rising"), defArgs (top 10), defBody (top 10), defScope (top 10), [(Str.ofString "things"), (Str.ofString "one"), (Str.ofString "other")]⟩
def c4 : Dfn := ⟨[.val, .val], 2, [.par [0, 1] [(.bi .abs [(.var 0)]), (.bi .abs [(.var 1)])], .whl (.cmp .ne (.var 1) (.con (.int 0))) [.par [0, 1] [(.var 1), (.bin .mod (.var 0) (.var 1))]], .ret (.var 0)]⟩
def t4 : Txt := ⟨(Str.ofString "divisor_of"), (Str.ofString "divisor_of"), defArgs (top 11), defBody (top 11), defScope (top 11), [(Str.ofString "one"), (Str.ofString "other")]⟩
def c5 : Dfn := ⟨[.ro, .ro, .ro], 4, [.ret (.and (.isi .tuple (.var 0)) (.and (.bi .all [(.lc (.one 3) (.var 0) [] (.call 1 [(.var 3), (.var 1), (.var 2)]))]) (.call 3 [(.var 0)])))]⟩
def t5 : Txt := ⟨(Str.ofString "are_members"), (Str.ofString "are_members"), defArgs (top 12), defBody (top 12), defScope (top 12), [(Str.ofString "value"), (Str.ofString "low"), (Str.ofString "high"), (Str.ofString "one")]⟩
def c6 : Dfn := ⟨[.ro], 1, [.ret (.and (.call 2 [(.var 0), (.con (.int 0)), (.glo (Str.ofString "MOST_basics") (.int (400)))]) (.call 5 [(.var 0), (.un .neg (.glo (Str.ofString "GREATEST") (.int (1000000000000)))), (.glo (Str.ofString "GREATEST") (.int (1000000000000)))]))]⟩
def t6 : Txt := ⟨(Str.ofString "fits_set"), (Str.ofString "fits_set"), defArgs (top 13), defBody (top 13), defScope (top 13), [(Str.ofString "value")]⟩
def c7 : Dfn := ⟨[.ro], 1, [.ite (.not (.call 6 [(.var 0)])) [.nev] []]⟩
def t7 : Txt := ⟨(Str.ofString "need_set"), (Str.ofString "need_set"), defArgs (top 14), defBody (top 14), defScope (top 14), [(Str.ofString "value")]⟩
def c8 : Dfn := ⟨[.ro], 1, [.ret (.bi .tuple [(.bi .sorted [(.bi .set [(.var 0)])])])]⟩
def t8 : Txt := ⟨(Str.ofString "gathered"), (Str.ofString "gathered"), defArgs (top 15), defBody (top 15), defScope (top 15), [(Str.ofString "numbers")]⟩
def c9 : Dfn := ⟨[.ro, .ro], 4, [.ret (.lc2 (.one 2) (.var 0) [] (.one 3) (.var 1) [] (.bin .add (.var 2) (.var 3)))]⟩
def t9 : Txt := ⟨(Str.ofString "sums_in_basics"), (Str.ofString "sums_in"), defArgs (top 16), defBody (top 16), defScope (top 16), [(Str.ofString "one"), (Str.ofString "other"), (Str.ofString "first"), (Str.ofString "second")]⟩
def c10 : Dfn := ⟨[.ro, .ro], 2, [.ret (.call 8 [(.call 9 [(.var 0), (.var 1)])])]⟩
def t10 : Txt := ⟨(Str.ofString "sum_in"), (Str.ofString "sum_in"), defArgs (top 18), defBody (top 18), defScope (top 18), [(Str.ofString "one"), (Str.ofString "other")]⟩
def c11 : Dfn := ⟨[.ro], 1, [.ex (.call 7 [(.var 0)]), .ite (.cmp .eq (.var 0) (.tup [])) [.nev] []]⟩
def t11 : Txt := ⟨(Str.ofString "need_some"), (Str.ofString "need_some"), defArgs (top 22), defBody (top 22), defScope (top 22), [(Str.ofString "one")]⟩
def c12 : Dfn := ⟨[.ro], 3, [.set 1 (.con (.int 0)), .for_ (.one 2) (.var 0) [.set 1 (.call 4 [(.var 1), (.bin .sub (.var 2) (.idx (.var 0) (.con (.int 0))))])], .ret (.ite (.cmp .gt (.var 1) (.con (.int 0))) (.var 1) (.con (.int 1)))]⟩
def t12 : Txt := ⟨(Str.ofString "hull_step"), (Str.ofString "hull_step"), defArgs (top 23), defBody (top 23), defScope (top 23), [(Str.ofString "one"), (Str.ofString "found"), (Str.ofString "member")]⟩
def c13 : Dfn := ⟨[.ro], 3, [.set 1 (.call 12 [(.var 0)]), .ret (.bi .tuple [(.lc (.one 2) (.var 0) [] (.bin .fdiv (.bin .sub (.var 2) (.idx (.var 0) (.con (.int 0)))) (.var 1)))])]⟩
def t13 : Txt := ⟨(Str.ofString "normal_in"), (Str.ofString "normal_in"), defArgs (top 24), defBody (top 24), defScope (top 24), [(Str.ofString "one"), (Str.ofString "step"), (Str.ofString "member")]⟩
def c14 : Dfn := ⟨[.ro], 1, [.ret (.bi .len [(.call 10 [(.var 0), (.var 0)])])]⟩
def t14 : Txt := ⟨(Str.ofString "sums_in"), (Str.ofString "sums_in"), defArgs (top 25), defBody (top 25), defScope (top 25), [(Str.ofString "one")]⟩
def c15 : Dfn := ⟨[.ro], 1, [.ret (.bi .len [(.call 10 [(.var 0), (.var 0)])])]⟩
def t15 : Txt := ⟨(Str.ofString "sums_in_smallsums"), (Str.ofString "sums_in"), defArgs (top 25), defBody (top 25), defScope (top 25), [(Str.ofString "one")]⟩
def c16 : Dfn := ⟨[.ro, .ro], 6, [.set 2 (.lst []), .for_ (.one 3) (.rngI [(.bin .sub (.var 0) (.con (.int 1))), (.bin .add (.bin .sub (.var 1) (.var 0)) (.con (.int 1)))]) [.for_ (.one 4) (.call 17 [(.bin .sub (.var 0) (.con (.int 2))), (.var 3)]) [.set 5 (.bin .add (.bin .add (.tup [(.con (.int 0))]) (.var 4)) (.tup [(.var 3)])), .ite (.and (.cmp .eq (.call 12 [(.var 5)]) (.con (.int 1))) (.cmp .eq (.call 15 [(.var 5)]) (.var 1))) [.ex (.mm .append 2 [(.var 5)])] []]], .ret (.bi .sorted [(.var 2)])]⟩
def t16 : Txt := ⟨(Str.ofString "short_in"), (Str.ofString "short_in"), defArgs (top 27), defBody (top 27), defScope (top 27), [(Str.ofString "many"), (Str.ofString "sums"), (Str.ofString "found"), (Str.ofString "width"), (Str.ofString "some"), (Str.ofString "one")]⟩
def c17 : Dfn := ⟨[.ro, .ro], 6, [.set 2 (.lst [(.tup [])]), .for_ (.one 3) (.rngI [(.var 0)]) [.set 2 (.lc2 (.one 4) (.var 2) [] (.one 5) (.rngI [(.bin .add (.ite (.cmp .ne (.var 4) (.tup [])) (.idx (.var 4) (.un .neg (.con (.int 1)))) (.con (.int 0))) (.con (.int 1))), (.var 1)]) [] (.bin .add (.var 4) (.tup [(.var 5)])))], .ret (.var 2)]⟩
def t17 : Txt := ⟨(Str.ofString "inner_in"), (Str.ofString "inner_in"), defArgs (top 28), defBody (top 28), defScope (top 28), [(Str.ofString "many"), (Str.ofString "width"), (Str.ofString "found"), (Str.ofString "turn"), (Str.ofString "some"), (Str.ofString "one")]⟩
def c18 : Dfn := ⟨[.ro, .ro], 2, [.ite (.not (.call 1 [(.var 0), (.glo (Str.ofString "LEAST") (.int (3))), (.glo (Str.ofString "MOST_smallsums") (.int (8)))])) [.nev] [], .ite (.not (.call 1 [(.var 1), (.con (.int 1)), (.bin .sub (.bin .mul (.con (.int 3)) (.var 0)) (.con (.int 4)))])) [.nev] []]⟩
def t18 : Txt := ⟨(Str.ofString "need_few"), (Str.ofString "need_few"), defArgs (top 29), defBody (top 29), defScope (top 29), [(Str.ofString "many"), (Str.ofString "sums")]⟩
def c19 : Dfn := ⟨[.ro], 1, [.ex (.call 11 [(.var 0)]), .ret (.call 13 [(.var 0)])]⟩
def t19 : Txt := ⟨(Str.ofString "normal_set"), (Str.ofString "normal_set"), defArgs (top 30), defBody (top 30), defScope (top 30), [(Str.ofString "one")]⟩
def c20 : Dfn := ⟨[.ro], 1, [.ex (.call 11 [(.var 0)]), .ret (.call 15 [(.var 0)])]⟩
def t20 : Txt := ⟨(Str.ofString "count_sums"), (Str.ofString "count_sums"), defArgs (top 31), defBody (top 31), defScope (top 31), [(Str.ofString "one")]⟩
def c21 : Dfn := ⟨[.ro], 1, [.ex (.call 11 [(.var 0)]), .ret (.cmp .le (.call 15 [(.var 0)]) (.bin .sub (.bin .mul (.con (.int 3)) (.bi .len [(.var 0)])) (.con (.int 4))))]⟩
def t21 : Txt := ⟨(Str.ofString "is_short"), (Str.ofString "is_short"), defArgs (top 32), defBody (top 32), defScope (top 32), [(Str.ofString "one")]⟩
def c22 : Dfn := ⟨[.ro, .ro], 2, [.ex (.call 18 [(.var 0), (.var 1)]), .ret (.bi .tuple [(.call 16 [(.var 0), (.var 1)])])]⟩
def t22 : Txt := ⟨(Str.ofString "short_sets"), (Str.ofString "short_sets"), defArgs (top 33), defBody (top 33), defScope (top 33), [(Str.ofString "many"), (Str.ofString "sums")]⟩
def c23 : Dfn := ⟨[.ro, .ro], 3, [.ex (.call 18 [(.var 0), (.var 1)]), .ret (.bi .max [(.bin .add (.lst [(.con (.int 0))]) (.lc (.one 2) (.call 16 [(.var 0), (.var 1)]) [] (.bin .add (.idx (.var 2) (.un .neg (.con (.int 1)))) (.con (.int 1)))))])]⟩
def t23 : Txt := ⟨(Str.ofString "longest_hull"), (Str.ofString "longest_hull"), defArgs (top 34), defBody (top 34), defScope (top 34), [(Str.ofString "many"), (Str.ofString "sums"), (Str.ofString "one")]⟩
def c24 : Dfn := ⟨[.ro], 2, [.set 1 (.bi .abs [(.idx (.bin .add (.bi .list [(.var 0)]) (.lst [(.con (.int 0))])) (.con (.int 0)))]), .ret (.lst [(.ite (.cmp .ge (.var 1) (.bin .pow (.con (.int 10)) (.con (.int 18)))) (.bin .fdiv (.var 1) (.con (.int 73))) (.con (.int 0))), (.bin .add (.bin .mod (.bi .int [(.bin .add (.bin .mul (.var 1) (.con (.int 283))) (.con (.int 3907)))]) (.con (.int 2077503167))) (.con (.int 167)))])]⟩
def t24 : Txt := ⟨(Str.ofString "_law_cup"), (Str.ofString "_law_cup"), defArgs (top 36), defBody (top 36), defScope (top 36), [(Str.ofString "script"), (Str.ofString "cell")]⟩
def c25 : Dfn := ⟨[.mu, .ro], 4, [.ite (.cmp .gt (.idx (.var 0) (.con (.int 0))) (.con (.int 0))) [.set 3 (.bin .mod (.bi .int [(.idx (.var 0) (.con (.int 0)))]) (.var 1)), .sti 0 (.con (.int 0)) (.bin .fdiv (.idx (.var 0) (.con (.int 0))) (.var 1)), .ret (.var 3)] [], .sti 0 (.con (.int 1)) (.bin .mod (.bi .int [(.bin .add (.bin .mul (.idx (.var 0) (.con (.int 1))) (.con (.int 31051))) (.con (.int 7993)))]) (.con (.int 2147483543))), .set 2 (.bin .mod (.bi .int [(.bin .mul (.idx (.var 0) (.con (.int 1))) (.bin .add (.idx (.var 0) (.con (.int 1))) (.con (.int 229))))]) (.con (.int 2147483587))), .ret (.bin .mod (.bi .int [(.bin .fdiv (.var 2) (.con (.int 821)))]) (.var 1))]⟩
def t25 : Txt := ⟨(Str.ofString "_law_roll"), (Str.ofString "_law_roll"), defArgs (top 37), defBody (top 37), defScope (top 37), [(Str.ofString "cup"), (Str.ofString "many"), (Str.ofString "deep"), (Str.ofString "found")]⟩
def c26 : Dfn := ⟨[.mu, .ro], 2, [.ret (.idx (.var 1) (.call 25 [(.var 0), (.bi .len [(.var 1)])]))]⟩
def t26 : Txt := ⟨(Str.ofString "_law_some"), (Str.ofString "_law_some"), defArgs (top 38), defBody (top 38), defScope (top 38), [(Str.ofString "cup"), (Str.ofString "things")]⟩
def c27 : Dfn := ⟨[.ro], 1, [.ite (.or (.cmp .is_ (.var 0) (.con .non)) (.isi .bool (.var 0))) [.ret (.ite (.cmp .is_ (.var 0) (.con .non)) (.con (.int 0)) (.con (.int 1)))] [], .ite (.or (.isi .int (.var 0)) (.isi .str (.var 0))) [.ret (.ite (.isi .int (.var 0)) (.con (.int 2)) (.con (.int 3)))] [], .ret (.ite (.isi .tuple (.var 0)) (.con (.int 4)) (.ite (.isi .list (.var 0)) (.con (.int 5)) (.con (.int 6))))]⟩
def t27 : Txt := ⟨(Str.ofString "_law_sort"), (Str.ofString "_law_sort"), defArgs (top 39), defBody (top 39), defScope (top 39), [(Str.ofString "value")]⟩
def c28 : Dfn := ⟨[.ro, .ro], 5, [.set 2 (.call 27 [(.var 1)]), .ite (.or (.cmp .ne (.call 27 [(.var 0)]) (.var 2)) (.cmp .eq (.var 2) (.con (.int 6)))) [.ret (.con (.bl false))] [], .ite (.cmp .inn (.var 2) (.tup [(.con (.int 4)), (.con (.int 5))])) [.ret (.and (.cmp .eq (.bi .len [(.var 0)]) (.bi .len [(.var 1)])) (.cmp .eq (.lc (.many [3, 4]) (.zip (.var 0) (.var 1)) [(.not (.call 28 [(.var 3), (.var 4)]))] (.con (.int 1))) (.lst [])))] [], .ret (.cmp .eq (.var 0) (.var 1))]⟩
def t28 : Txt := ⟨(Str.ofString "_law_like"), (Str.ofString "_law_like"), defArgs (top 40), defBody (top 40), defScope (top 40), [(Str.ofString "one"), (Str.ofString "other"), (Str.ofString "sort"), (Str.ofString "first"), (Str.ofString "second")]⟩
def c29 : Dfn := ⟨[.ro, .ro], 5, [.set 2 .dnk, .for_ (.one 3) (.var 0) [.for_ (.one 4) (.var 1) [.sti 2 (.bin .add (.var 3) (.var 4)) (.con (.bl true))]], .ret (.bi .tuple [(.bi .sorted [(.var 2)])])]⟩
def t29 : Txt := ⟨(Str.ofString "_law_sum"), (Str.ofString "_law_sum"), defArgs (top 41), defBody (top 41), defScope (top 41), [(Str.ofString "one"), (Str.ofString "other"), (Str.ofString "found"), (Str.ofString "first"), (Str.ofString "second")]⟩
def c30 : Dfn := ⟨[.val, .val], 2, [.par [0, 1] [(.bi .abs [(.var 0)]), (.bi .abs [(.var 1)])], .whl (.cmp .ne (.var 1) (.con (.int 0))) [.par [0, 1] [(.var 1), (.bin .mod (.bi .int [(.var 0)]) (.var 1))]], .ret (.var 0)]⟩
def t30 : Txt := ⟨(Str.ofString "_law_divisor"), (Str.ofString "_law_divisor"), defArgs (top 42), defBody (top 42), defScope (top 42), [(Str.ofString "one"), (Str.ofString "other")]⟩
def c31 : Dfn := ⟨[.ro], 3, [.set 1 (.con (.int 0)), .for_ (.one 2) (.var 0) [.set 1 (.call 30 [(.var 1), (.bin .sub (.var 2) (.idx (.var 0) (.con (.int 0))))])], .ret (.ite (.cmp .gt (.var 1) (.con (.int 0))) (.var 1) (.con (.int 1)))]⟩
def t31 : Txt := ⟨(Str.ofString "_law_step_of"), (Str.ofString "_law_step_of"), defArgs (top 43), defBody (top 43), defScope (top 43), [(Str.ofString "one"), (Str.ofString "found"), (Str.ofString "member")]⟩
def c32 : Dfn := ⟨[.ro], 4, [.set 1 (.lst [(.tup [])]), .for_ (.one 2) (.var 0) [.set 1 (.bin .add (.var 1) (.lc (.one 3) (.var 1) [] (.bin .add (.var 3) (.tup [(.var 2)]))))], .ret (.var 1)]⟩
def t32 : Txt := ⟨(Str.ofString "_law_lots"), (Str.ofString "_law_lots"), defArgs (top 44), defBody (top 44), defScope (top 44), [(Str.ofString "things"), (Str.ofString "found"), (Str.ofString "thing"), (Str.ofString "some")]⟩
def c33 : Dfn := ⟨[.ro, .ro], 5, [.set 2 (.lst []), .for_ (.one 3) (.call 32 [(.bi .tuple [(.bi .range [(.con (.int 1)), (.bi .max [(.con (.int 1)), (.bin .add (.bin .sub (.var 1) (.var 0)) (.con (.int 1)))])])])]) [.set 4 (.bin .add (.tup [(.con (.int 0))]) (.var 3)), .ite (.and (.cmp .eq (.bi .len [(.var 4)]) (.var 0)) (.and (.cmp .eq (.call 31 [(.var 4)]) (.con (.int 1))) (.cmp .eq (.bi .len [(.call 29 [(.var 4), (.var 4)])]) (.var 1)))) [.ex (.mm .append 2 [(.var 4)])] []], .ret (.bi .sorted [(.var 2)])]⟩
def t33 : Txt := ⟨(Str.ofString "_law_short"), (Str.ofString "_law_short"), defArgs (top 45), defBody (top 45), defScope (top 45), [(Str.ofString "many"), (Str.ofString "sums"), (Str.ofString "found"), (Str.ofString "some"), (Str.ofString "one")]⟩
def c34 : Dfn := ⟨[.mu, .ro, .val], 8, [.set 3 (.call 33 [(.var 1), (.var 2)]), .set 4 (.call 22 [(.var 1), (.var 2)]), .ite (.not (.call 28 [(.lst [(.var 4), (.call 23 [(.var 1), (.var 2)])]), (.lst [(.bi .tuple [(.var 3)]), (.bi .max [(.bin .add (.lst [(.con (.int 0))]) (.lc (.one 6) (.var 3) [] (.bin .add (.idx (.var 6) (.un .neg (.con (.int 1)))) (.con (.int 1)))))])])])) [.ret (.con (.bl false))] [], .set 5 (.bi .sorted [(.lc (.one 6) (.var 3) [] (.bi .tuple [(.lc (.one 7) (.rev (.var 6)) [] (.bin .sub (.idx (.var 6) (.un .neg (.con (.int 1)))) (.var 7)))]))]), .ite (.cmp .ne (.var 5) (.var 3)) [.ret (.con (.bl false))] [], .ite (.cmp .eq (.var 3) (.lst [])) [.ret (.con (.bl true))] [], .set 6 (.call 26 [(.var 0), (.var 3)]), .ret (.and (.call 28 [(.lst [(.call 21 [(.var 6)]), (.call 19 [(.var 6)]), (.call 20 [(.var 6)])]), (.lst [(.con (.bl true)), (.var 6), (.var 2)])]) (.cmp .le (.idx (.var 6) (.un .neg (.con (.int 1)))) (.bin .sub (.var 2) (.var 1))))]⟩
def t34 : Txt := ⟨(Str.ofString "_law_right"), (Str.ofString "_law_right"), defArgs (top 46), defBody (top 46), defScope (top 46), [(Str.ofString "cup"), (Str.ofString "many"), (Str.ofString "sums"), (Str.ofString "due"), (Str.ofString "told"), (Str.ofString "turned"), (Str.ofString "one"), (Str.ofString "member")]⟩
def c35 : Dfn := ⟨[], 3, [.set 0 (.lst [(.call 22 [(.con (.int 4)), (.con (.int 8))]), (.call 22 [(.con (.int 4)), (.con (.int 7))]), (.call 22 [(.con (.int 4)), (.con (.int 6))]), (.call 22 [(.con (.int 3)), (.con (.int 5))]), (.call 23 [(.con (.int 4)), (.con (.int 8))]), (.call 23 [(.con (.int 5)), (.con (.int 11))])]), .ite (.not (.call 28 [(.var 0), (.lst [(.tup [(.tup [(.con (.int 0)), (.con (.int 1)), (.con (.int 2)), (.con (.int 4))]), (.tup [(.con (.int 0)), (.con (.int 2)), (.con (.int 3)), (.con (.int 4))])]), (.tup [(.tup [(.con (.int 0)), (.con (.int 1)), (.con (.int 2)), (.con (.int 3))])]), (.tup []), (.tup [(.tup [(.con (.int 0)), (.con (.int 1)), (.con (.int 2))])]), (.con (.int 5)), (.con (.int 7))])])) [.ret (.con (.bl false))] [], .for_ (.one 1) (.tup [(.con (.int 3)), (.con (.int 4)), (.con (.int 5)), (.con (.int 6)), (.con (.int 7)), (.con (.int 8))]) [.set 0 (.lst [(.call 22 [(.var 1), (.bin .sub (.bin .mul (.con (.int 2)) (.var 1)) (.con (.int 1)))]), (.call 22 [(.var 1), (.bin .sub (.bin .mul (.con (.int 2)) (.var 1)) (.con (.int 2)))]), (.call 23 [(.var 1), (.con (.int 1))])]), .ite (.not (.call 28 [(.var 0), (.lst [(.tup [(.bi .tuple [(.bi .range [(.var 1)])])]), (.tup []), (.con (.int 0))])])) [.ret (.con (.bl false))] [], .set 2 (.bi .tuple [(.bi .range [(.bin .add (.var 1) (.con (.int 1)))])]), .ite (.and (.cmp .gt (.var 1) (.con (.int 3))) (.not (.call 28 [(.call 22 [(.var 1), (.bin .mul (.con (.int 2)) (.var 1))]), (.tup [(.bin .add (.slc (.var 2) [] [(.un .neg (.con (.int 2)))]) (.slc (.var 2) [(.un .neg (.con (.int 1)))] [])), (.bin .add (.slc (.var 2) [] [(.con (.int 1))]) (.slc (.var 2) [(.con (.int 2))] []))])]))) [.ret (.con (.bl false))] []], .ret (.con (.bl true))]⟩
def t35 : Txt := ⟨(Str.ofString "_law_written"), (Str.ofString "_law_written"), defArgs (top 47), defBody (top 47), defScope (top 47), [(Str.ofString "told"), (Str.ofString "many"), (Str.ofString "row")]⟩
def c36 : Dfn := ⟨[.ro], 3, [.ite (.not (.call 35 [])) [.ret (.con (.bl false))] [], .set 1 (.call 24 [(.var 0)]), .for_ (.one 2) (.tup [(.con (.int 3)), (.con (.int 4)), (.con (.int 5)), (.con (.int 6))]) [.ite (.not (.call 34 [(.var 1), (.var 2), (.bin .add (.bin .sub (.bin .mul (.con (.int 2)) (.var 2)) (.con (.int 2))) (.call 25 [(.var 1), (.bin .sub (.var 2) (.con (.int 1)))]))])) [.ret (.con (.bl false))] []], .ite (.or (.and (.cmp .eq (.call 25 [(.var 1), (.con (.int 8))]) (.con (.int 0))) (.not (.call 34 [(.var 1), (.con (.int 7)), (.bin .add (.con (.int 13)) (.call 25 [(.var 1), (.con (.int 5))]))]))) (.and (.cmp .eq (.call 25 [(.var 1), (.con (.int 20))]) (.con (.int 0))) (.not (.call 34 [(.var 1), (.con (.int 8)), (.bin .add (.con (.int 15)) (.call 25 [(.var 1), (.con (.int 6))]))])))) [.ret (.con (.bl false))] [], .ret (.con (.bl true))]⟩
def t36 : Txt := ⟨(Str.ofString "law"), (Str.ofString "law"), defArgs (top 48), defBody (top 48), defScope (top 48), [(Str.ofString "script"), (Str.ofString "cup"), (Str.ofString "many")]⟩
def dl : List Dfn := [c0, c1, c2, c3, c4, c5, c6, c7, c8, c9, c10, c11, c12, c13, c14, c15, c16, c17, c18, c19, c20, c21, c22, c23, c24, c25, c26, c27, c28, c29, c30, c31, c32, c33, c34, c35, c36]
def tl : List Txt := [t0, t1, t2, t3, t4, t5, t6, t7, t8, t9, t10, t11, t12, t13, t14, t15, t16, t17, t18, t19, t20, t21, t22, t23, t24, t25, t26, t27, t28, t29, t30, t31, t32, t33, t34, t35, t36]
def cst : List (Str × PV) := [((Str.ofString "MOST_basics"), .int (400)), ((Str.ofString "GREATEST"), .int (1000000000000)), ((Str.ofString "LEAST"), .int (3)), ((Str.ofString "MOST_smallsums"), .int (8))]
def nf : Nf := ⟨[(Str.ofString "is_integer"), (Str.ofString "is_whole"), (Str.ofString "is_tuple_of"), (Str.ofString "is_rising"), (Str.ofString "divisor_of"), (Str.ofString "are_members"), (Str.ofString "fits_set"), (Str.ofString "need_set"), (Str.ofString "gathered"), (Str.ofString "sums_in_basics"), (Str.ofString "sum_in"), (Str.ofString "need_some"), (Str.ofString "hull_step"), (Str.ofString "normal_in"), (Str.ofString "sums_in"), (Str.ofString "sums_in_smallsums"), (Str.ofString "short_in"), (Str.ofString "inner_in"), (Str.ofString "need_few"), (Str.ofString "normal_set"), (Str.ofString "count_sums"), (Str.ofString "is_short"), (Str.ofString "short_sets"), (Str.ofString "longest_hull"), (Str.ofString "_law_cup"), (Str.ofString "_law_roll"), (Str.ofString "_law_some"), (Str.ofString "_law_sort"), (Str.ofString "_law_like"), (Str.ofString "_law_sum"), (Str.ofString "_law_divisor"), (Str.ofString "_law_step_of"), (Str.ofString "_law_lots"), (Str.ofString "_law_short"), (Str.ofString "_law_right"), (Str.ofString "_law_written"), (Str.ofString "law")], [(Str.ofString "abs"), (Str.ofString "all"), (Str.ofString "bool"), (Str.ofString "int"), (Str.ofString "isinstance"), (Str.ofString "len"), (Str.ofString "list"), (Str.ofString "max"), (Str.ofString "range"), (Str.ofString "set"), (Str.ofString "sorted"), (Str.ofString "str"), (Str.ofString "tuple"), (Str.ofString "zip")], cst⟩
def D (i : Nat) : Dfn := dl.getD i ⟨[], 0, []⟩
def T (i : Nat) : Txt := tl.getD i ⟨Str.ofString "", Str.ofString "", defArgs (top 0), [], defScope (top 0), []⟩
end Lw
set_option Elab.async false
set_option linter.all false
set_option maxRecDepth 100000
set_option maxHeartbeats 4000000
namespace Lw
set_option autoImplicit false
open PySem hiding run
open L2 L2.Pz
def dd : Nat → Dfn := dAt dl
noncomputable def n_is_integer (v_value : Int) : Option (Bool) :=
  some (true && (!false))
theorem g_is_integer (d : Nat) {v_value : Int} {r : (Bool)} (H : n_is_integer v_value = some r) : run lim dd (d + 1) 0 [(.int v_value)] = some (((.bl r), false), []) := by
  unfold n_is_integer at H
  refine run_of (rfl : dd 0 = ⟨[.ro], 1, [.ret (.and (.isi .int (.var 0)) (.not (.isi .bool (.var 0))))]⟩) rfl ?_
  refine Exs_env (e1 := [some ⟨(.int v_value), .ro⟩]) rfl ?_
  refine Exs_ret ?_
  refine Ev_at (o := .vl (.bl (true && (!false))) false) (e1 := [some ⟨(.int v_value), .ro⟩]) (Ev_eq ?_) ?_
  · refine Ev_and ?_
    refine Ev_isi ?_
    refine Ev_var rfl ?_
    refine ⟨_, _, _, rfl, rfl, ?_⟩
    refine ⟨true, rfl, fun k2 => ?_, fun k2 => ?_⟩
    · refine Ev_not ?_
      refine Ev_isi ?_
      refine Ev_var rfl ?_
      refine ⟨_, _, _, rfl, rfl, ?_⟩
      refine ⟨_, rfl, ?_⟩
      exact ⟨and_tt k2, rfl⟩
    · exact ⟨and_ff k2, rfl⟩
  refine ⟨_, _, _, rfl, ?_⟩
  cases H
  exact .inl ⟨_, rfl, rfl⟩
noncomputable def n_is_whole (v_value : Int) (v_low : Int) (v_high : Int) : Option (Bool) :=
  (n_is_integer v_value).bind fun t1 =>
  some (t1 && ((decide (v_low ≤ v_value)) && (decide (v_value ≤ v_high))))
theorem g_is_whole (d : Nat) {v_value : Int} {v_low : Int} {v_high : Int} {r : (Bool)} (H : n_is_whole v_value v_low v_high = some r) : run lim dd (d + 2) 1 [(.int v_value), (.int v_low), (.int v_high)] = some (((.bl r), false), []) := by
  unfold n_is_whole at H
  refine run_of (rfl : dd 1 = ⟨[.ro, .ro, .ro], 3, [.ret (.and (.call 0 [(.var 0)]) (.cmp2 .le .le (.var 1) (.var 0) (.var 2)))]⟩) rfl ?_
  refine Exs_env (e1 := [some ⟨(.int v_value), .ro⟩, some ⟨(.int v_low), .ro⟩, some ⟨(.int v_high), .ro⟩]) rfl ?_
  obtain ⟨t1, et1, H⟩ := bd H
  refine Exs_ret ?_
  refine Ev_at (o := .vl (.bl (t1 && ((decide (v_low ≤ v_value)) && (decide (v_value ≤ v_high))))) false) (e1 := [some ⟨(.int v_value), .ro⟩, some ⟨(.int v_low), .ro⟩, some ⟨(.int v_high), .ro⟩]) (Ev_eq ?_) ?_
  · refine Ev_and ?_
    refine Ev_call ?_
    refine Evs_cons ?_
    refine Ev_var rfl ?_
    refine Evs_nil ?_
    refine ⟨_, _, _, _, _, _, _, rfl, g_is_integer (d + 0) et1, rfl, ?_⟩
    refine ⟨t1, rfl, fun k3 => ?_, fun k3 => ?_⟩
    · refine Ev_cmp2 ?_
      refine Ev_var rfl ?_
      refine Ev_var rfl ?_
      refine Ev_var rfl ?_
      refine ⟨rfl, _, _, _, _, _, rfl, rfl, rfl, rfl, rfl, ?_⟩
      exact ⟨and_tt k3, rfl⟩
    · exact ⟨and_ff k3, rfl⟩
  refine ⟨_, _, _, rfl, ?_⟩
  cases H
  exact .inl ⟨_, rfl, rfl⟩
noncomputable def n_need_few (v_many : Int) (v_sums : Int) : Option (Unit) :=
  (n_is_whole v_many (3 : Int) (8 : Int)).bind fun t1 =>
  if (!t1) = true then
    (
    none
    )
  else
    (
    (n_is_whole v_sums (1 : Int) (((3 : Int) * v_many) - (4 : Int))).bind fun t3 =>
    if (!t3) = true then
      (
      none
      )
    else
      (
      some ()
      )
    )
theorem g_need_few (d : Nat) {v_many : Int} {v_sums : Int} {r : (Unit)} (H : n_need_few v_many v_sums = some r) : run lim dd (d + 3) 18 [(.int v_many), (.int v_sums)] = some ((.non, false), []) := by
  unfold n_need_few at H
  refine run_of (rfl : dd 18 = ⟨[.ro, .ro], 2, [.ite (.not (.call 1 [(.var 0), (.glo (Str.ofString "LEAST") (.int (3))), (.glo (Str.ofString "MOST_smallsums") (.int (8)))])) [.nev] [], .ite (.not (.call 1 [(.var 1), (.con (.int 1)), (.bin .sub (.bin .mul (.con (.int 3)) (.var 0)) (.con (.int 4)))])) [.nev] []]⟩) rfl ?_
  refine Exs_env (e1 := [some ⟨(.int v_many), .ro⟩, some ⟨(.int v_sums), .ro⟩]) rfl ?_
  obtain ⟨t1, et1, H⟩ := bd H
  refine Exs_ite ?_
  refine Ev_not ?_
  refine Ev_call ?_
  refine Evs_cons ?_
  refine Ev_var rfl ?_
  refine Evs_cons ?_
  refine Ev_glo ?_
  refine Evs_cons ?_
  refine Ev_glo ?_
  refine Evs_nil ?_
  refine ⟨_, _, _, _, _, _, _, rfl, g_is_whole (d + 0) et1, rfl, ?_⟩
  refine ⟨_, rfl, ?_⟩
  refine ⟨(!t1), rfl, fun k2 => ?_, fun k2 => ?_⟩
  · rw [if_pos k2] at H
    cases H
  · rw [ifn k2] at H
    refine Exs_nil ?_
    show Exs _ _ _ _ _ _
    obtain ⟨t3, et3, H⟩ := bd H
    refine Exs_ite_nil ?_
    refine Ev_not ?_
    refine Ev_call ?_
    refine Evs_cons ?_
    refine Ev_var rfl ?_
    refine Evs_cons ?_
    refine Ev_con ?_
    refine Evs_cons ?_
    refine Ev_bin ?_
    refine Ev_bin ?_
    refine Ev_con ?_
    refine Ev_var rfl ?_
    refine ⟨_, _, _, _, rfl, rfl, (mulL_lit (by decide)), ?_⟩
    refine Ev_con ?_
    refine ⟨_, _, _, _, rfl, rfl, rfl, ?_⟩
    refine Evs_nil ?_
    refine ⟨_, _, _, _, _, _, _, rfl, g_is_whole (d + 0) et3, rfl, ?_⟩
    refine ⟨_, rfl, ?_⟩
    refine ⟨(!t3), rfl, fun k4 => ?_, fun k4 => ?_⟩
    · rw [if_pos k4] at H
      cases H
    · rw [ifn k4] at H
      refine Exs_nil ?_
      cases H
      exact .inr ⟨_, rfl, rfl, rfl, rfl⟩
noncomputable def n_inner_in (v_many : Int) (v_width : Int) : Option ((List (List Int))) :=
  (frg (0 : Int) v_many).bind fun r1 =>
  (forO (fun x2 (s3 : (List (List Int))) =>
    (flS (fun x6 => (if (!decide ((x6 : (List Int)) = ([] : (List Int)))) = true then ((getI x6 (-(1 : Int))).bind fun t9 => some t9) else (some (0 : Int))).bind fun t10 => (frg (t10 + (1 : Int)) v_width).bind fun r11 => fmO (fun x13 => (fadd x6 ([x13] : (List Int))).bind fun t14 => some (some t14)) r11) s3).bind fun t15 =>
    some t15
  ) r1 ([([] : (List Int))] : (List (List Int)))).bind fun r16 =>
  some r16
theorem g_inner_in (d : Nat) {v_many : Int} {v_width : Int} {r : ((List (List Int)))} (H : n_inner_in v_many v_width = some r) : run lim dd (d + 1) 17 [(.int v_many), (.int v_width)] = some ((((eL (eT eI)).e r), true), []) := by
  unfold n_inner_in at H
  refine run_of (rfl : dd 17 = ⟨[.ro, .ro], 6, [.set 2 (.lst [(.tup [])]), .for_ (.one 3) (.rngI [(.var 0)]) [.set 2 (.lc2 (.one 4) (.var 2) [] (.one 5) (.rngI [(.bin .add (.ite (.cmp .ne (.var 4) (.tup [])) (.idx (.var 4) (.un .neg (.con (.int 1)))) (.con (.int 0))) (.con (.int 1))), (.var 1)]) [] (.bin .add (.var 4) (.tup [(.var 5)])))], .ret (.var 2)]⟩) rfl ?_
  refine Exs_env (e1 := [some ⟨(.int v_many), .ro⟩, some ⟨(.int v_width), .ro⟩, none, none, none, none]) rfl ?_
  refine Exs_set ?_
  refine Ev_lst ?_
  refine Evs_cons ?_
  refine Ev_tup ?_
  refine Evs_nil ?_
  refine ⟨_, [some ⟨(.int v_many), .ro⟩, some ⟨(.int v_width), .ro⟩, none, none, none, none], (show _ = some (List.map eI.e ([] : (List Int)), _) from rfl), szd 0, ?_⟩
  refine Evs_nil ?_
  refine ⟨_, [some ⟨(.int v_many), .ro⟩, some ⟨(.int v_width), .ro⟩, none, none, none, none], (show _ = some (List.map (eT eI).e ([([] : (List Int))] : (List (List Int))), _) from rfl), szd 1, ?_⟩
  refine ⟨_, _, _, [some ⟨(.int v_many), .ro⟩, some ⟨(.int v_width), .ro⟩, some ⟨((eL (eT eI)).e ([([] : (List Int))] : (List (List Int)))), .own⟩, none, none, none], rfl, rfl, ?_⟩
  obtain ⟨r1, er1, H⟩ := bd H
  obtain ⟨r16, er16, H⟩ := bd H
  refine Exs_for (J := fun _ => True) ?_
  refine Ev_rng ?_
  refine Evs_cons ?_
  refine Ev_var rfl ?_
  refine Evs_nil ?_
  refine ⟨_, _, rfl, frg1_ok er1, ?_⟩
  refine ⟨_, _, rfl, ?_⟩
  refine for_use (J := (fun (z : (List (List Int))) env => ∃ u3s3 : Option Slot, NL u3s3 ∧ env = [some ⟨(.int v_many), .ro⟩, some ⟨(.int v_width), .ro⟩, some ⟨((eL (eT eI)).e z), .own⟩, u3s3, none, none]) r16) (forGo_O (enc := PV.int) (J := fun (z : (List (List Int))) env => ∃ u3s3 : Option Slot, NL u3s3 ∧ env = [some ⟨(.int v_many), .ro⟩, some ⟨(.int v_width), .ro⟩, some ⟨((eL (eT eI)).e z), .own⟩, u3s3, none, none]) (fun x2 hxx2 s3 rx2 envx2 Jh4 h4 => ?w1) ⟨none, nl_none, rfl⟩ er16) ?_
  case w1 =>
    obtain ⟨u3s3, nu3s3, rfl⟩ := Jh4
    refine forT_nx (J := (fun (z : (List (List Int))) env => ∃ u3s3 : Option Slot, NL u3s3 ∧ env = [some ⟨(.int v_many), .ro⟩, some ⟨(.int v_width), .ro⟩, some ⟨((eL (eT eI)).e z), .own⟩, u3s3, none, none]) rx2) (forT_of (e1 := [some ⟨(.int v_many), .ro⟩, some ⟨(.int v_width), .ro⟩, some ⟨((eL (eT eI)).e s3), .own⟩, some ⟨(.int x2), .fz⟩, none, none]) (st_nlp rfl rfl nu3s3 _ _) ?_)
    obtain ⟨t15, et15, h4⟩ := bd h4
    refine Exs_set ?_
    refine Ev_lc2 ?_
    refine Ev_var rfl ?_
    refine ⟨_, _, _, [some ⟨(.int v_many), .ro⟩, some ⟨(.int v_width), .ro⟩, some ⟨((eL (eT eI)).e s3), .lk⟩, some ⟨(.int x2), .fz⟩, none, none], rfl, lcGo2_fl (A := (eT eI).e) (B := (eT eI).e) (fun x6 hxx6 ox6 ho5 => ?w2) (flS_fl et15), flS_sz et15, ?_⟩
    case w2 =>
      refine turn2_of (e1 := [some ⟨(.int v_many), .ro⟩, some ⟨(.int v_width), .ro⟩, some ⟨((eL (eT eI)).e s3), .lk⟩, some ⟨(.int x2), .fz⟩, some ⟨((eT eI).e x6), .fz⟩, none]) rfl ?_
      obtain ⟨t10, et10, ho5⟩ := bd ho5
      obtain ⟨r11, er11, ho5⟩ := bd ho5
      refine Ev_rng ?_
      refine Evs_cons ?_
      refine Ev_bin ?_
      refine Ev_at (o := .vl (.int t10) false) (e1 := [some ⟨(.int v_many), .ro⟩, some ⟨(.int v_width), .ro⟩, some ⟨((eL (eT eI)).e s3), .lk⟩, some ⟨(.int x2), .fz⟩, some ⟨((eT eI).e x6), .fz⟩, none]) (Ev_eq ?_) ?_
      · refine Ev_ite ?_
        refine Ev_cmp ?_
        refine Ev_var rfl ?_
        refine Ev_tup ?_
        refine Evs_nil ?_
        refine ⟨_, [some ⟨(.int v_many), .ro⟩, some ⟨(.int v_width), .ro⟩, some ⟨((eL (eT eI)).e s3), .lk⟩, some ⟨(.int x2), .fz⟩, some ⟨((eT eI).e x6), .fz⟩, none], (show _ = some (List.map eI.e ([] : (List Int)), _) from rfl), szd 0, ?_⟩
        refine ⟨_, _, _, rfl, rfl, (neE_ok (okT okI) (by decide) x6 ([] : (List Int))), ?_⟩
        refine ⟨(!decide ((x6 : (List Int)) = ([] : (List Int)))), rfl, fun k8 => ?_, fun k8 => ?_⟩
        · have h7 := et10
          rw [if_pos k8] at h7
          obtain ⟨t9, et9, h7⟩ := bd h7
          refine Ev_idx ?_
          refine Ev_var rfl ?_
          refine Ev_un ?_
          refine Ev_con ?_
          refine ⟨_, _, rfl, rfl, ?_⟩
          refine ⟨_, _, _, rfl, rfl, (getT_ok (E := eI) et9), ?_⟩
          cases h7
          exact ⟨rfl, rfl⟩
        · have h7 := et10
          rw [ifn k8] at h7
          refine Ev_con ?_
          cases h7
          exact ⟨rfl, rfl⟩
      refine Ev_con ?_
      refine ⟨_, _, _, _, rfl, rfl, rfl, ?_⟩
      refine Evs_cons ?_
      refine Ev_var rfl ?_
      refine Evs_nil ?_
      refine ⟨_, _, rfl, frg2_ok er11, ?_⟩
      refine ⟨_, _, _, [some ⟨(.int v_many), .ro⟩, some ⟨(.int v_width), .ro⟩, some ⟨((eL (eT eI)).e s3), .lk⟩, some ⟨(.int x2), .fz⟩, some ⟨((eT eI).e x6), .fz⟩, none], rfl, lcGo_fm (A := PV.int) (B := (eT eI).e) (fun x13 hxx13 ox13 ho12 => ?w3) (ho5), ⟨rfl, rfl⟩⟩
      case w3 =>
        refine turn_of (e1 := [some ⟨(.int v_many), .ro⟩, some ⟨(.int v_width), .ro⟩, some ⟨((eL (eT eI)).e s3), .lk⟩, some ⟨(.int x2), .fz⟩, some ⟨((eT eI).e x6), .fz⟩, some ⟨(.int x13), .fz⟩]) rfl ?_
        refine EvIfs_nil ?_
        refine ⟨fun _ => ?_, fun h => (by cases h)⟩
        obtain ⟨t14, et14, ho12⟩ := bd ho12
        refine Ev_bin ?_
        refine Ev_var rfl ?_
        refine Ev_tup ?_
        refine Evs_cons ?_
        refine Ev_var rfl ?_
        refine Evs_nil ?_
        refine ⟨_, [some ⟨(.int v_many), .ro⟩, some ⟨(.int v_width), .ro⟩, some ⟨((eL (eT eI)).e s3), .lk⟩, some ⟨(.int x2), .fz⟩, some ⟨((eT eI).e x6), .fz⟩, some ⟨(.int x13), .fz⟩], (show _ = some (List.map eI.e ([x13] : (List Int)), _) from rfl), szd 1, ?_⟩
        refine ⟨_, _, _, _, rfl, rfl, (faddT_ok (E := eI) et14), ?_⟩
        refine ⟨_, [some ⟨(.int v_many), .ro⟩, some ⟨(.int v_width), .ro⟩, some ⟨((eL (eT eI)).e s3), .lk⟩, some ⟨(.int x2), .fz⟩, some ⟨((eT eI).e x6), .fz⟩, some ⟨(.int x13), .fz⟩], rfl, ?_⟩
        cases ho12
        exact ⟨rfl, rfl⟩
    refine ⟨_, _, _, [some ⟨(.int v_many), .ro⟩, some ⟨(.int v_width), .ro⟩, some ⟨((eL (eT eI)).e t15), .own⟩, some ⟨(.int x2), .fz⟩, none, none], rfl, rfl, ?_⟩
    refine Exs_nil ?_
    cases h4
    exact ⟨_, rfl, ⟨some ⟨(.int x2), .fz⟩, nl_fz _, rfl⟩⟩
  rintro _ ⟨u3r16, nu3r16, rfl⟩
  refine Exs_env (e1 := [some ⟨(.int v_many), .ro⟩, some ⟨(.int v_width), .ro⟩, some ⟨((eL (eT eI)).e r16), .own⟩, u3r16, none, none]) rfl ?_
  refine Exs_ret ?_
  refine Ev_var rfl ?_
  refine ⟨_, _, _, rfl, ?_⟩
  cases H
  exact .inl ⟨_, rfl, rfl⟩
noncomputable def n_divisor_of (v_one : Int) (v_other : Int) : Option (Int) :=
  (limN (σ := Int × Int) (ρ := Int × Int) (fun s1 =>
    if (!decide ((s1.2 : Int) = (0 : Int))) = true then
      (
      (fmod s1.1 s1.2).bind fun t4 =>
      some (.inl (s1.2, t4))
      )
    else some (.inr (s1.1, s1.2))
  ) ((if v_one < 0 then -v_one else v_one), (if v_other < 0 then -v_other else v_other))).bind fun r5 =>
  some r5.1
theorem g_divisor_of (d : Nat) {v_one : Int} {v_other : Int} {r : (Int)} (H : n_divisor_of v_one v_other = some r) : run lim dd (d + 1) 4 [(.int v_one), (.int v_other)] = some (((.int r), false), []) := by
  unfold n_divisor_of at H
  refine run_of (rfl : dd 4 = ⟨[.val, .val], 2, [.par [0, 1] [(.bi .abs [(.var 0)]), (.bi .abs [(.var 1)])], .whl (.cmp .ne (.var 1) (.con (.int 0))) [.par [0, 1] [(.var 1), (.bin .mod (.var 0) (.var 1))]], .ret (.var 0)]⟩) rfl ?_
  refine Exs_env (e1 := [some ⟨(.int v_one), .fz⟩, some ⟨(.int v_other), .fz⟩]) rfl ?_
  refine Exs_par ?_
  refine Evs_cons ?_
  refine Ev_bi ?_
  refine Evs_cons ?_
  refine Ev_var rfl ?_
  refine Evs_nil ?_
  refine ⟨_, _, _, rfl, (absB_ok _), ?_⟩
  refine Evs_cons ?_
  refine Ev_bi ?_
  refine Evs_cons ?_
  refine Ev_var rfl ?_
  refine Evs_nil ?_
  refine ⟨_, _, _, rfl, (absB_ok _), ?_⟩
  refine Evs_nil ?_
  refine ⟨_, [some ⟨(.int v_one), .fz⟩, some ⟨(.int v_other), .fz⟩], [some ⟨(.int (if v_one < 0 then -v_one else v_one)), .fz⟩, some ⟨(.int (if v_other < 0 then -v_other else v_other)), .fz⟩], rfl, rfl, ?_⟩
  obtain ⟨r5, er5, H⟩ := bd H
  refine Exs_whl ?_
  refine whl_use (J := (fun (z : Int × Int) env => env = [some ⟨(.int z.1), .fz⟩, some ⟨(.int z.2), .fz⟩]) r5) (lim_N (J := fun (z : Int × Int) env => env = [some ⟨(.int z.1), .fz⟩, some ⟨(.int z.2), .fz⟩]) (K := fun (v : Int × Int) fl => ∃ e1, fl = .nx e1 ∧ (fun (z : Int × Int) env => env = [some ⟨(.int z.1), .fz⟩, some ⟨(.int z.2), .fz⟩]) v e1) (fun s1 rs1 envs1 Jh2 h2 => ?w1) rfl er5) ?_
  case w1 =>
    subst Jh2
    refine whlT_of ?_
    refine Ev_cmp ?_
    refine Ev_var rfl ?_
    refine Ev_con ?_
    refine ⟨_, _, _, rfl, rfl, (neE_ok okI (by decide) s1.2 (0 : Int)), ?_⟩
    refine ⟨(!decide ((s1.2 : Int) = (0 : Int))), rfl, fun k3 => ?_, fun k3 => ?_⟩
    · rw [if_pos k3] at h2
      obtain ⟨t4, et4, h2⟩ := bd h2
      refine Exs_par ?_
      refine Evs_cons ?_
      refine Ev_var rfl ?_
      refine Evs_cons ?_
      refine Ev_bin ?_
      refine Ev_var rfl ?_
      refine Ev_var rfl ?_
      refine ⟨_, _, _, _, rfl, rfl, (fmod_ok et4), ?_⟩
      refine Evs_nil ?_
      refine ⟨_, [some ⟨(.int s1.1), .fz⟩, some ⟨(.int s1.2), .fz⟩], [some ⟨(.int s1.2), .fz⟩, some ⟨(.int t4), .fz⟩], rfl, rfl, ?_⟩
      refine Exs_nil ?_
      cases h2
      exact ⟨_, rfl, rfl⟩
    · rw [ifn k3] at h2
      cases h2
      exact ⟨_, rfl, _, rfl, rfl⟩
  rintro _ rfl
  refine Exs_ret ?_
  refine Ev_var rfl ?_
  refine ⟨_, _, _, rfl, ?_⟩
  cases H
  exact .inl ⟨_, rfl, rfl⟩
noncomputable def n_hull_step (v_one : (List Int)) : Option (Int) :=
  (forO (fun x1 (s2 : Int) =>
    (getI v_one (0 : Int)).bind fun t4 =>
    (n_divisor_of s2 (x1 - t4)).bind fun t5 =>
    some t5
  ) v_one (0 : Int)).bind fun r6 =>
  some (if (decide ((0 : Int) < r6)) = true then r6 else (1 : Int))
theorem g_hull_step (d : Nat) {v_one : (List Int)} {r : (Int)} (H : n_hull_step v_one = some r) : run lim dd (d + 2) 12 [((eT eI).e v_one)] = some (((.int r), false), []) := by
  unfold n_hull_step at H
  refine run_of (rfl : dd 12 = ⟨[.ro], 3, [.set 1 (.con (.int 0)), .for_ (.one 2) (.var 0) [.set 1 (.call 4 [(.var 1), (.bin .sub (.var 2) (.idx (.var 0) (.con (.int 0))))])], .ret (.ite (.cmp .gt (.var 1) (.con (.int 0))) (.var 1) (.con (.int 1)))]⟩) rfl ?_
  refine Exs_env (e1 := [some ⟨((eT eI).e v_one), .ro⟩, none, none]) rfl ?_
  refine Exs_set ?_
  refine Ev_con ?_
  refine ⟨_, _, _, [some ⟨((eT eI).e v_one), .ro⟩, some ⟨(.int (0 : Int)), .fz⟩, none], rfl, rfl, ?_⟩
  obtain ⟨r6, er6, H⟩ := bd H
  refine Exs_for (J := fun _ => True) ?_
  refine Ev_var rfl ?_
  refine ⟨_, _, rfl, ?_⟩
  refine for_use (J := (fun (z : Int) env => ∃ u2s2 : Option Slot, NL u2s2 ∧ env = [some ⟨((eT eI).e v_one), .ro⟩, some ⟨(.int z), .fz⟩, u2s2]) r6) (forGo_O (enc := eI.e) (J := fun (z : Int) env => ∃ u2s2 : Option Slot, NL u2s2 ∧ env = [some ⟨((eT eI).e v_one), .ro⟩, some ⟨(.int z), .fz⟩, u2s2]) (fun x1 hxx1 s2 rx1 envx1 Jh3 h3 => ?w1) ⟨none, nl_none, rfl⟩ er6) ?_
  case w1 =>
    obtain ⟨u2s2, nu2s2, rfl⟩ := Jh3
    refine forT_nx (J := (fun (z : Int) env => ∃ u2s2 : Option Slot, NL u2s2 ∧ env = [some ⟨((eT eI).e v_one), .ro⟩, some ⟨(.int z), .fz⟩, u2s2]) rx1) (forT_of (e1 := [some ⟨((eT eI).e v_one), .ro⟩, some ⟨(.int s2), .fz⟩, some ⟨(.int x1), .fz⟩]) (st_nlp rfl rfl nu2s2 _ _) ?_)
    obtain ⟨t4, et4, h3⟩ := bd h3
    obtain ⟨t5, et5, h3⟩ := bd h3
    refine Exs_set ?_
    refine Ev_call ?_
    refine Evs_cons ?_
    refine Ev_var rfl ?_
    refine Evs_cons ?_
    refine Ev_bin ?_
    refine Ev_var rfl ?_
    refine Ev_idx ?_
    refine Ev_var rfl ?_
    refine Ev_con ?_
    refine ⟨_, _, _, rfl, rfl, (getT_ok (E := eI) et4), ?_⟩
    refine ⟨_, _, _, _, rfl, rfl, rfl, ?_⟩
    refine Evs_nil ?_
    refine ⟨_, _, _, _, _, _, _, rfl, g_divisor_of (d + 0) et5, rfl, ?_⟩
    refine ⟨_, _, _, [some ⟨((eT eI).e v_one), .ro⟩, some ⟨(.int t5), .fz⟩, some ⟨(.int x1), .fz⟩], rfl, rfl, ?_⟩
    refine Exs_nil ?_
    cases h3
    exact ⟨_, rfl, ⟨some ⟨(.int x1), .fz⟩, nl_fz _, rfl⟩⟩
  rintro _ ⟨u2r6, nu2r6, rfl⟩
  refine Exs_env (e1 := [some ⟨((eT eI).e v_one), .ro⟩, some ⟨(.int r6), .fz⟩, u2r6]) rfl ?_
  refine Exs_ret ?_
  refine Ev_abs (p := (.int (if (decide ((0 : Int) < r6)) = true then r6 else (1 : Int)))) ?_ (fun o9 hdo9 hco9 hmo9 => ?_)
  · refine Ev_ite ?_
    refine Ev_cmp ?_
    refine Ev_var rfl ?_
    refine Ev_con ?_
    refine ⟨_, _, _, rfl, rfl, rfl, ?_⟩
    refine ⟨(decide ((0 : Int) < r6)), rfl, fun k8 => ?_, fun k8 => ?_⟩
    · refine Ev_var rfl ?_
      exact abs_fin (itp_tt (c := (decide ((0 : Int) < r6))) (x := r6) (y := (1 : Int)) (f := (fun z => (.int z))) k8 rfl) rfl rfl (fun _ => rfl)
    · refine Ev_con ?_
      exact abs_fin (itp_ff (c := (decide ((0 : Int) < r6))) (x := r6) (y := (1 : Int)) (f := (fun z => (.int z))) k8 rfl) rfl rfl (fun _ => rfl)
  refine ⟨_, _, _, (hmo9 _), ?_⟩
  cases H
  exact .inl ⟨_, rfl, rfl⟩
noncomputable def n_sums_in_basics (v_one : (List Int)) (v_other : (List Int)) : Option ((List Int)) :=
  (flS (fun x2 =>  some (List.map (fun x4 => (x2 + x4)) v_other)) v_one).bind fun t5 =>
  some t5
theorem g_sums_in_basics (d : Nat) {v_one : (List Int)} {v_other : (List Int)} {r : ((List Int))} (H : n_sums_in_basics v_one v_other = some r) : run lim dd (d + 1) 9 [((eT eI).e v_one), ((eT eI).e v_other)] = some ((((eL eI).e r), true), []) := by
  unfold n_sums_in_basics at H
  refine run_of (rfl : dd 9 = ⟨[.ro, .ro], 4, [.ret (.lc2 (.one 2) (.var 0) [] (.one 3) (.var 1) [] (.bin .add (.var 2) (.var 3)))]⟩) rfl ?_
  refine Exs_env (e1 := [some ⟨((eT eI).e v_one), .ro⟩, some ⟨((eT eI).e v_other), .ro⟩, none, none]) rfl ?_
  obtain ⟨t5, et5, H⟩ := bd H
  refine Exs_ret ?_
  refine Ev_lc2 ?_
  refine Ev_var rfl ?_
  refine ⟨_, _, _, [some ⟨((eT eI).e v_one), .ro⟩, some ⟨((eT eI).e v_other), .ro⟩, none, none], rfl, lcGo2_fl (A := eI.e) (B := eI.e) (fun x2 hxx2 ox2 ho1 => ?w1) (flS_fl et5), flS_sz et5, ?_⟩
  case w1 =>
    refine turn2_of (e1 := [some ⟨((eT eI).e v_one), .ro⟩, some ⟨((eT eI).e v_other), .ro⟩, some ⟨(.int x2), .fz⟩, none]) rfl ?_
    refine Ev_var rfl ?_
    cases ho1
    refine ⟨_, _, _, [some ⟨((eT eI).e v_one), .ro⟩, some ⟨((eT eI).e v_other), .ro⟩, some ⟨(.int x2), .fz⟩, none], rfl, lcGo_fm (A := eI.e) (B := eI.e) (fun x4 hxx4 ox4 ho3 => ?w2) (fmO_map _ _), ⟨rfl, rfl⟩⟩
    case w2 =>
      refine turn_of (e1 := [some ⟨((eT eI).e v_one), .ro⟩, some ⟨((eT eI).e v_other), .ro⟩, some ⟨(.int x2), .fz⟩, some ⟨(.int x4), .fz⟩]) rfl ?_
      refine EvIfs_nil ?_
      refine ⟨fun _ => ?_, fun h => (by cases h)⟩
      refine Ev_bin ?_
      refine Ev_var rfl ?_
      refine Ev_var rfl ?_
      refine ⟨_, _, _, _, rfl, rfl, rfl, ?_⟩
      refine ⟨_, [some ⟨((eT eI).e v_one), .ro⟩, some ⟨((eT eI).e v_other), .ro⟩, some ⟨(.int x2), .fz⟩, some ⟨(.int x4), .fz⟩], rfl, ?_⟩
      cases ho3
      exact ⟨rfl, rfl⟩
  refine ⟨_, _, _, rfl, ?_⟩
  cases H
  exact .inl ⟨_, rfl, rfl⟩
noncomputable def n_gathered (v_numbers : (List Int)) : Option ((List Int)) :=
  (fset v_numbers).bind fun t1 =>
  some (isort t1)
theorem g_gathered (d : Nat) {v_numbers : (List Int)} {r : ((List Int))} (H : n_gathered v_numbers = some r) : run lim dd (d + 1) 8 [((eL eI).e v_numbers)] = some ((((eT eI).e r), false), []) := by
  unfold n_gathered at H
  refine run_of (rfl : dd 8 = ⟨[.ro], 1, [.ret (.bi .tuple [(.bi .sorted [(.bi .set [(.var 0)])])])]⟩) rfl ?_
  refine Exs_env (e1 := [some ⟨((eL eI).e v_numbers), .ro⟩]) rfl ?_
  obtain ⟨t1, et1, H⟩ := bd H
  refine Exs_ret ?_
  refine Ev_bi ?_
  refine Evs_cons ?_
  refine Ev_bi ?_
  refine Evs_cons ?_
  refine Ev_bi ?_
  refine Evs_cons ?_
  refine Ev_var rfl ?_
  refine Evs_nil ?_
  refine ⟨_, _, _, rfl, (fsetL_ok et1), ?_⟩
  refine Evs_nil ?_
  refine ⟨_, _, _, rfl, (sortS_ok _), ?_⟩
  refine Evs_nil ?_
  refine ⟨_, _, _, rfl, (tupL_ok (E := eI) _), ?_⟩
  refine ⟨_, _, _, rfl, ?_⟩
  cases H
  exact .inl ⟨_, rfl, rfl⟩
noncomputable def n_sum_in (v_one : (List Int)) (v_other : (List Int)) : Option ((List Int)) :=
  (n_sums_in_basics v_one v_other).bind fun t1 =>
  (n_gathered t1).bind fun t2 =>
  some t2
theorem g_sum_in (d : Nat) {v_one : (List Int)} {v_other : (List Int)} {r : ((List Int))} (H : n_sum_in v_one v_other = some r) : run lim dd (d + 2) 10 [((eT eI).e v_one), ((eT eI).e v_other)] = some ((((eT eI).e r), false), []) := by
  unfold n_sum_in at H
  refine run_of (rfl : dd 10 = ⟨[.ro, .ro], 2, [.ret (.call 8 [(.call 9 [(.var 0), (.var 1)])])]⟩) rfl ?_
  refine Exs_env (e1 := [some ⟨((eT eI).e v_one), .ro⟩, some ⟨((eT eI).e v_other), .ro⟩]) rfl ?_
  obtain ⟨t1, et1, H⟩ := bd H
  obtain ⟨t2, et2, H⟩ := bd H
  refine Exs_ret ?_
  refine Ev_call ?_
  refine Evs_cons ?_
  refine Ev_call ?_
  refine Evs_cons ?_
  refine Ev_var rfl ?_
  refine Evs_cons ?_
  refine Ev_var rfl ?_
  refine Evs_nil ?_
  refine ⟨_, _, _, _, _, _, _, rfl, g_sums_in_basics (d + 0) et1, rfl, ?_⟩
  refine Evs_nil ?_
  refine ⟨_, _, _, _, _, _, _, rfl, g_gathered (d + 0) et2, rfl, ?_⟩
  refine ⟨_, _, _, rfl, ?_⟩
  cases H
  exact .inl ⟨_, rfl, rfl⟩
noncomputable def n_sums_in_smallsums (v_one : (List Int)) : Option (Int) :=
  (n_sum_in v_one v_one).bind fun t1 =>
  some ((t1).length : Int)
theorem g_sums_in_smallsums (d : Nat) {v_one : (List Int)} {r : (Int)} (H : n_sums_in_smallsums v_one = some r) : run lim dd (d + 3) 15 [((eT eI).e v_one)] = some (((.int r), false), []) := by
  unfold n_sums_in_smallsums at H
  refine run_of (rfl : dd 15 = ⟨[.ro], 1, [.ret (.bi .len [(.call 10 [(.var 0), (.var 0)])])]⟩) rfl ?_
  refine Exs_env (e1 := [some ⟨((eT eI).e v_one), .ro⟩]) rfl ?_
  obtain ⟨t1, et1, H⟩ := bd H
  refine Exs_ret ?_
  refine Ev_bi ?_
  refine Evs_cons ?_
  refine Ev_call ?_
  refine Evs_cons ?_
  refine Ev_var rfl ?_
  refine Evs_cons ?_
  refine Ev_var rfl ?_
  refine Evs_nil ?_
  refine ⟨_, _, _, _, _, _, _, rfl, g_sum_in (d + 0) et1, rfl, ?_⟩
  refine Evs_nil ?_
  refine ⟨_, _, _, rfl, (lenT_ok (E := eI) _), ?_⟩
  refine ⟨_, _, _, rfl, ?_⟩
  cases H
  exact .inl ⟨_, rfl, rfl⟩
noncomputable def n_short_in (v_many : Int) (v_sums : Int) : Option ((List (List Int))) :=
  (frg (v_many - (1 : Int)) ((v_sums - v_many) + (1 : Int))).bind fun r1 =>
  (forO (fun x2 (s3 : (List (List Int))) =>
    (n_inner_in (v_many - (2 : Int)) x2).bind fun t5 =>
    (forO (fun x6 (s7 : (List (List Int))) =>
      (fadd ([(0 : Int)] : (List Int)) x6).bind fun t9 =>
      (fadd t9 ([x2] : (List Int))).bind fun t10 =>
      (n_hull_step t10).bind fun t11 =>
      (if (decide ((t11 : Int) = (1 : Int))) = true then ((n_sums_in_smallsums t10).bind fun t14 => some (decide ((t14 : Int) = v_sums))) else (some false)).bind fun t15 =>
      if t15 = true then
        (
        (fapp s7 t10).bind fun t17 =>
        some t17
        )
      else
        (
        some s7
        )
    ) t5 s3).bind fun r18 =>
    some r18
  ) r1 ([] : (List (List Int)))).bind fun r19 =>
  (fsrtL r19).bind fun t20 =>
  some t20
theorem g_short_in (d : Nat) {v_many : Int} {v_sums : Int} {r : ((List (List Int)))} (H : n_short_in v_many v_sums = some r) : run lim dd (d + 4) 16 [(.int v_many), (.int v_sums)] = some ((((eL (eT eI)).e r), true), []) := by
  unfold n_short_in at H
  refine run_of (rfl : dd 16 = ⟨[.ro, .ro], 6, [.set 2 (.lst []), .for_ (.one 3) (.rngI [(.bin .sub (.var 0) (.con (.int 1))), (.bin .add (.bin .sub (.var 1) (.var 0)) (.con (.int 1)))]) [.for_ (.one 4) (.call 17 [(.bin .sub (.var 0) (.con (.int 2))), (.var 3)]) [.set 5 (.bin .add (.bin .add (.tup [(.con (.int 0))]) (.var 4)) (.tup [(.var 3)])), .ite (.and (.cmp .eq (.call 12 [(.var 5)]) (.con (.int 1))) (.cmp .eq (.call 15 [(.var 5)]) (.var 1))) [.ex (.mm .append 2 [(.var 5)])] []]], .ret (.bi .sorted [(.var 2)])]⟩) rfl ?_
  refine Exs_env (e1 := [some ⟨(.int v_many), .ro⟩, some ⟨(.int v_sums), .ro⟩, none, none, none, none]) rfl ?_
  refine Exs_set ?_
  refine Ev_lst ?_
  refine Evs_nil ?_
  refine ⟨_, [some ⟨(.int v_many), .ro⟩, some ⟨(.int v_sums), .ro⟩, none, none, none, none], (show _ = some (List.map (eT eI).e ([] : (List (List Int))), _) from rfl), szd 0, ?_⟩
  refine ⟨_, _, _, [some ⟨(.int v_many), .ro⟩, some ⟨(.int v_sums), .ro⟩, some ⟨((eL (eT eI)).e ([] : (List (List Int)))), .own⟩, none, none, none], rfl, rfl, ?_⟩
  obtain ⟨r1, er1, H⟩ := bd H
  obtain ⟨r19, er19, H⟩ := bd H
  refine Exs_for (J := fun _ => True) ?_
  refine Ev_rng ?_
  refine Evs_cons ?_
  refine Ev_bin ?_
  refine Ev_var rfl ?_
  refine Ev_con ?_
  refine ⟨_, _, _, _, rfl, rfl, rfl, ?_⟩
  refine Evs_cons ?_
  refine Ev_bin ?_
  refine Ev_bin ?_
  refine Ev_var rfl ?_
  refine Ev_var rfl ?_
  refine ⟨_, _, _, _, rfl, rfl, rfl, ?_⟩
  refine Ev_con ?_
  refine ⟨_, _, _, _, rfl, rfl, rfl, ?_⟩
  refine Evs_nil ?_
  refine ⟨_, _, rfl, frg2_ok er1, ?_⟩
  refine ⟨_, _, rfl, ?_⟩
  refine for_use (J := (fun (z : (List (List Int))) env => ∃ u3s3 : Option Slot, ∃ u4s3 : Option Slot, ∃ u5s3 : Option Slot, NL u3s3 ∧ NL u4s3 ∧ NL u5s3 ∧ env = [some ⟨(.int v_many), .ro⟩, some ⟨(.int v_sums), .ro⟩, some ⟨((eL (eT eI)).e z), .own⟩, u3s3, u4s3, u5s3]) r19) (forGo_O (enc := PV.int) (J := fun (z : (List (List Int))) env => ∃ u3s3 : Option Slot, ∃ u4s3 : Option Slot, ∃ u5s3 : Option Slot, NL u3s3 ∧ NL u4s3 ∧ NL u5s3 ∧ env = [some ⟨(.int v_many), .ro⟩, some ⟨(.int v_sums), .ro⟩, some ⟨((eL (eT eI)).e z), .own⟩, u3s3, u4s3, u5s3]) (fun x2 hxx2 s3 rx2 envx2 Jh4 h4 => ?w1) ⟨none, none, none, nl_none, nl_none, nl_none, rfl⟩ er19) ?_
  case w1 =>
    obtain ⟨u3s3, u4s3, u5s3, nu3s3, nu4s3, nu5s3, rfl⟩ := Jh4
    refine forT_nx (J := (fun (z : (List (List Int))) env => ∃ u3s3 : Option Slot, ∃ u4s3 : Option Slot, ∃ u5s3 : Option Slot, NL u3s3 ∧ NL u4s3 ∧ NL u5s3 ∧ env = [some ⟨(.int v_many), .ro⟩, some ⟨(.int v_sums), .ro⟩, some ⟨((eL (eT eI)).e z), .own⟩, u3s3, u4s3, u5s3]) rx2) (forT_of (e1 := [some ⟨(.int v_many), .ro⟩, some ⟨(.int v_sums), .ro⟩, some ⟨((eL (eT eI)).e s3), .own⟩, some ⟨(.int x2), .fz⟩, u4s3, u5s3]) (st_nlp rfl rfl nu3s3 _ _) ?_)
    obtain ⟨t5, et5, h4⟩ := bd h4
    obtain ⟨r18, er18, h4⟩ := bd h4
    refine Exs_for (J := fun _ => True) ?_
    refine Ev_call ?_
    refine Evs_cons ?_
    refine Ev_bin ?_
    refine Ev_var rfl ?_
    refine Ev_con ?_
    refine ⟨_, _, _, _, rfl, rfl, rfl, ?_⟩
    refine Evs_cons ?_
    refine Ev_var rfl ?_
    refine Evs_nil ?_
    refine ⟨_, _, _, _, _, _, _, rfl, g_inner_in (d + 2) et5, rfl, ?_⟩
    refine ⟨_, _, rfl, ?_⟩
    refine for_use (J := (fun (z : (List (List Int))) env => ∃ u4s7 : Option Slot, ∃ u5s7 : Option Slot, NL u4s7 ∧ NL u5s7 ∧ env = [some ⟨(.int v_many), .ro⟩, some ⟨(.int v_sums), .ro⟩, some ⟨((eL (eT eI)).e z), .own⟩, some ⟨(.int x2), .fz⟩, u4s7, u5s7]) r18) (forGo_O (enc := (eT eI).e) (J := fun (z : (List (List Int))) env => ∃ u4s7 : Option Slot, ∃ u5s7 : Option Slot, NL u4s7 ∧ NL u5s7 ∧ env = [some ⟨(.int v_many), .ro⟩, some ⟨(.int v_sums), .ro⟩, some ⟨((eL (eT eI)).e z), .own⟩, some ⟨(.int x2), .fz⟩, u4s7, u5s7]) (fun x6 hxx6 s7 rx6 envx6 Jh8 h8 => ?w2) ⟨u4s3, u5s3, nu4s3, nu5s3, rfl⟩ er18) ?_
    case w2 =>
      obtain ⟨u4s7, u5s7, nu4s7, nu5s7, rfl⟩ := Jh8
      refine forT_nx (J := (fun (z : (List (List Int))) env => ∃ u4s7 : Option Slot, ∃ u5s7 : Option Slot, NL u4s7 ∧ NL u5s7 ∧ env = [some ⟨(.int v_many), .ro⟩, some ⟨(.int v_sums), .ro⟩, some ⟨((eL (eT eI)).e z), .own⟩, some ⟨(.int x2), .fz⟩, u4s7, u5s7]) rx6) (forT_of (e1 := [some ⟨(.int v_many), .ro⟩, some ⟨(.int v_sums), .ro⟩, some ⟨((eL (eT eI)).e s7), .own⟩, some ⟨(.int x2), .fz⟩, some ⟨((eT eI).e x6), .fz⟩, u5s7]) (st_nlp rfl rfl nu4s7 _ _) ?_)
      obtain ⟨t9, et9, h8⟩ := bd h8
      obtain ⟨t10, et10, h8⟩ := bd h8
      refine Exs_set ?_
      refine Ev_bin ?_
      refine Ev_bin ?_
      refine Ev_tup ?_
      refine Evs_cons ?_
      refine Ev_con ?_
      refine Evs_nil ?_
      refine ⟨_, [some ⟨(.int v_many), .ro⟩, some ⟨(.int v_sums), .ro⟩, some ⟨((eL (eT eI)).e s7), .own⟩, some ⟨(.int x2), .fz⟩, some ⟨((eT eI).e x6), .fz⟩, u5s7], (show _ = some (List.map eI.e ([(0 : Int)] : (List Int)), _) from rfl), szd 1, ?_⟩
      refine Ev_var rfl ?_
      refine ⟨_, _, _, _, rfl, rfl, (faddT_ok (E := eI) et9), ?_⟩
      refine Ev_tup ?_
      refine Evs_cons ?_
      refine Ev_var rfl ?_
      refine Evs_nil ?_
      refine ⟨_, [some ⟨(.int v_many), .ro⟩, some ⟨(.int v_sums), .ro⟩, some ⟨((eL (eT eI)).e s7), .own⟩, some ⟨(.int x2), .fz⟩, some ⟨((eT eI).e x6), .fz⟩, u5s7], (show _ = some (List.map eI.e ([x2] : (List Int)), _) from rfl), szd 1, ?_⟩
      refine ⟨_, _, _, _, rfl, rfl, (faddT_ok (E := eI) et10), ?_⟩
      refine ⟨_, _, _, [some ⟨(.int v_many), .ro⟩, some ⟨(.int v_sums), .ro⟩, some ⟨((eL (eT eI)).e s7), .own⟩, some ⟨(.int x2), .fz⟩, some ⟨((eT eI).e x6), .fz⟩, some ⟨((eT eI).e t10), .fz⟩], rfl, (st_nlp rfl rfl nu5s7 _ _), ?_⟩
      obtain ⟨t11, et11, h8⟩ := bd h8
      obtain ⟨t15, et15, h8⟩ := bd h8
      refine Exs_ite_nil ?_
      refine Ev_at (o := .vl (.bl t15) false) (e1 := [some ⟨(.int v_many), .ro⟩, some ⟨(.int v_sums), .ro⟩, some ⟨((eL (eT eI)).e s7), .own⟩, some ⟨(.int x2), .fz⟩, some ⟨((eT eI).e x6), .fz⟩, some ⟨((eT eI).e t10), .fz⟩]) (Ev_eq ?_) ?_
      · refine Ev_and ?_
        refine Ev_cmp ?_
        refine Ev_call ?_
        refine Evs_cons ?_
        refine Ev_var rfl ?_
        refine Evs_nil ?_
        refine ⟨_, _, _, _, _, _, _, rfl, g_hull_step (d + 1) et11, rfl, ?_⟩
        refine Ev_con ?_
        refine ⟨_, _, _, rfl, rfl, (eqE_ok okI (by decide) t11 (1 : Int)), ?_⟩
        refine ⟨(decide ((t11 : Int) = (1 : Int))), rfl, fun k13 => ?_, fun k13 => ?_⟩
        · have h12 := et15
          rw [if_pos k13] at h12
          obtain ⟨t14, et14, h12⟩ := bd h12
          refine Ev_cmp ?_
          refine Ev_call ?_
          refine Evs_cons ?_
          refine Ev_var rfl ?_
          refine Evs_nil ?_
          refine ⟨_, _, _, _, _, _, _, rfl, g_sums_in_smallsums (d + 0) et14, rfl, ?_⟩
          refine Ev_var rfl ?_
          refine ⟨_, _, _, rfl, rfl, (eqE_ok okI (by decide) t14 v_sums), ?_⟩
          cases h12
          exact ⟨rfl, rfl⟩
        · rw [ifn k13] at et15
          cases et15
          exact ⟨rfl, rfl⟩
      refine ⟨t15, rfl, fun k16 => ?_, fun k16 => ?_⟩
      · rw [if_pos k16] at h8
        obtain ⟨t17, et17, h8⟩ := bd h8
        refine Exs_ex ?_
        refine Ev_mm rfl ?_
        refine Evs_cons ?_
        refine Ev_var rfl ?_
        refine Evs_nil ?_
        refine ⟨_, [some ⟨(.int v_many), .ro⟩, some ⟨(.int v_sums), .ro⟩, some ⟨((eL (eT eI)).e s7), .own⟩, some ⟨(.int x2), .fz⟩, some ⟨((eT eI).e x6), .fz⟩, some ⟨((eT eI).e t10), .fz⟩], _, _, _, rfl, rfl, rfl, fapp_ok (E := (eT eI)) et17, ?_⟩
        refine Exs_nil ?_
        cases h8
        exact ⟨_, rfl, ⟨some ⟨((eT eI).e x6), .fz⟩, some ⟨((eT eI).e t10), .fz⟩, nl_fz _, nl_fz _, rfl⟩⟩
      · rw [ifn k16] at h8
        refine Exs_nil ?_
        cases h8
        exact ⟨_, rfl, ⟨some ⟨((eT eI).e x6), .fz⟩, some ⟨((eT eI).e t10), .fz⟩, nl_fz _, nl_fz _, rfl⟩⟩
    rintro _ ⟨u4r18, u5r18, nu4r18, nu5r18, rfl⟩
    refine Exs_env (e1 := [some ⟨(.int v_many), .ro⟩, some ⟨(.int v_sums), .ro⟩, some ⟨((eL (eT eI)).e r18), .own⟩, some ⟨(.int x2), .fz⟩, u4r18, u5r18]) rfl ?_
    refine Exs_nil ?_
    cases h4
    exact ⟨_, rfl, ⟨some ⟨(.int x2), .fz⟩, u4r18, u5r18, nl_fz _, nu4r18, nu5r18, rfl⟩⟩
  rintro _ ⟨u3r19, u4r19, u5r19, nu3r19, nu4r19, nu5r19, rfl⟩
  refine Exs_env (e1 := [some ⟨(.int v_many), .ro⟩, some ⟨(.int v_sums), .ro⟩, some ⟨((eL (eT eI)).e r19), .own⟩, u3r19, u4r19, u5r19]) rfl ?_
  obtain ⟨t20, et20, H⟩ := bd H
  refine Exs_ret ?_
  refine Ev_bi ?_
  refine Evs_cons ?_
  refine Ev_var rfl ?_
  refine Evs_nil ?_
  refine ⟨_, _, _, rfl, (srtL_ok et20), ?_⟩
  refine ⟨_, _, _, rfl, ?_⟩
  cases H
  exact .inl ⟨_, rfl, rfl⟩
noncomputable def n_short_sets (v_many : Int) (v_sums : Int) : Option ((List (List Int))) :=
  (n_need_few v_many v_sums).bind fun t1 =>
  (n_short_in v_many v_sums).bind fun t2 =>
  some t2
theorem g_short_sets (d : Nat) {v_many : Int} {v_sums : Int} {r : ((List (List Int)))} (H : n_short_sets v_many v_sums = some r) : run lim dd (d + 5) 22 [(.int v_many), (.int v_sums)] = some ((((eT (eT eI)).e r), false), []) := by
  unfold n_short_sets at H
  refine run_of (rfl : dd 22 = ⟨[.ro, .ro], 2, [.ex (.call 18 [(.var 0), (.var 1)]), .ret (.bi .tuple [(.call 16 [(.var 0), (.var 1)])])]⟩) rfl ?_
  refine Exs_env (e1 := [some ⟨(.int v_many), .ro⟩, some ⟨(.int v_sums), .ro⟩]) rfl ?_
  obtain ⟨t1, et1, H⟩ := bd H
  refine Exs_ex ?_
  refine Ev_call ?_
  refine Evs_cons ?_
  refine Ev_var rfl ?_
  refine Evs_cons ?_
  refine Ev_var rfl ?_
  refine Evs_nil ?_
  refine ⟨_, _, _, _, _, _, _, rfl, g_need_few (d + 1) et1, rfl, ?_⟩
  obtain ⟨t2, et2, H⟩ := bd H
  refine Exs_ret ?_
  refine Ev_bi ?_
  refine Evs_cons ?_
  refine Ev_call ?_
  refine Evs_cons ?_
  refine Ev_var rfl ?_
  refine Evs_cons ?_
  refine Ev_var rfl ?_
  refine Evs_nil ?_
  refine ⟨_, _, _, _, _, _, _, rfl, g_short_in (d + 0) et2, rfl, ?_⟩
  refine Evs_nil ?_
  refine ⟨_, _, _, rfl, (tupL_ok (E := (eT eI)) _), ?_⟩
  refine ⟨_, _, _, rfl, ?_⟩
  cases H
  exact .inl ⟨_, rfl, rfl⟩
noncomputable def n_longest_hull (v_many : Int) (v_sums : Int) : Option (Int) :=
  (n_need_few v_many v_sums).bind fun t1 =>
  (n_short_in v_many v_sums).bind fun t2 =>
  (fmS (fun x4 => (getI x4 (-(1 : Int))).bind fun t5 => some (some (t5 + (1 : Int)))) t2).bind fun t6 =>
  (fadd ([(0 : Int)] : (List Int)) t6).bind fun t7 =>
  (fmax t7).bind fun t8 =>
  some t8
theorem g_longest_hull (d : Nat) {v_many : Int} {v_sums : Int} {r : (Int)} (H : n_longest_hull v_many v_sums = some r) : run lim dd (d + 5) 23 [(.int v_many), (.int v_sums)] = some (((.int r), false), []) := by
  unfold n_longest_hull at H
  refine run_of (rfl : dd 23 = ⟨[.ro, .ro], 3, [.ex (.call 18 [(.var 0), (.var 1)]), .ret (.bi .max [(.bin .add (.lst [(.con (.int 0))]) (.lc (.one 2) (.call 16 [(.var 0), (.var 1)]) [] (.bin .add (.idx (.var 2) (.un .neg (.con (.int 1)))) (.con (.int 1)))))])]⟩) rfl ?_
  refine Exs_env (e1 := [some ⟨(.int v_many), .ro⟩, some ⟨(.int v_sums), .ro⟩, none]) rfl ?_
  obtain ⟨t1, et1, H⟩ := bd H
  refine Exs_ex ?_
  refine Ev_call ?_
  refine Evs_cons ?_
  refine Ev_var rfl ?_
  refine Evs_cons ?_
  refine Ev_var rfl ?_
  refine Evs_nil ?_
  refine ⟨_, _, _, _, _, _, _, rfl, g_need_few (d + 1) et1, rfl, ?_⟩
  obtain ⟨t2, et2, H⟩ := bd H
  obtain ⟨t6, et6, H⟩ := bd H
  obtain ⟨t7, et7, H⟩ := bd H
  obtain ⟨t8, et8, H⟩ := bd H
  refine Exs_ret ?_
  refine Ev_bi ?_
  refine Evs_cons ?_
  refine Ev_bin ?_
  refine Ev_lst ?_
  refine Evs_cons ?_
  refine Ev_con ?_
  refine Evs_nil ?_
  refine ⟨_, [some ⟨(.int v_many), .ro⟩, some ⟨(.int v_sums), .ro⟩, none], (show _ = some (List.map eI.e ([(0 : Int)] : (List Int)), _) from rfl), szd 1, ?_⟩
  refine Ev_lc ?_
  refine Ev_call ?_
  refine Evs_cons ?_
  refine Ev_var rfl ?_
  refine Evs_cons ?_
  refine Ev_var rfl ?_
  refine Evs_nil ?_
  refine ⟨_, _, _, _, _, _, _, rfl, g_short_in (d + 0) et2, rfl, ?_⟩
  refine ⟨_, _, _, [some ⟨(.int v_many), .ro⟩, some ⟨(.int v_sums), .ro⟩, none], rfl, lcGo_fm (A := (eT eI).e) (B := eI.e) (fun x4 hxx4 ox4 ho3 => ?w1) (fmS_fm et6), fmS_sz et6, ?_⟩
  case w1 =>
    refine turn_of (e1 := [some ⟨(.int v_many), .ro⟩, some ⟨(.int v_sums), .ro⟩, some ⟨((eT eI).e x4), .fz⟩]) rfl ?_
    refine EvIfs_nil ?_
    refine ⟨fun _ => ?_, fun h => (by cases h)⟩
    obtain ⟨t5, et5, ho3⟩ := bd ho3
    refine Ev_bin ?_
    refine Ev_idx ?_
    refine Ev_var rfl ?_
    refine Ev_un ?_
    refine Ev_con ?_
    refine ⟨_, _, rfl, rfl, ?_⟩
    refine ⟨_, _, _, rfl, rfl, (getT_ok (E := eI) et5), ?_⟩
    refine Ev_con ?_
    refine ⟨_, _, _, _, rfl, rfl, rfl, ?_⟩
    refine ⟨_, [some ⟨(.int v_many), .ro⟩, some ⟨(.int v_sums), .ro⟩, some ⟨((eT eI).e x4), .fz⟩], rfl, ?_⟩
    cases ho3
    exact ⟨rfl, rfl⟩
  refine ⟨_, _, _, _, rfl, rfl, (faddL_ok (E := eI) et7), ?_⟩
  refine Evs_nil ?_
  refine ⟨_, _, _, rfl, (fmax_ok et8), ?_⟩
  refine ⟨_, _, _, rfl, ?_⟩
  cases H
  exact .inl ⟨_, rfl, rfl⟩
noncomputable def n_law_written  : Option (Bool) :=
  (n_short_sets (4 : Int) (8 : Int)).bind fun t1 =>
  (n_short_sets (4 : Int) (7 : Int)).bind fun t2 =>
  (n_short_sets (4 : Int) (6 : Int)).bind fun t3 =>
  (n_short_sets (3 : Int) (5 : Int)).bind fun t4 =>
  (n_longest_hull (4 : Int) (8 : Int)).bind fun t5 =>
  (n_longest_hull (5 : Int) (11 : Int)).bind fun t6 =>
  (fsame (t1, t2, t3, t4, t5, t6, ()) (([([(0 : Int), (1 : Int), (2 : Int), (4 : Int)] : (List Int)), ([(0 : Int), (2 : Int), (3 : Int), (4 : Int)] : (List Int))] : (List (List Int))), ([([(0 : Int), (1 : Int), (2 : Int), (3 : Int)] : (List Int))] : (List (List Int))), ([] : (List (List Int))), ([([(0 : Int), (1 : Int), (2 : Int)] : (List Int))] : (List (List Int))), (5 : Int), (7 : Int), ())).bind fun t7 =>
  if (!t7) = true then
    (
    some false
    )
  else
    (
    (forR (fun x9 (s10 : Unit) =>
      (n_short_sets x9 (((2 : Int) * x9) - (1 : Int))).bind fun t12 =>
      (n_short_sets x9 (((2 : Int) * x9) - (2 : Int))).bind fun t13 =>
      (n_longest_hull x9 (1 : Int)).bind fun t14 =>
      (mkr (0 : Int) x9).bind fun t15 =>
      (frng (0 : Int) x9).bind fun t16 =>
      (fsame (t12, t13, t14, ()) (([t16] : (List (List Int))), ([] : (List (List Int))), (0 : Int), ())).bind fun t17 =>
      if (!t17) = true then
        (
        some (.inr false)
        )
      else
        (
        (mkr (0 : Int) (x9 + (1 : Int))).bind fun t19 =>
        (frng (0 : Int) (x9 + (1 : Int))).bind fun t20 =>
        (if (decide ((3 : Int) < x9)) = true then ((n_short_sets x9 ((2 : Int) * x9)).bind fun t23 => (fadd (cutI t20 none (some (-(2 : Int)))) (cutI t20 (some (-(1 : Int))) none)).bind fun t24 => (fadd (cutI t20 none (some (1 : Int))) (cutI t20 (some (2 : Int)) none)).bind fun t25 => (fsame t23 ([t24, t25] : (List (List Int)))).bind fun t26 => some (!t26)) else (some false)).bind fun t27 =>
        if t27 = true then
          (
          some (.inr false)
          )
        else
          (
          some (.inl ())
          )
        )
    ) ([(3 : Int), (4 : Int), (5 : Int), (6 : Int), (7 : Int), (8 : Int)] : (List Int)) ()).bind (onG (fun v => v) fun r29 =>
    some true
    )
    )
theorem g_law_written (d : Nat)  {r : (Bool)} (H : n_law_written  = some r) : run lim dd (d + 13) 35 [] = some (((.bl r), false), []) := by
  unfold n_law_written at H
  refine run_of (rfl : dd 35 = ⟨[], 3, [.set 0 (.lst [(.call 22 [(.con (.int 4)), (.con (.int 8))]), (.call 22 [(.con (.int 4)), (.con (.int 7))]), (.call 22 [(.con (.int 4)), (.con (.int 6))]), (.call 22 [(.con (.int 3)), (.con (.int 5))]), (.call 23 [(.con (.int 4)), (.con (.int 8))]), (.call 23 [(.con (.int 5)), (.con (.int 11))])]), .ite (.not (.call 28 [(.var 0), (.lst [(.tup [(.tup [(.con (.int 0)), (.con (.int 1)), (.con (.int 2)), (.con (.int 4))]), (.tup [(.con (.int 0)), (.con (.int 2)), (.con (.int 3)), (.con (.int 4))])]), (.tup [(.tup [(.con (.int 0)), (.con (.int 1)), (.con (.int 2)), (.con (.int 3))])]), (.tup []), (.tup [(.tup [(.con (.int 0)), (.con (.int 1)), (.con (.int 2))])]), (.con (.int 5)), (.con (.int 7))])])) [.ret (.con (.bl false))] [], .for_ (.one 1) (.tup [(.con (.int 3)), (.con (.int 4)), (.con (.int 5)), (.con (.int 6)), (.con (.int 7)), (.con (.int 8))]) [.set 0 (.lst [(.call 22 [(.var 1), (.bin .sub (.bin .mul (.con (.int 2)) (.var 1)) (.con (.int 1)))]), (.call 22 [(.var 1), (.bin .sub (.bin .mul (.con (.int 2)) (.var 1)) (.con (.int 2)))]), (.call 23 [(.var 1), (.con (.int 1))])]), .ite (.not (.call 28 [(.var 0), (.lst [(.tup [(.bi .tuple [(.bi .range [(.var 1)])])]), (.tup []), (.con (.int 0))])])) [.ret (.con (.bl false))] [], .set 2 (.bi .tuple [(.bi .range [(.bin .add (.var 1) (.con (.int 1)))])]), .ite (.and (.cmp .gt (.var 1) (.con (.int 3))) (.not (.call 28 [(.call 22 [(.var 1), (.bin .mul (.con (.int 2)) (.var 1))]), (.tup [(.bin .add (.slc (.var 2) [] [(.un .neg (.con (.int 2)))]) (.slc (.var 2) [(.un .neg (.con (.int 1)))] [])), (.bin .add (.slc (.var 2) [] [(.con (.int 1))]) (.slc (.var 2) [(.con (.int 2))] []))])]))) [.ret (.con (.bl false))] []], .ret (.con (.bl true))]⟩) rfl ?_
  refine Exs_env (e1 := [none, none, none]) rfl ?_
  obtain ⟨t1, et1, H⟩ := bd H
  obtain ⟨t2, et2, H⟩ := bd H
  obtain ⟨t3, et3, H⟩ := bd H
  obtain ⟨t4, et4, H⟩ := bd H
  obtain ⟨t5, et5, H⟩ := bd H
  obtain ⟨t6, et6, H⟩ := bd H
  refine Exs_set ?_
  refine Ev_lst ?_
  refine Evs_cons ?_
  refine Ev_call ?_
  refine Evs_cons ?_
  refine Ev_con ?_
  refine Evs_cons ?_
  refine Ev_con ?_
  refine Evs_nil ?_
  refine ⟨_, _, _, _, _, _, _, rfl, g_short_sets (d + 7) et1, rfl, ?_⟩
  refine Evs_cons ?_
  refine Ev_call ?_
  refine Evs_cons ?_
  refine Ev_con ?_
  refine Evs_cons ?_
  refine Ev_con ?_
  refine Evs_nil ?_
  refine ⟨_, _, _, _, _, _, _, rfl, g_short_sets (d + 7) et2, rfl, ?_⟩
  refine Evs_cons ?_
  refine Ev_call ?_
  refine Evs_cons ?_
  refine Ev_con ?_
  refine Evs_cons ?_
  refine Ev_con ?_
  refine Evs_nil ?_
  refine ⟨_, _, _, _, _, _, _, rfl, g_short_sets (d + 7) et3, rfl, ?_⟩
  refine Evs_cons ?_
  refine Ev_call ?_
  refine Evs_cons ?_
  refine Ev_con ?_
  refine Evs_cons ?_
  refine Ev_con ?_
  refine Evs_nil ?_
  refine ⟨_, _, _, _, _, _, _, rfl, g_short_sets (d + 7) et4, rfl, ?_⟩
  refine Evs_cons ?_
  refine Ev_call ?_
  refine Evs_cons ?_
  refine Ev_con ?_
  refine Evs_cons ?_
  refine Ev_con ?_
  refine Evs_nil ?_
  refine ⟨_, _, _, _, _, _, _, rfl, g_longest_hull (d + 7) et5, rfl, ?_⟩
  refine Evs_cons ?_
  refine Ev_call ?_
  refine Evs_cons ?_
  refine Ev_con ?_
  refine Evs_cons ?_
  refine Ev_con ?_
  refine Evs_nil ?_
  refine ⟨_, _, _, _, _, _, _, rfl, g_longest_hull (d + 7) et6, rfl, ?_⟩
  refine Evs_nil ?_
  refine ⟨_, [none, none, none], rfl, szd 6, ?_⟩
  refine ⟨_, _, _, [some ⟨(.lst [((eT (eT eI)).e t1), ((eT (eT eI)).e t2), ((eT (eT eI)).e t3), ((eT (eT eI)).e t4), (.int t5), (.int t6)]), .own⟩, none, none], rfl, rfl, ?_⟩
  obtain ⟨t7, et7, H⟩ := bd H
  refine Exs_ite ?_
  refine Ev_not ?_
  refine Ev_call ?_
  refine Evs_cons ?_
  refine Ev_var rfl ?_
  refine Evs_cons ?_
  refine Ev_lst ?_
  refine Evs_cons ?_
  refine Ev_tup ?_
  refine Evs_cons ?_
  refine Ev_tup ?_
  refine Evs_cons ?_
  refine Ev_con ?_
  refine Evs_cons ?_
  refine Ev_con ?_
  refine Evs_cons ?_
  refine Ev_con ?_
  refine Evs_cons ?_
  refine Ev_con ?_
  refine Evs_nil ?_
  refine ⟨_, [some ⟨(.lst [((eT (eT eI)).e t1), ((eT (eT eI)).e t2), ((eT (eT eI)).e t3), ((eT (eT eI)).e t4), (.int t5), (.int t6)]), .own⟩, none, none], (show _ = some (List.map eI.e ([(0 : Int), (1 : Int), (2 : Int), (4 : Int)] : (List Int)), _) from rfl), szd 4, ?_⟩
  refine Evs_cons ?_
  refine Ev_tup ?_
  refine Evs_cons ?_
  refine Ev_con ?_
  refine Evs_cons ?_
  refine Ev_con ?_
  refine Evs_cons ?_
  refine Ev_con ?_
  refine Evs_cons ?_
  refine Ev_con ?_
  refine Evs_nil ?_
  refine ⟨_, [some ⟨(.lst [((eT (eT eI)).e t1), ((eT (eT eI)).e t2), ((eT (eT eI)).e t3), ((eT (eT eI)).e t4), (.int t5), (.int t6)]), .own⟩, none, none], (show _ = some (List.map eI.e ([(0 : Int), (2 : Int), (3 : Int), (4 : Int)] : (List Int)), _) from rfl), szd 4, ?_⟩
  refine Evs_nil ?_
  refine ⟨_, [some ⟨(.lst [((eT (eT eI)).e t1), ((eT (eT eI)).e t2), ((eT (eT eI)).e t3), ((eT (eT eI)).e t4), (.int t5), (.int t6)]), .own⟩, none, none], (show _ = some (List.map (eT eI).e ([([(0 : Int), (1 : Int), (2 : Int), (4 : Int)] : (List Int)), ([(0 : Int), (2 : Int), (3 : Int), (4 : Int)] : (List Int))] : (List (List Int))), _) from rfl), szd 2, ?_⟩
  refine Evs_cons ?_
  refine Ev_tup ?_
  refine Evs_cons ?_
  refine Ev_tup ?_
  refine Evs_cons ?_
  refine Ev_con ?_
  refine Evs_cons ?_
  refine Ev_con ?_
  refine Evs_cons ?_
  refine Ev_con ?_
  refine Evs_cons ?_
  refine Ev_con ?_
  refine Evs_nil ?_
  refine ⟨_, [some ⟨(.lst [((eT (eT eI)).e t1), ((eT (eT eI)).e t2), ((eT (eT eI)).e t3), ((eT (eT eI)).e t4), (.int t5), (.int t6)]), .own⟩, none, none], (show _ = some (List.map eI.e ([(0 : Int), (1 : Int), (2 : Int), (3 : Int)] : (List Int)), _) from rfl), szd 4, ?_⟩
  refine Evs_nil ?_
  refine ⟨_, [some ⟨(.lst [((eT (eT eI)).e t1), ((eT (eT eI)).e t2), ((eT (eT eI)).e t3), ((eT (eT eI)).e t4), (.int t5), (.int t6)]), .own⟩, none, none], (show _ = some (List.map (eT eI).e ([([(0 : Int), (1 : Int), (2 : Int), (3 : Int)] : (List Int))] : (List (List Int))), _) from rfl), szd 1, ?_⟩
  refine Evs_cons ?_
  refine Ev_tup ?_
  refine Evs_nil ?_
  refine ⟨_, [some ⟨(.lst [((eT (eT eI)).e t1), ((eT (eT eI)).e t2), ((eT (eT eI)).e t3), ((eT (eT eI)).e t4), (.int t5), (.int t6)]), .own⟩, none, none], (show _ = some (List.map (eT eI).e ([] : (List (List Int))), _) from rfl), szd 0, ?_⟩
  refine Evs_cons ?_
  refine Ev_tup ?_
  refine Evs_cons ?_
  refine Ev_tup ?_
  refine Evs_cons ?_
  refine Ev_con ?_
  refine Evs_cons ?_
  refine Ev_con ?_
  refine Evs_cons ?_
  refine Ev_con ?_
  refine Evs_nil ?_
  refine ⟨_, [some ⟨(.lst [((eT (eT eI)).e t1), ((eT (eT eI)).e t2), ((eT (eT eI)).e t3), ((eT (eT eI)).e t4), (.int t5), (.int t6)]), .own⟩, none, none], (show _ = some (List.map eI.e ([(0 : Int), (1 : Int), (2 : Int)] : (List Int)), _) from rfl), szd 3, ?_⟩
  refine Evs_nil ?_
  refine ⟨_, [some ⟨(.lst [((eT (eT eI)).e t1), ((eT (eT eI)).e t2), ((eT (eT eI)).e t3), ((eT (eT eI)).e t4), (.int t5), (.int t6)]), .own⟩, none, none], (show _ = some (List.map (eT eI).e ([([(0 : Int), (1 : Int), (2 : Int)] : (List Int))] : (List (List Int))), _) from rfl), szd 1, ?_⟩
  refine Evs_cons ?_
  refine Ev_con ?_
  refine Evs_cons ?_
  refine Ev_con ?_
  refine Evs_nil ?_
  refine ⟨_, [some ⟨(.lst [((eT (eT eI)).e t1), ((eT (eT eI)).e t2), ((eT (eT eI)).e t3), ((eT (eT eI)).e t4), (.int t5), (.int t6)]), .own⟩, none, none], rfl, szd 6, ?_⟩
  refine Evs_nil ?_
  refine ⟨_, _, _, _, _, _, _, rfl, likeH_ok (D := dd) (li := 28) (ls := 27) (hc (okT (okT okI)) (hc (okT (okT okI)) (hc (okT (okT okI)) (hc (okT (okT okI)) (hc okI (hc okI hn)))))) rfl rfl (by decide) et7 (d + 0), rfl, ?_⟩
  refine ⟨_, rfl, ?_⟩
  refine ⟨(!t7), rfl, fun k8 => ?_, fun k8 => ?_⟩
  · rw [if_pos k8] at H
    refine Exs_ret ?_
    refine Ev_con ?_
    refine ⟨_, _, _, rfl, ?_⟩
    cases H
    exact .inl ⟨_, rfl, rfl⟩
  · rw [ifn k8] at H
    refine Exs_nil ?_
    show Exs _ _ _ _ _ _
    obtain ⟨r30, er30, H⟩ := bd H
    refine Exs_forR' ?_
    refine Ev_tup ?_
    refine Evs_cons ?_
    refine Ev_con ?_
    refine Evs_cons ?_
    refine Ev_con ?_
    refine Evs_cons ?_
    refine Ev_con ?_
    refine Evs_cons ?_
    refine Ev_con ?_
    refine Evs_cons ?_
    refine Ev_con ?_
    refine Evs_cons ?_
    refine Ev_con ?_
    refine Evs_nil ?_
    refine ⟨_, [some ⟨(.lst [((eT (eT eI)).e t1), ((eT (eT eI)).e t2), ((eT (eT eI)).e t3), ((eT (eT eI)).e t4), (.int t5), (.int t6)]), .own⟩, none, none], (show _ = some (List.map eI.e ([(3 : Int), (4 : Int), (5 : Int), (6 : Int), (7 : Int), (8 : Int)] : (List Int)), _) from rfl), szd 6, ?_⟩
    refine ⟨_, _, rfl, ?_⟩
    refine forR_use (J := fun (z : Unit) env => ∃ u0s10 : Option Slot, ∃ u1s10 : Option Slot, ∃ u2s10 : Option Slot, NL u0s10 ∧ NL u1s10 ∧ NL u2s10 ∧ env = [u0s10, u1s10, u2s10]) (K := fun (v : Bool) fl => ∃ e1, fl = .rt (.bl v) false e1 ∧ outs [] e1 = some []) (forGo_R (enc := eI.e) (J := fun (z : Unit) env => ∃ u0s10 : Option Slot, ∃ u1s10 : Option Slot, ∃ u2s10 : Option Slot, NL u0s10 ∧ NL u1s10 ∧ NL u2s10 ∧ env = [u0s10, u1s10, u2s10]) (K := fun (v : Bool) fl => ∃ e1, fl = .rt (.bl v) false e1 ∧ outs [] e1 = some []) (fun x9 hxx9 s10 rx9 envx9 Jh11 h11 => ?w1) ⟨some ⟨(.lst [((eT (eT eI)).e t1), ((eT (eT eI)).e t2), ((eT (eT eI)).e t3), ((eT (eT eI)).e t4), (.int t5), (.int t6)]), .own⟩, none, none, nl_own _, nl_none, nl_none, rfl⟩ er30) (fun r29 hrr30 => ?_) (fun v hv fl hK => ?_)
    case w1 =>
      obtain ⟨u0s10, u1s10, u2s10, nu0s10, nu1s10, nu2s10, rfl⟩ := Jh11
      refine forT_of (e1 := [u0s10, some ⟨(.int x9), .fz⟩, u2s10]) (st_nlp rfl rfl nu1s10 _ _) ?_
      obtain ⟨t12, et12, h11⟩ := bd h11
      obtain ⟨t13, et13, h11⟩ := bd h11
      obtain ⟨t14, et14, h11⟩ := bd h11
      refine Exs_set ?_
      refine Ev_lst ?_
      refine Evs_cons ?_
      refine Ev_call ?_
      refine Evs_cons ?_
      refine Ev_var rfl ?_
      refine Evs_cons ?_
      refine Ev_bin ?_
      refine Ev_bin ?_
      refine Ev_con ?_
      refine Ev_var rfl ?_
      refine ⟨_, _, _, _, rfl, rfl, (mulL_lit (by decide)), ?_⟩
      refine Ev_con ?_
      refine ⟨_, _, _, _, rfl, rfl, rfl, ?_⟩
      refine Evs_nil ?_
      refine ⟨_, _, _, _, _, _, _, rfl, g_short_sets (d + 7) et12, rfl, ?_⟩
      refine Evs_cons ?_
      refine Ev_call ?_
      refine Evs_cons ?_
      refine Ev_var rfl ?_
      refine Evs_cons ?_
      refine Ev_bin ?_
      refine Ev_bin ?_
      refine Ev_con ?_
      refine Ev_var rfl ?_
      refine ⟨_, _, _, _, rfl, rfl, (mulL_lit (by decide)), ?_⟩
      refine Ev_con ?_
      refine ⟨_, _, _, _, rfl, rfl, rfl, ?_⟩
      refine Evs_nil ?_
      refine ⟨_, _, _, _, _, _, _, rfl, g_short_sets (d + 7) et13, rfl, ?_⟩
      refine Evs_cons ?_
      refine Ev_call ?_
      refine Evs_cons ?_
      refine Ev_var rfl ?_
      refine Evs_cons ?_
      refine Ev_con ?_
      refine Evs_nil ?_
      refine ⟨_, _, _, _, _, _, _, rfl, g_longest_hull (d + 7) et14, rfl, ?_⟩
      refine Evs_nil ?_
      refine ⟨_, [u0s10, some ⟨(.int x9), .fz⟩, u2s10], rfl, szd 3, ?_⟩
      refine ⟨_, _, _, [some ⟨(.lst [((eT (eT eI)).e t12), ((eT (eT eI)).e t13), (.int t14)]), .own⟩, some ⟨(.int x9), .fz⟩, u2s10], rfl, (st_nlp rfl rfl nu0s10 _ _), ?_⟩
      obtain ⟨t15, et15, h11⟩ := bd h11
      obtain ⟨t16, et16, h11⟩ := bd h11
      obtain ⟨t17, et17, h11⟩ := bd h11
      refine Exs_ite ?_
      refine Ev_not ?_
      refine Ev_call ?_
      refine Evs_cons ?_
      refine Ev_var rfl ?_
      refine Evs_cons ?_
      refine Ev_lst ?_
      refine Evs_cons ?_
      refine Ev_tup ?_
      refine Evs_cons ?_
      refine Ev_bi ?_
      refine Evs_cons ?_
      refine Ev_bi ?_
      refine Evs_cons ?_
      refine Ev_var rfl ?_
      refine Evs_nil ?_
      refine ⟨_, _, _, rfl, mkr1_ok et15, ?_⟩
      refine Evs_nil ?_
      refine ⟨_, _, _, rfl, (frngT_ok et16), ?_⟩
      refine Evs_nil ?_
      refine ⟨_, [some ⟨(.lst [((eT (eT eI)).e t12), ((eT (eT eI)).e t13), (.int t14)]), .own⟩, some ⟨(.int x9), .fz⟩, u2s10], (show _ = some (List.map (eT eI).e ([t16] : (List (List Int))), _) from rfl), szd 1, ?_⟩
      refine Evs_cons ?_
      refine Ev_tup ?_
      refine Evs_nil ?_
      refine ⟨_, [some ⟨(.lst [((eT (eT eI)).e t12), ((eT (eT eI)).e t13), (.int t14)]), .own⟩, some ⟨(.int x9), .fz⟩, u2s10], (show _ = some (List.map (eT eI).e ([] : (List (List Int))), _) from rfl), szd 0, ?_⟩
      refine Evs_cons ?_
      refine Ev_con ?_
      refine Evs_nil ?_
      refine ⟨_, [some ⟨(.lst [((eT (eT eI)).e t12), ((eT (eT eI)).e t13), (.int t14)]), .own⟩, some ⟨(.int x9), .fz⟩, u2s10], rfl, szd 3, ?_⟩
      refine Evs_nil ?_
      refine ⟨_, _, _, _, _, _, _, rfl, likeH_ok (D := dd) (li := 28) (ls := 27) (hc (okT (okT okI)) (hc (okT (okT okI)) (hc okI hn))) rfl rfl (by decide) et17 (d + 0), rfl, ?_⟩
      refine ⟨_, rfl, ?_⟩
      refine ⟨(!t17), rfl, fun k18 => ?_, fun k18 => ?_⟩
      · rw [if_pos k18] at h11
        refine Exs_ret ?_
        refine Ev_con ?_
        refine ⟨_, _, _, rfl, ?_⟩
        cases h11
        exact ⟨⟨_, _, _, rfl⟩, ⟨_, rfl, rfl⟩⟩
      · rw [ifn k18] at h11
        refine Exs_nil ?_
        show Exs _ _ _ _ _ _
        obtain ⟨t19, et19, h11⟩ := bd h11
        obtain ⟨t20, et20, h11⟩ := bd h11
        refine Exs_set ?_
        refine Ev_bi ?_
        refine Evs_cons ?_
        refine Ev_bi ?_
        refine Evs_cons ?_
        refine Ev_bin ?_
        refine Ev_var rfl ?_
        refine Ev_con ?_
        refine ⟨_, _, _, _, rfl, rfl, rfl, ?_⟩
        refine Evs_nil ?_
        refine ⟨_, _, _, rfl, mkr1_ok et19, ?_⟩
        refine Evs_nil ?_
        refine ⟨_, _, _, rfl, (frngT_ok et20), ?_⟩
        refine ⟨_, _, _, [some ⟨(.lst [((eT (eT eI)).e t12), ((eT (eT eI)).e t13), (.int t14)]), .own⟩, some ⟨(.int x9), .fz⟩, some ⟨((eT eI).e t20), .fz⟩], rfl, (st_nlp rfl rfl nu2s10 _ _), ?_⟩
        obtain ⟨t27, et27, h11⟩ := bd h11
        refine Exs_ite_nil ?_
        refine Ev_at (o := .vl (.bl t27) false) (e1 := [some ⟨(.lst [((eT (eT eI)).e t12), ((eT (eT eI)).e t13), (.int t14)]), .own⟩, some ⟨(.int x9), .fz⟩, some ⟨((eT eI).e t20), .fz⟩]) (Ev_eq ?_) ?_
        · refine Ev_and ?_
          refine Ev_cmp ?_
          refine Ev_var rfl ?_
          refine Ev_con ?_
          refine ⟨_, _, _, rfl, rfl, rfl, ?_⟩
          refine ⟨(decide ((3 : Int) < x9)), rfl, fun k22 => ?_, fun k22 => ?_⟩
          · have h21 := et27
            rw [if_pos k22] at h21
            obtain ⟨t23, et23, h21⟩ := bd h21
            obtain ⟨t24, et24, h21⟩ := bd h21
            obtain ⟨t25, et25, h21⟩ := bd h21
            obtain ⟨t26, et26, h21⟩ := bd h21
            refine Ev_not ?_
            refine Ev_call ?_
            refine Evs_cons ?_
            refine Ev_call ?_
            refine Evs_cons ?_
            refine Ev_var rfl ?_
            refine Evs_cons ?_
            refine Ev_bin ?_
            refine Ev_con ?_
            refine Ev_var rfl ?_
            refine ⟨_, _, _, _, rfl, rfl, (mulL_lit (by decide)), ?_⟩
            refine Evs_nil ?_
            refine ⟨_, _, _, _, _, _, _, rfl, g_short_sets (d + 7) et23, rfl, ?_⟩
            refine Evs_cons ?_
            refine Ev_tup ?_
            refine Evs_cons ?_
            refine Ev_bin ?_
            refine Ev_slc ?_
            refine Ev_var rfl ?_
            refine Evs_nil ?_
            refine ⟨_, rfl, ?_⟩
            refine Evs_cons ?_
            refine Ev_un ?_
            refine Ev_con ?_
            refine ⟨_, _, rfl, rfl, ?_⟩
            refine Evs_nil ?_
            refine ⟨_, _, _, _, rfl, rfl, (cutT_ok (E := eI) _ _ _), ?_⟩
            refine Ev_slc ?_
            refine Ev_var rfl ?_
            refine Evs_cons ?_
            refine Ev_un ?_
            refine Ev_con ?_
            refine ⟨_, _, rfl, rfl, ?_⟩
            refine Evs_nil ?_
            refine ⟨_, rfl, ?_⟩
            refine Evs_nil ?_
            refine ⟨_, _, _, _, rfl, rfl, (cutT_ok (E := eI) _ _ _), ?_⟩
            refine ⟨_, _, _, _, rfl, rfl, (faddT_ok (E := eI) et24), ?_⟩
            refine Evs_cons ?_
            refine Ev_bin ?_
            refine Ev_slc ?_
            refine Ev_var rfl ?_
            refine Evs_nil ?_
            refine ⟨_, rfl, ?_⟩
            refine Evs_cons ?_
            refine Ev_con ?_
            refine Evs_nil ?_
            refine ⟨_, _, _, _, rfl, rfl, (cutT_ok (E := eI) _ _ _), ?_⟩
            refine Ev_slc ?_
            refine Ev_var rfl ?_
            refine Evs_cons ?_
            refine Ev_con ?_
            refine Evs_nil ?_
            refine ⟨_, rfl, ?_⟩
            refine Evs_nil ?_
            refine ⟨_, _, _, _, rfl, rfl, (cutT_ok (E := eI) _ _ _), ?_⟩
            refine ⟨_, _, _, _, rfl, rfl, (faddT_ok (E := eI) et25), ?_⟩
            refine Evs_nil ?_
            refine ⟨_, [some ⟨(.lst [((eT (eT eI)).e t12), ((eT (eT eI)).e t13), (.int t14)]), .own⟩, some ⟨(.int x9), .fz⟩, some ⟨((eT eI).e t20), .fz⟩], (show _ = some (List.map (eT eI).e ([t24, t25] : (List (List Int))), _) from rfl), szd 2, ?_⟩
            refine Evs_nil ?_
            refine ⟨_, _, _, _, _, _, _, rfl, like_ok (D := dd) (li := 28) (ls := 27) (okT (okT okI)) rfl rfl (by decide) et26 (d + 0), rfl, ?_⟩
            refine ⟨_, rfl, ?_⟩
            cases h21
            exact ⟨rfl, rfl⟩
          · rw [ifn k22] at et27
            cases et27
            exact ⟨rfl, rfl⟩
        refine ⟨t27, rfl, fun k28 => ?_, fun k28 => ?_⟩
        · rw [if_pos k28] at h11
          refine Exs_ret ?_
          refine Ev_con ?_
          refine ⟨_, _, _, rfl, ?_⟩
          cases h11
          exact ⟨⟨_, _, _, rfl⟩, ⟨_, rfl, rfl⟩⟩
        · rw [ifn k28] at h11
          refine Exs_nil ?_
          cases h11
          exact ⟨_, rfl, ⟨some ⟨(.lst [((eT (eT eI)).e t12), ((eT (eT eI)).e t13), (.int t14)]), .own⟩, some ⟨(.int x9), .fz⟩, some ⟨((eT eI).e t20), .fz⟩, nl_own _, nl_fz _, nl_fz _, rfl⟩⟩
    · subst hrr30
      replace H := onG_l H
      rintro _ ⟨u0r29, u1r29, u2r29, nu0r29, nu1r29, nu2r29, rfl⟩
      refine Exs_env (e1 := [u0r29, u1r29, u2r29]) rfl ?_
      refine Exs_ret ?_
      refine Ev_con ?_
      refine ⟨_, _, _, rfl, ?_⟩
      cases H
      exact .inl ⟨_, rfl, rfl⟩
    · subst hv
      have hv := onG_r H
      subst hv
      obtain ⟨e1, rfl, ho⟩ := hK
      exact .inl ⟨_, rfl, ho⟩
noncomputable def n_law_lots (v_things : (List Int)) : Option ((List (List Int))) :=
  (forO (fun x1 (s2 : (List (List Int))) =>
    (fmS (fun x5 => (fadd x5 ([x1] : (List Int))).bind fun t6 => some (some t6)) s2).bind fun t7 =>
    (fadd s2 t7).bind fun t8 =>
    some t8
  ) v_things ([([] : (List Int))] : (List (List Int)))).bind fun r9 =>
  some r9
theorem g_law_lots (d : Nat) {v_things : (List Int)} {r : ((List (List Int)))} (H : n_law_lots v_things = some r) : run lim dd (d + 1) 32 [((eT eI).e v_things)] = some ((((eL (eT eI)).e r), true), []) := by
  unfold n_law_lots at H
  refine run_of (rfl : dd 32 = ⟨[.ro], 4, [.set 1 (.lst [(.tup [])]), .for_ (.one 2) (.var 0) [.set 1 (.bin .add (.var 1) (.lc (.one 3) (.var 1) [] (.bin .add (.var 3) (.tup [(.var 2)]))))], .ret (.var 1)]⟩) rfl ?_
  refine Exs_env (e1 := [some ⟨((eT eI).e v_things), .ro⟩, none, none, none]) rfl ?_
  refine Exs_set ?_
  refine Ev_lst ?_
  refine Evs_cons ?_
  refine Ev_tup ?_
  refine Evs_nil ?_
  refine ⟨_, [some ⟨((eT eI).e v_things), .ro⟩, none, none, none], (show _ = some (List.map eI.e ([] : (List Int)), _) from rfl), szd 0, ?_⟩
  refine Evs_nil ?_
  refine ⟨_, [some ⟨((eT eI).e v_things), .ro⟩, none, none, none], (show _ = some (List.map (eT eI).e ([([] : (List Int))] : (List (List Int))), _) from rfl), szd 1, ?_⟩
  refine ⟨_, _, _, [some ⟨((eT eI).e v_things), .ro⟩, some ⟨((eL (eT eI)).e ([([] : (List Int))] : (List (List Int)))), .own⟩, none, none], rfl, rfl, ?_⟩
  obtain ⟨r9, er9, H⟩ := bd H
  refine Exs_for (J := fun _ => True) ?_
  refine Ev_var rfl ?_
  refine ⟨_, _, rfl, ?_⟩
  refine for_use (J := (fun (z : (List (List Int))) env => ∃ u2s2 : Option Slot, NL u2s2 ∧ env = [some ⟨((eT eI).e v_things), .ro⟩, some ⟨((eL (eT eI)).e z), .own⟩, u2s2, none]) r9) (forGo_O (enc := eI.e) (J := fun (z : (List (List Int))) env => ∃ u2s2 : Option Slot, NL u2s2 ∧ env = [some ⟨((eT eI).e v_things), .ro⟩, some ⟨((eL (eT eI)).e z), .own⟩, u2s2, none]) (fun x1 hxx1 s2 rx1 envx1 Jh3 h3 => ?w1) ⟨none, nl_none, rfl⟩ er9) ?_
  case w1 =>
    obtain ⟨u2s2, nu2s2, rfl⟩ := Jh3
    refine forT_nx (J := (fun (z : (List (List Int))) env => ∃ u2s2 : Option Slot, NL u2s2 ∧ env = [some ⟨((eT eI).e v_things), .ro⟩, some ⟨((eL (eT eI)).e z), .own⟩, u2s2, none]) rx1) (forT_of (e1 := [some ⟨((eT eI).e v_things), .ro⟩, some ⟨((eL (eT eI)).e s2), .own⟩, some ⟨(.int x1), .fz⟩, none]) (st_nlp rfl rfl nu2s2 _ _) ?_)
    obtain ⟨t7, et7, h3⟩ := bd h3
    obtain ⟨t8, et8, h3⟩ := bd h3
    refine Exs_set ?_
    refine Ev_bin ?_
    refine Ev_var rfl ?_
    refine Ev_lc ?_
    refine Ev_var rfl ?_
    refine ⟨_, _, _, [some ⟨((eT eI).e v_things), .ro⟩, some ⟨((eL (eT eI)).e s2), .lk⟩, some ⟨(.int x1), .fz⟩, none], rfl, lcGo_fm (A := (eT eI).e) (B := (eT eI).e) (fun x5 hxx5 ox5 ho4 => ?w2) (fmS_fm et7), fmS_sz et7, ?_⟩
    case w2 =>
      refine turn_of (e1 := [some ⟨((eT eI).e v_things), .ro⟩, some ⟨((eL (eT eI)).e s2), .lk⟩, some ⟨(.int x1), .fz⟩, some ⟨((eT eI).e x5), .fz⟩]) rfl ?_
      refine EvIfs_nil ?_
      refine ⟨fun _ => ?_, fun h => (by cases h)⟩
      obtain ⟨t6, et6, ho4⟩ := bd ho4
      refine Ev_bin ?_
      refine Ev_var rfl ?_
      refine Ev_tup ?_
      refine Evs_cons ?_
      refine Ev_var rfl ?_
      refine Evs_nil ?_
      refine ⟨_, [some ⟨((eT eI).e v_things), .ro⟩, some ⟨((eL (eT eI)).e s2), .lk⟩, some ⟨(.int x1), .fz⟩, some ⟨((eT eI).e x5), .fz⟩], (show _ = some (List.map eI.e ([x1] : (List Int)), _) from rfl), szd 1, ?_⟩
      refine ⟨_, _, _, _, rfl, rfl, (faddT_ok (E := eI) et6), ?_⟩
      refine ⟨_, [some ⟨((eT eI).e v_things), .ro⟩, some ⟨((eL (eT eI)).e s2), .lk⟩, some ⟨(.int x1), .fz⟩, some ⟨((eT eI).e x5), .fz⟩], rfl, ?_⟩
      cases ho4
      exact ⟨rfl, rfl⟩
    refine ⟨_, _, _, _, rfl, rfl, (faddL_ok (E := (eT eI)) et8), ?_⟩
    refine ⟨_, _, _, [some ⟨((eT eI).e v_things), .ro⟩, some ⟨((eL (eT eI)).e t8), .own⟩, some ⟨(.int x1), .fz⟩, none], rfl, rfl, ?_⟩
    refine Exs_nil ?_
    cases h3
    exact ⟨_, rfl, ⟨some ⟨(.int x1), .fz⟩, nl_fz _, rfl⟩⟩
  rintro _ ⟨u2r9, nu2r9, rfl⟩
  refine Exs_env (e1 := [some ⟨((eT eI).e v_things), .ro⟩, some ⟨((eL (eT eI)).e r9), .own⟩, u2r9, none]) rfl ?_
  refine Exs_ret ?_
  refine Ev_var rfl ?_
  refine ⟨_, _, _, rfl, ?_⟩
  cases H
  exact .inl ⟨_, rfl, rfl⟩
noncomputable def n_law_divisor (v_one : Int) (v_other : Int) : Option (Int) :=
  (limN (σ := Int × Int) (ρ := Int × Int) (fun s1 =>
    if (!decide ((s1.2 : Int) = (0 : Int))) = true then
      (
      (fmod s1.1 s1.2).bind fun t4 =>
      some (.inl (s1.2, t4))
      )
    else some (.inr (s1.1, s1.2))
  ) ((if v_one < 0 then -v_one else v_one), (if v_other < 0 then -v_other else v_other))).bind fun r5 =>
  some r5.1
theorem g_law_divisor (d : Nat) {v_one : Int} {v_other : Int} {r : (Int)} (H : n_law_divisor v_one v_other = some r) : run lim dd (d + 1) 30 [(.int v_one), (.int v_other)] = some (((.int r), false), []) := by
  unfold n_law_divisor at H
  refine run_of (rfl : dd 30 = ⟨[.val, .val], 2, [.par [0, 1] [(.bi .abs [(.var 0)]), (.bi .abs [(.var 1)])], .whl (.cmp .ne (.var 1) (.con (.int 0))) [.par [0, 1] [(.var 1), (.bin .mod (.bi .int [(.var 0)]) (.var 1))]], .ret (.var 0)]⟩) rfl ?_
  refine Exs_env (e1 := [some ⟨(.int v_one), .fz⟩, some ⟨(.int v_other), .fz⟩]) rfl ?_
  refine Exs_par ?_
  refine Evs_cons ?_
  refine Ev_bi ?_
  refine Evs_cons ?_
  refine Ev_var rfl ?_
  refine Evs_nil ?_
  refine ⟨_, _, _, rfl, (absB_ok _), ?_⟩
  refine Evs_cons ?_
  refine Ev_bi ?_
  refine Evs_cons ?_
  refine Ev_var rfl ?_
  refine Evs_nil ?_
  refine ⟨_, _, _, rfl, (absB_ok _), ?_⟩
  refine Evs_nil ?_
  refine ⟨_, [some ⟨(.int v_one), .fz⟩, some ⟨(.int v_other), .fz⟩], [some ⟨(.int (if v_one < 0 then -v_one else v_one)), .fz⟩, some ⟨(.int (if v_other < 0 then -v_other else v_other)), .fz⟩], rfl, rfl, ?_⟩
  obtain ⟨r5, er5, H⟩ := bd H
  refine Exs_whl ?_
  refine whl_use (J := (fun (z : Int × Int) env => env = [some ⟨(.int z.1), .fz⟩, some ⟨(.int z.2), .fz⟩]) r5) (lim_N (J := fun (z : Int × Int) env => env = [some ⟨(.int z.1), .fz⟩, some ⟨(.int z.2), .fz⟩]) (K := fun (v : Int × Int) fl => ∃ e1, fl = .nx e1 ∧ (fun (z : Int × Int) env => env = [some ⟨(.int z.1), .fz⟩, some ⟨(.int z.2), .fz⟩]) v e1) (fun s1 rs1 envs1 Jh2 h2 => ?w1) rfl er5) ?_
  case w1 =>
    subst Jh2
    refine whlT_of ?_
    refine Ev_cmp ?_
    refine Ev_var rfl ?_
    refine Ev_con ?_
    refine ⟨_, _, _, rfl, rfl, (neE_ok okI (by decide) s1.2 (0 : Int)), ?_⟩
    refine ⟨(!decide ((s1.2 : Int) = (0 : Int))), rfl, fun k3 => ?_, fun k3 => ?_⟩
    · rw [if_pos k3] at h2
      obtain ⟨t4, et4, h2⟩ := bd h2
      refine Exs_par ?_
      refine Evs_cons ?_
      refine Ev_var rfl ?_
      refine Evs_cons ?_
      refine Ev_bin ?_
      refine Ev_bi ?_
      refine Evs_cons ?_
      refine Ev_var rfl ?_
      refine Evs_nil ?_
      refine ⟨_, _, _, rfl, rfl, ?_⟩
      refine Ev_var rfl ?_
      refine ⟨_, _, _, _, rfl, rfl, (fmod_ok et4), ?_⟩
      refine Evs_nil ?_
      refine ⟨_, [some ⟨(.int s1.1), .fz⟩, some ⟨(.int s1.2), .fz⟩], [some ⟨(.int s1.2), .fz⟩, some ⟨(.int t4), .fz⟩], rfl, rfl, ?_⟩
      refine Exs_nil ?_
      cases h2
      exact ⟨_, rfl, rfl⟩
    · rw [ifn k3] at h2
      cases h2
      exact ⟨_, rfl, _, rfl, rfl⟩
  rintro _ rfl
  refine Exs_ret ?_
  refine Ev_var rfl ?_
  refine ⟨_, _, _, rfl, ?_⟩
  cases H
  exact .inl ⟨_, rfl, rfl⟩
noncomputable def n_law_step_of (v_one : (List Int)) : Option (Int) :=
  (forO (fun x1 (s2 : Int) =>
    (getI v_one (0 : Int)).bind fun t4 =>
    (n_law_divisor s2 (x1 - t4)).bind fun t5 =>
    some t5
  ) v_one (0 : Int)).bind fun r6 =>
  some (if (decide ((0 : Int) < r6)) = true then r6 else (1 : Int))
theorem g_law_step_of (d : Nat) {v_one : (List Int)} {r : (Int)} (H : n_law_step_of v_one = some r) : run lim dd (d + 2) 31 [((eT eI).e v_one)] = some (((.int r), false), []) := by
  unfold n_law_step_of at H
  refine run_of (rfl : dd 31 = ⟨[.ro], 3, [.set 1 (.con (.int 0)), .for_ (.one 2) (.var 0) [.set 1 (.call 30 [(.var 1), (.bin .sub (.var 2) (.idx (.var 0) (.con (.int 0))))])], .ret (.ite (.cmp .gt (.var 1) (.con (.int 0))) (.var 1) (.con (.int 1)))]⟩) rfl ?_
  refine Exs_env (e1 := [some ⟨((eT eI).e v_one), .ro⟩, none, none]) rfl ?_
  refine Exs_set ?_
  refine Ev_con ?_
  refine ⟨_, _, _, [some ⟨((eT eI).e v_one), .ro⟩, some ⟨(.int (0 : Int)), .fz⟩, none], rfl, rfl, ?_⟩
  obtain ⟨r6, er6, H⟩ := bd H
  refine Exs_for (J := fun _ => True) ?_
  refine Ev_var rfl ?_
  refine ⟨_, _, rfl, ?_⟩
  refine for_use (J := (fun (z : Int) env => ∃ u2s2 : Option Slot, NL u2s2 ∧ env = [some ⟨((eT eI).e v_one), .ro⟩, some ⟨(.int z), .fz⟩, u2s2]) r6) (forGo_O (enc := eI.e) (J := fun (z : Int) env => ∃ u2s2 : Option Slot, NL u2s2 ∧ env = [some ⟨((eT eI).e v_one), .ro⟩, some ⟨(.int z), .fz⟩, u2s2]) (fun x1 hxx1 s2 rx1 envx1 Jh3 h3 => ?w1) ⟨none, nl_none, rfl⟩ er6) ?_
  case w1 =>
    obtain ⟨u2s2, nu2s2, rfl⟩ := Jh3
    refine forT_nx (J := (fun (z : Int) env => ∃ u2s2 : Option Slot, NL u2s2 ∧ env = [some ⟨((eT eI).e v_one), .ro⟩, some ⟨(.int z), .fz⟩, u2s2]) rx1) (forT_of (e1 := [some ⟨((eT eI).e v_one), .ro⟩, some ⟨(.int s2), .fz⟩, some ⟨(.int x1), .fz⟩]) (st_nlp rfl rfl nu2s2 _ _) ?_)
    obtain ⟨t4, et4, h3⟩ := bd h3
    obtain ⟨t5, et5, h3⟩ := bd h3
    refine Exs_set ?_
    refine Ev_call ?_
    refine Evs_cons ?_
    refine Ev_var rfl ?_
    refine Evs_cons ?_
    refine Ev_bin ?_
    refine Ev_var rfl ?_
    refine Ev_idx ?_
    refine Ev_var rfl ?_
    refine Ev_con ?_
    refine ⟨_, _, _, rfl, rfl, (getT_ok (E := eI) et4), ?_⟩
    refine ⟨_, _, _, _, rfl, rfl, rfl, ?_⟩
    refine Evs_nil ?_
    refine ⟨_, _, _, _, _, _, _, rfl, g_law_divisor (d + 0) et5, rfl, ?_⟩
    refine ⟨_, _, _, [some ⟨((eT eI).e v_one), .ro⟩, some ⟨(.int t5), .fz⟩, some ⟨(.int x1), .fz⟩], rfl, rfl, ?_⟩
    refine Exs_nil ?_
    cases h3
    exact ⟨_, rfl, ⟨some ⟨(.int x1), .fz⟩, nl_fz _, rfl⟩⟩
  rintro _ ⟨u2r6, nu2r6, rfl⟩
  refine Exs_env (e1 := [some ⟨((eT eI).e v_one), .ro⟩, some ⟨(.int r6), .fz⟩, u2r6]) rfl ?_
  refine Exs_ret ?_
  refine Ev_abs (p := (.int (if (decide ((0 : Int) < r6)) = true then r6 else (1 : Int)))) ?_ (fun o9 hdo9 hco9 hmo9 => ?_)
  · refine Ev_ite ?_
    refine Ev_cmp ?_
    refine Ev_var rfl ?_
    refine Ev_con ?_
    refine ⟨_, _, _, rfl, rfl, rfl, ?_⟩
    refine ⟨(decide ((0 : Int) < r6)), rfl, fun k8 => ?_, fun k8 => ?_⟩
    · refine Ev_var rfl ?_
      exact abs_fin (itp_tt (c := (decide ((0 : Int) < r6))) (x := r6) (y := (1 : Int)) (f := (fun z => (.int z))) k8 rfl) rfl rfl (fun _ => rfl)
    · refine Ev_con ?_
      exact abs_fin (itp_ff (c := (decide ((0 : Int) < r6))) (x := r6) (y := (1 : Int)) (f := (fun z => (.int z))) k8 rfl) rfl rfl (fun _ => rfl)
  refine ⟨_, _, _, (hmo9 _), ?_⟩
  cases H
  exact .inl ⟨_, rfl, rfl⟩
noncomputable def n_law_sum (v_one : (List Int)) (v_other : (List Int)) : Option ((List Int)) :=
  (forO (fun x1 (s2 : (List (Int × Bool))) =>
    (forO (fun x4 (s5 : (List (Int × Bool))) =>
      (dput s5 (x1 + x4) true).bind fun t7 =>
      some t7
    ) v_other s2).bind fun r8 =>
    some r8
  ) v_one []).bind fun r9 =>
  some (isort (r9.map Prod.fst))
theorem g_law_sum (d : Nat) {v_one : (List Int)} {v_other : (List Int)} {r : ((List Int))} (H : n_law_sum v_one v_other = some r) : run lim dd (d + 1) 29 [((eT eI).e v_one), ((eT eI).e v_other)] = some ((((eT eI).e r), false), []) := by
  unfold n_law_sum at H
  refine run_of (rfl : dd 29 = ⟨[.ro, .ro], 5, [.set 2 .dnk, .for_ (.one 3) (.var 0) [.for_ (.one 4) (.var 1) [.sti 2 (.bin .add (.var 3) (.var 4)) (.con (.bl true))]], .ret (.bi .tuple [(.bi .sorted [(.var 2)])])]⟩) rfl ?_
  refine Exs_env (e1 := [some ⟨((eT eI).e v_one), .ro⟩, some ⟨((eT eI).e v_other), .ro⟩, none, none, none]) rfl ?_
  refine Exs_set ?_
  refine Ev_dnk ?_
  refine ⟨_, _, _, [some ⟨((eT eI).e v_one), .ro⟩, some ⟨((eT eI).e v_other), .ro⟩, some ⟨(eD eB []), .own⟩, none, none], rfl, rfl, ?_⟩
  obtain ⟨r9, er9, H⟩ := bd H
  refine Exs_for (J := fun _ => True) ?_
  refine Ev_var rfl ?_
  refine ⟨_, _, rfl, ?_⟩
  refine for_use (J := (fun (z : (List (Int × Bool))) env => ∃ u3s2 : Option Slot, ∃ u4s2 : Option Slot, NL u3s2 ∧ NL u4s2 ∧ env = [some ⟨((eT eI).e v_one), .ro⟩, some ⟨((eT eI).e v_other), .ro⟩, some ⟨(eD eB z), .own⟩, u3s2, u4s2]) r9) (forGo_O (enc := eI.e) (J := fun (z : (List (Int × Bool))) env => ∃ u3s2 : Option Slot, ∃ u4s2 : Option Slot, NL u3s2 ∧ NL u4s2 ∧ env = [some ⟨((eT eI).e v_one), .ro⟩, some ⟨((eT eI).e v_other), .ro⟩, some ⟨(eD eB z), .own⟩, u3s2, u4s2]) (fun x1 hxx1 s2 rx1 envx1 Jh3 h3 => ?w1) ⟨none, none, nl_none, nl_none, rfl⟩ er9) ?_
  case w1 =>
    obtain ⟨u3s2, u4s2, nu3s2, nu4s2, rfl⟩ := Jh3
    refine forT_nx (J := (fun (z : (List (Int × Bool))) env => ∃ u3s2 : Option Slot, ∃ u4s2 : Option Slot, NL u3s2 ∧ NL u4s2 ∧ env = [some ⟨((eT eI).e v_one), .ro⟩, some ⟨((eT eI).e v_other), .ro⟩, some ⟨(eD eB z), .own⟩, u3s2, u4s2]) rx1) (forT_of (e1 := [some ⟨((eT eI).e v_one), .ro⟩, some ⟨((eT eI).e v_other), .ro⟩, some ⟨(eD eB s2), .own⟩, some ⟨(.int x1), .fz⟩, u4s2]) (st_nlp rfl rfl nu3s2 _ _) ?_)
    obtain ⟨r8, er8, h3⟩ := bd h3
    refine Exs_for (J := fun _ => True) ?_
    refine Ev_var rfl ?_
    refine ⟨_, _, rfl, ?_⟩
    refine for_use (J := (fun (z : (List (Int × Bool))) env => ∃ u4s5 : Option Slot, NL u4s5 ∧ env = [some ⟨((eT eI).e v_one), .ro⟩, some ⟨((eT eI).e v_other), .ro⟩, some ⟨(eD eB z), .own⟩, some ⟨(.int x1), .fz⟩, u4s5]) r8) (forGo_O (enc := eI.e) (J := fun (z : (List (Int × Bool))) env => ∃ u4s5 : Option Slot, NL u4s5 ∧ env = [some ⟨((eT eI).e v_one), .ro⟩, some ⟨((eT eI).e v_other), .ro⟩, some ⟨(eD eB z), .own⟩, some ⟨(.int x1), .fz⟩, u4s5]) (fun x4 hxx4 s5 rx4 envx4 Jh6 h6 => ?w2) ⟨u4s2, nu4s2, rfl⟩ er8) ?_
    case w2 =>
      obtain ⟨u4s5, nu4s5, rfl⟩ := Jh6
      refine forT_nx (J := (fun (z : (List (Int × Bool))) env => ∃ u4s5 : Option Slot, NL u4s5 ∧ env = [some ⟨((eT eI).e v_one), .ro⟩, some ⟨((eT eI).e v_other), .ro⟩, some ⟨(eD eB z), .own⟩, some ⟨(.int x1), .fz⟩, u4s5]) rx4) (forT_of (e1 := [some ⟨((eT eI).e v_one), .ro⟩, some ⟨((eT eI).e v_other), .ro⟩, some ⟨(eD eB s5), .own⟩, some ⟨(.int x1), .fz⟩, some ⟨(.int x4), .fz⟩]) (st_nlp rfl rfl nu4s5 _ _) ?_)
      obtain ⟨t7, et7, h6⟩ := bd h6
      refine Exs_sti ?_
      refine Ev_con ?_
      refine ⟨_, [some ⟨((eT eI).e v_one), .ro⟩, some ⟨((eT eI).e v_other), .ro⟩, some ⟨(eD eB s5), .own⟩, some ⟨(.int x1), .fz⟩, some ⟨(.int x4), .fz⟩], rfl, ?_⟩
      refine Ev_bin ?_
      refine Ev_var rfl ?_
      refine Ev_var rfl ?_
      refine ⟨_, _, _, _, rfl, rfl, rfl, ?_⟩
      refine ⟨_, _, _, rfl, rfl, dput_ok (E := eB) et7, ?_⟩
      refine Exs_env (e1 := [some ⟨((eT eI).e v_one), .ro⟩, some ⟨((eT eI).e v_other), .ro⟩, some ⟨(eD eB t7), .own⟩, some ⟨(.int x1), .fz⟩, some ⟨(.int x4), .fz⟩]) rfl ?_
      refine Exs_nil ?_
      cases h6
      exact ⟨_, rfl, ⟨some ⟨(.int x4), .fz⟩, nl_fz _, rfl⟩⟩
    rintro _ ⟨u4r8, nu4r8, rfl⟩
    refine Exs_env (e1 := [some ⟨((eT eI).e v_one), .ro⟩, some ⟨((eT eI).e v_other), .ro⟩, some ⟨(eD eB r8), .own⟩, some ⟨(.int x1), .fz⟩, u4r8]) rfl ?_
    refine Exs_nil ?_
    cases h3
    exact ⟨_, rfl, ⟨some ⟨(.int x1), .fz⟩, u4r8, nl_fz _, nu4r8, rfl⟩⟩
  rintro _ ⟨u3r9, u4r9, nu3r9, nu4r9, rfl⟩
  refine Exs_env (e1 := [some ⟨((eT eI).e v_one), .ro⟩, some ⟨((eT eI).e v_other), .ro⟩, some ⟨(eD eB r9), .own⟩, u3r9, u4r9]) rfl ?_
  refine Exs_ret ?_
  refine Ev_bi ?_
  refine Evs_cons ?_
  refine Ev_bi ?_
  refine Evs_cons ?_
  refine Ev_var rfl ?_
  refine Evs_nil ?_
  refine ⟨_, _, _, rfl, (sortD_ok _), ?_⟩
  refine Evs_nil ?_
  refine ⟨_, _, _, rfl, (tupL_ok (E := eI) _), ?_⟩
  refine ⟨_, _, _, rfl, ?_⟩
  cases H
  exact .inl ⟨_, rfl, rfl⟩
noncomputable def n_law_short (v_many : Int) (v_sums : Int) : Option ((List (List Int))) :=
  (mkr (1 : Int) (if (1 : Int) < ((v_sums - v_many) + (1 : Int)) then ((v_sums - v_many) + (1 : Int)) else (1 : Int))).bind fun t1 =>
  (frng (1 : Int) (if (1 : Int) < ((v_sums - v_many) + (1 : Int)) then ((v_sums - v_many) + (1 : Int)) else (1 : Int))).bind fun t2 =>
  (n_law_lots t2).bind fun t3 =>
  (forO (fun x4 (s5 : (List (List Int))) =>
    (fadd ([(0 : Int)] : (List Int)) x4).bind fun t7 =>
    (if (decide ((((t7).length : Int) : Int) = v_many)) = true then ((n_law_step_of t7).bind fun t10 => (if (decide ((t10 : Int) = (1 : Int))) = true then ((n_law_sum t7 t7).bind fun t13 => some (decide ((((t13).length : Int) : Int) = v_sums))) else (some false)).bind fun t14 => some t14) else (some false)).bind fun t15 =>
    if t15 = true then
      (
      (fapp s5 t7).bind fun t17 =>
      some t17
      )
    else
      (
      some s5
      )
  ) t3 ([] : (List (List Int)))).bind fun r18 =>
  (fsrtL r18).bind fun t19 =>
  some t19
theorem g_law_short (d : Nat) {v_many : Int} {v_sums : Int} {r : ((List (List Int)))} (H : n_law_short v_many v_sums = some r) : run lim dd (d + 3) 33 [(.int v_many), (.int v_sums)] = some ((((eL (eT eI)).e r), true), []) := by
  unfold n_law_short at H
  refine run_of (rfl : dd 33 = ⟨[.ro, .ro], 5, [.set 2 (.lst []), .for_ (.one 3) (.call 32 [(.bi .tuple [(.bi .range [(.con (.int 1)), (.bi .max [(.con (.int 1)), (.bin .add (.bin .sub (.var 1) (.var 0)) (.con (.int 1)))])])])]) [.set 4 (.bin .add (.tup [(.con (.int 0))]) (.var 3)), .ite (.and (.cmp .eq (.bi .len [(.var 4)]) (.var 0)) (.and (.cmp .eq (.call 31 [(.var 4)]) (.con (.int 1))) (.cmp .eq (.bi .len [(.call 29 [(.var 4), (.var 4)])]) (.var 1)))) [.ex (.mm .append 2 [(.var 4)])] []], .ret (.bi .sorted [(.var 2)])]⟩) rfl ?_
  refine Exs_env (e1 := [some ⟨(.int v_many), .ro⟩, some ⟨(.int v_sums), .ro⟩, none, none, none]) rfl ?_
  refine Exs_set ?_
  refine Ev_lst ?_
  refine Evs_nil ?_
  refine ⟨_, [some ⟨(.int v_many), .ro⟩, some ⟨(.int v_sums), .ro⟩, none, none, none], (show _ = some (List.map (eT eI).e ([] : (List (List Int))), _) from rfl), szd 0, ?_⟩
  refine ⟨_, _, _, [some ⟨(.int v_many), .ro⟩, some ⟨(.int v_sums), .ro⟩, some ⟨((eL (eT eI)).e ([] : (List (List Int)))), .own⟩, none, none], rfl, rfl, ?_⟩
  obtain ⟨t1, et1, H⟩ := bd H
  obtain ⟨t2, et2, H⟩ := bd H
  obtain ⟨t3, et3, H⟩ := bd H
  obtain ⟨r18, er18, H⟩ := bd H
  refine Exs_for (J := fun _ => True) ?_
  refine Ev_call ?_
  refine Evs_cons ?_
  refine Ev_bi ?_
  refine Evs_cons ?_
  refine Ev_bi ?_
  refine Evs_cons ?_
  refine Ev_con ?_
  refine Evs_cons ?_
  refine Ev_bi ?_
  refine Evs_cons ?_
  refine Ev_con ?_
  refine Evs_cons ?_
  refine Ev_bin ?_
  refine Ev_bin ?_
  refine Ev_var rfl ?_
  refine Ev_var rfl ?_
  refine ⟨_, _, _, _, rfl, rfl, rfl, ?_⟩
  refine Ev_con ?_
  refine ⟨_, _, _, _, rfl, rfl, rfl, ?_⟩
  refine Evs_nil ?_
  refine ⟨_, _, _, rfl, (max2_ok _ _), ?_⟩
  refine Evs_nil ?_
  refine ⟨_, _, _, rfl, mkr2_ok et1, ?_⟩
  refine Evs_nil ?_
  refine ⟨_, _, _, rfl, (frngT_ok et2), ?_⟩
  refine Evs_nil ?_
  refine ⟨_, _, _, _, _, _, _, rfl, g_law_lots (d + 1) et3, rfl, ?_⟩
  refine ⟨_, _, rfl, ?_⟩
  refine for_use (J := (fun (z : (List (List Int))) env => ∃ u3s5 : Option Slot, ∃ u4s5 : Option Slot, NL u3s5 ∧ NL u4s5 ∧ env = [some ⟨(.int v_many), .ro⟩, some ⟨(.int v_sums), .ro⟩, some ⟨((eL (eT eI)).e z), .own⟩, u3s5, u4s5]) r18) (forGo_O (enc := (eT eI).e) (J := fun (z : (List (List Int))) env => ∃ u3s5 : Option Slot, ∃ u4s5 : Option Slot, NL u3s5 ∧ NL u4s5 ∧ env = [some ⟨(.int v_many), .ro⟩, some ⟨(.int v_sums), .ro⟩, some ⟨((eL (eT eI)).e z), .own⟩, u3s5, u4s5]) (fun x4 hxx4 s5 rx4 envx4 Jh6 h6 => ?w1) ⟨none, none, nl_none, nl_none, rfl⟩ er18) ?_
  case w1 =>
    obtain ⟨u3s5, u4s5, nu3s5, nu4s5, rfl⟩ := Jh6
    refine forT_nx (J := (fun (z : (List (List Int))) env => ∃ u3s5 : Option Slot, ∃ u4s5 : Option Slot, NL u3s5 ∧ NL u4s5 ∧ env = [some ⟨(.int v_many), .ro⟩, some ⟨(.int v_sums), .ro⟩, some ⟨((eL (eT eI)).e z), .own⟩, u3s5, u4s5]) rx4) (forT_of (e1 := [some ⟨(.int v_many), .ro⟩, some ⟨(.int v_sums), .ro⟩, some ⟨((eL (eT eI)).e s5), .own⟩, some ⟨((eT eI).e x4), .fz⟩, u4s5]) (st_nlp rfl rfl nu3s5 _ _) ?_)
    obtain ⟨t7, et7, h6⟩ := bd h6
    refine Exs_set ?_
    refine Ev_bin ?_
    refine Ev_tup ?_
    refine Evs_cons ?_
    refine Ev_con ?_
    refine Evs_nil ?_
    refine ⟨_, [some ⟨(.int v_many), .ro⟩, some ⟨(.int v_sums), .ro⟩, some ⟨((eL (eT eI)).e s5), .own⟩, some ⟨((eT eI).e x4), .fz⟩, u4s5], (show _ = some (List.map eI.e ([(0 : Int)] : (List Int)), _) from rfl), szd 1, ?_⟩
    refine Ev_var rfl ?_
    refine ⟨_, _, _, _, rfl, rfl, (faddT_ok (E := eI) et7), ?_⟩
    refine ⟨_, _, _, [some ⟨(.int v_many), .ro⟩, some ⟨(.int v_sums), .ro⟩, some ⟨((eL (eT eI)).e s5), .own⟩, some ⟨((eT eI).e x4), .fz⟩, some ⟨((eT eI).e t7), .fz⟩], rfl, (st_nlp rfl rfl nu4s5 _ _), ?_⟩
    obtain ⟨t15, et15, h6⟩ := bd h6
    refine Exs_ite_nil ?_
    refine Ev_at (o := .vl (.bl t15) false) (e1 := [some ⟨(.int v_many), .ro⟩, some ⟨(.int v_sums), .ro⟩, some ⟨((eL (eT eI)).e s5), .own⟩, some ⟨((eT eI).e x4), .fz⟩, some ⟨((eT eI).e t7), .fz⟩]) (Ev_eq ?_) ?_
    · refine Ev_and ?_
      refine Ev_cmp ?_
      refine Ev_bi ?_
      refine Evs_cons ?_
      refine Ev_var rfl ?_
      refine Evs_nil ?_
      refine ⟨_, _, _, rfl, (lenT_ok (E := eI) _), ?_⟩
      refine Ev_var rfl ?_
      refine ⟨_, _, _, rfl, rfl, (eqE_ok okI (by decide) ((t7).length : Int) v_many), ?_⟩
      refine ⟨(decide ((((t7).length : Int) : Int) = v_many)), rfl, fun k9 => ?_, fun k9 => ?_⟩
      · have h8 := et15
        rw [if_pos k9] at h8
        obtain ⟨t10, et10, h8⟩ := bd h8
        obtain ⟨t14, et14, h8⟩ := bd h8
        refine Ev_at (o := .vl (.bl t14) false) (e1 := [some ⟨(.int v_many), .ro⟩, some ⟨(.int v_sums), .ro⟩, some ⟨((eL (eT eI)).e s5), .own⟩, some ⟨((eT eI).e x4), .fz⟩, some ⟨((eT eI).e t7), .fz⟩]) (Ev_eq ?_) ?_
        · refine Ev_and ?_
          refine Ev_cmp ?_
          refine Ev_call ?_
          refine Evs_cons ?_
          refine Ev_var rfl ?_
          refine Evs_nil ?_
          refine ⟨_, _, _, _, _, _, _, rfl, g_law_step_of (d + 0) et10, rfl, ?_⟩
          refine Ev_con ?_
          refine ⟨_, _, _, rfl, rfl, (eqE_ok okI (by decide) t10 (1 : Int)), ?_⟩
          refine ⟨(decide ((t10 : Int) = (1 : Int))), rfl, fun k12 => ?_, fun k12 => ?_⟩
          · have h11 := et14
            rw [if_pos k12] at h11
            obtain ⟨t13, et13, h11⟩ := bd h11
            refine Ev_cmp ?_
            refine Ev_bi ?_
            refine Evs_cons ?_
            refine Ev_call ?_
            refine Evs_cons ?_
            refine Ev_var rfl ?_
            refine Evs_cons ?_
            refine Ev_var rfl ?_
            refine Evs_nil ?_
            refine ⟨_, _, _, _, _, _, _, rfl, g_law_sum (d + 1) et13, rfl, ?_⟩
            refine Evs_nil ?_
            refine ⟨_, _, _, rfl, (lenT_ok (E := eI) _), ?_⟩
            refine Ev_var rfl ?_
            refine ⟨_, _, _, rfl, rfl, (eqE_ok okI (by decide) ((t13).length : Int) v_sums), ?_⟩
            cases h11
            exact ⟨rfl, rfl⟩
          · rw [ifn k12] at et14
            cases et14
            exact ⟨rfl, rfl⟩
        cases h8
        exact ⟨rfl, rfl⟩
      · rw [ifn k9] at et15
        cases et15
        exact ⟨rfl, rfl⟩
    refine ⟨t15, rfl, fun k16 => ?_, fun k16 => ?_⟩
    · rw [if_pos k16] at h6
      obtain ⟨t17, et17, h6⟩ := bd h6
      refine Exs_ex ?_
      refine Ev_mm rfl ?_
      refine Evs_cons ?_
      refine Ev_var rfl ?_
      refine Evs_nil ?_
      refine ⟨_, [some ⟨(.int v_many), .ro⟩, some ⟨(.int v_sums), .ro⟩, some ⟨((eL (eT eI)).e s5), .own⟩, some ⟨((eT eI).e x4), .fz⟩, some ⟨((eT eI).e t7), .fz⟩], _, _, _, rfl, rfl, rfl, fapp_ok (E := (eT eI)) et17, ?_⟩
      refine Exs_nil ?_
      cases h6
      exact ⟨_, rfl, ⟨some ⟨((eT eI).e x4), .fz⟩, some ⟨((eT eI).e t7), .fz⟩, nl_fz _, nl_fz _, rfl⟩⟩
    · rw [ifn k16] at h6
      refine Exs_nil ?_
      cases h6
      exact ⟨_, rfl, ⟨some ⟨((eT eI).e x4), .fz⟩, some ⟨((eT eI).e t7), .fz⟩, nl_fz _, nl_fz _, rfl⟩⟩
  rintro _ ⟨u3r18, u4r18, nu3r18, nu4r18, rfl⟩
  refine Exs_env (e1 := [some ⟨(.int v_many), .ro⟩, some ⟨(.int v_sums), .ro⟩, some ⟨((eL (eT eI)).e r18), .own⟩, u3r18, u4r18]) rfl ?_
  obtain ⟨t19, et19, H⟩ := bd H
  refine Exs_ret ?_
  refine Ev_bi ?_
  refine Evs_cons ?_
  refine Ev_var rfl ?_
  refine Evs_nil ?_
  refine ⟨_, _, _, rfl, (srtL_ok et19), ?_⟩
  refine ⟨_, _, _, rfl, ?_⟩
  cases H
  exact .inl ⟨_, rfl, rfl⟩
noncomputable def n_law_some (v_cup : CupT) (v_things : (List (List Int))) : Option ((List Int) × CupT) :=
  (froll v_cup ((v_things).length : Int)).bind fun t1 =>
  (getI v_things t1.1).bind fun t2 =>
  some (t2, t1.2)
theorem g_law_some (d : Nat) {v_cup : CupT} {v_things : (List (List Int))} {r : ((List Int) × CupT)} (H : n_law_some v_cup v_things = some r) : run lim dd (d + 2) 26 [(eC v_cup), ((eL (eT eI)).e v_things)] = some ((((eT eI).e r.1), false), [(eC r.2)]) := by
  unfold n_law_some at H
  refine run_of (rfl : dd 26 = ⟨[.mu, .ro], 2, [.ret (.idx (.var 1) (.call 25 [(.var 0), (.bi .len [(.var 1)])]))]⟩) rfl ?_
  refine Exs_env (e1 := [some ⟨(eC v_cup), .own⟩, some ⟨((eL (eT eI)).e v_things), .ro⟩]) rfl ?_
  obtain ⟨t1, et1, H⟩ := bd H
  obtain ⟨t2, et2, H⟩ := bd H
  refine Exs_ret ?_
  refine Ev_idx ?_
  refine Ev_var rfl ?_
  refine Ev_call ?_
  refine Evs_cons ?_
  refine Ev_var rfl ?_
  refine Evs_cons ?_
  refine Ev_bi ?_
  refine Evs_cons ?_
  refine Ev_var rfl ?_
  refine Evs_nil ?_
  refine ⟨_, _, _, rfl, (lenL_ok (E := (eT eI)) _), ?_⟩
  refine Evs_nil ?_
  refine ⟨_, _, _, _, _, _, _, rfl, froll_ok (D := dd) (i := 25) rfl (d + 0) et1, rfl, ?_⟩
  refine ⟨_, _, _, rfl, rfl, (getL_ok (E := (eT eI)) et2), ?_⟩
  refine ⟨_, _, _, rfl, ?_⟩
  cases H
  exact .inl ⟨_, rfl, rfl⟩
noncomputable def n_is_tuple_of (v_value : (List Int)) (v_low : Int) (v_high : Int) : Option (Bool) :=
  some (true && ((decide (v_low ≤ ((v_value).length : Int))) && (decide (((v_value).length : Int) ≤ v_high))))
theorem g_is_tuple_of (d : Nat) {v_value : (List Int)} {v_low : Int} {v_high : Int} {r : (Bool)} (H : n_is_tuple_of v_value v_low v_high = some r) : run lim dd (d + 1) 2 [((eT eI).e v_value), (.int v_low), (.int v_high)] = some (((.bl r), false), []) := by
  unfold n_is_tuple_of at H
  refine run_of (rfl : dd 2 = ⟨[.ro, .ro, .ro], 3, [.ret (.and (.isi .tuple (.var 0)) (.cmp2 .le .le (.var 1) (.bi .len [(.var 0)]) (.var 2)))]⟩) rfl ?_
  refine Exs_env (e1 := [some ⟨((eT eI).e v_value), .ro⟩, some ⟨(.int v_low), .ro⟩, some ⟨(.int v_high), .ro⟩]) rfl ?_
  refine Exs_ret ?_
  refine Ev_at (o := .vl (.bl (true && ((decide (v_low ≤ ((v_value).length : Int))) && (decide (((v_value).length : Int) ≤ v_high))))) false) (e1 := [some ⟨((eT eI).e v_value), .ro⟩, some ⟨(.int v_low), .ro⟩, some ⟨(.int v_high), .ro⟩]) (Ev_eq ?_) ?_
  · refine Ev_and ?_
    refine Ev_isi ?_
    refine Ev_var rfl ?_
    refine ⟨_, _, _, rfl, rfl, ?_⟩
    refine ⟨true, rfl, fun k2 => ?_, fun k2 => ?_⟩
    · refine Ev_cmp2 ?_
      refine Ev_var rfl ?_
      refine Ev_bi ?_
      refine Evs_cons ?_
      refine Ev_var rfl ?_
      refine Evs_nil ?_
      refine ⟨_, _, _, rfl, (lenT_ok (E := eI) _), ?_⟩
      refine Ev_var rfl ?_
      refine ⟨rfl, _, _, _, _, _, rfl, rfl, rfl, rfl, rfl, ?_⟩
      exact ⟨and_tt k2, rfl⟩
    · exact ⟨and_ff k2, rfl⟩
  refine ⟨_, _, _, rfl, ?_⟩
  cases H
  exact .inl ⟨_, rfl, rfl⟩
noncomputable def n_is_rising (v_things : (List Int)) : Option (Bool) :=
  (mapS (fun x2 => (decide (x2.1 < x2.2))) ((v_things).zip (cutI v_things (some (1 : Int)) none))).bind fun t3 =>
  some ((t3).all id)
theorem g_is_rising (d : Nat) {v_things : (List Int)} {r : (Bool)} (H : n_is_rising v_things = some r) : run lim dd (d + 1) 3 [((eT eI).e v_things)] = some (((.bl r), false), []) := by
  unfold n_is_rising at H
  refine run_of (rfl : dd 3 = ⟨[.ro], 3, [.ret (.bi .all [(.lc (.many [1, 2]) (.zip (.var 0) (.slc (.var 0) [(.con (.int 1))] [])) [] (.cmp .lt (.var 1) (.var 2)))])]⟩) rfl ?_
  refine Exs_env (e1 := [some ⟨((eT eI).e v_things), .ro⟩, none, none]) rfl ?_
  obtain ⟨t3, et3, H⟩ := bd H
  refine Exs_ret ?_
  refine Ev_bi ?_
  refine Evs_cons ?_
  refine Ev_lc ?_
  refine Ev_zip ?_
  refine Ev_var rfl ?_
  refine Ev_slc ?_
  refine Ev_var rfl ?_
  refine Evs_cons ?_
  refine Ev_con ?_
  refine Evs_nil ?_
  refine ⟨_, rfl, ?_⟩
  refine Evs_nil ?_
  refine ⟨_, _, _, _, rfl, rfl, (cutT_ok (E := eI) _ _ _), ?_⟩
  refine ⟨_, _, _, _, rfl, rfl, .inr ⟨rfl, rfl⟩, ?_⟩
  refine ⟨_, _, _, [some ⟨((eT eI).e v_things), .ro⟩, none, none], (walk_zip (A := eI) (B := eI)), lcGo_fm (A := (e2 eI eI).e) (B := eB.e) (fun x2 hxx2 ox2 ho1 => ?w1) (mapS_fm et3), mapS_sz et3, ?_⟩
  case w1 =>
    refine turn_of (e1 := [some ⟨((eT eI).e v_things), .ro⟩, some ⟨(.int x2.1), .fz⟩, some ⟨(.int x2.2), .fz⟩]) rfl ?_
    refine EvIfs_nil ?_
    refine ⟨fun _ => ?_, fun h => (by cases h)⟩
    refine Ev_cmp ?_
    refine Ev_var rfl ?_
    refine Ev_var rfl ?_
    refine ⟨_, _, _, rfl, rfl, rfl, ?_⟩
    refine ⟨_, [some ⟨((eT eI).e v_things), .ro⟩, some ⟨(.int x2.1), .fz⟩, some ⟨(.int x2.2), .fz⟩], rfl, ?_⟩
    cases ho1
    exact ⟨rfl, rfl⟩
  refine Evs_nil ?_
  refine ⟨_, _, _, rfl, (allB_ok _), ?_⟩
  refine ⟨_, _, _, rfl, ?_⟩
  cases H
  exact .inl ⟨_, rfl, rfl⟩
noncomputable def n_are_members (v_value : (List Int)) (v_low : Int) (v_high : Int) : Option (Bool) :=
  (if true = true then ((fmS (fun x4 => (n_is_whole x4 v_low v_high).bind fun t5 => some (some t5)) v_value).bind fun t6 => (if ((t6).all id) = true then ((n_is_rising v_value).bind fun t9 => some t9) else (some false)).bind fun t10 => some t10) else (some false)).bind fun t11 =>
  some t11
theorem g_are_members (d : Nat) {v_value : (List Int)} {v_low : Int} {v_high : Int} {r : (Bool)} (H : n_are_members v_value v_low v_high = some r) : run lim dd (d + 3) 5 [((eT eI).e v_value), (.int v_low), (.int v_high)] = some (((.bl r), false), []) := by
  unfold n_are_members at H
  refine run_of (rfl : dd 5 = ⟨[.ro, .ro, .ro], 4, [.ret (.and (.isi .tuple (.var 0)) (.and (.bi .all [(.lc (.one 3) (.var 0) [] (.call 1 [(.var 3), (.var 1), (.var 2)]))]) (.call 3 [(.var 0)])))]⟩) rfl ?_
  refine Exs_env (e1 := [some ⟨((eT eI).e v_value), .ro⟩, some ⟨(.int v_low), .ro⟩, some ⟨(.int v_high), .ro⟩, none]) rfl ?_
  obtain ⟨t11, et11, H⟩ := bd H
  refine Exs_ret ?_
  refine Ev_at (o := .vl (.bl t11) false) (e1 := [some ⟨((eT eI).e v_value), .ro⟩, some ⟨(.int v_low), .ro⟩, some ⟨(.int v_high), .ro⟩, none]) (Ev_eq ?_) ?_
  · refine Ev_and ?_
    refine Ev_isi ?_
    refine Ev_var rfl ?_
    refine ⟨_, _, _, rfl, rfl, ?_⟩
    refine ⟨true, rfl, fun k2 => ?_, fun k2 => ?_⟩
    · have h1 := et11
      rw [if_pos k2] at h1
      obtain ⟨t6, et6, h1⟩ := bd h1
      obtain ⟨t10, et10, h1⟩ := bd h1
      refine Ev_at (o := .vl (.bl t10) false) (e1 := [some ⟨((eT eI).e v_value), .ro⟩, some ⟨(.int v_low), .ro⟩, some ⟨(.int v_high), .ro⟩, none]) (Ev_eq ?_) ?_
      · refine Ev_and ?_
        refine Ev_bi ?_
        refine Evs_cons ?_
        refine Ev_lc ?_
        refine Ev_var rfl ?_
        refine ⟨_, _, _, [some ⟨((eT eI).e v_value), .ro⟩, some ⟨(.int v_low), .ro⟩, some ⟨(.int v_high), .ro⟩, none], rfl, lcGo_fm (A := eI.e) (B := eB.e) (fun x4 hxx4 ox4 ho3 => ?w1) (fmS_fm et6), fmS_sz et6, ?_⟩
        case w1 =>
          refine turn_of (e1 := [some ⟨((eT eI).e v_value), .ro⟩, some ⟨(.int v_low), .ro⟩, some ⟨(.int v_high), .ro⟩, some ⟨(.int x4), .fz⟩]) rfl ?_
          refine EvIfs_nil ?_
          refine ⟨fun _ => ?_, fun h => (by cases h)⟩
          obtain ⟨t5, et5, ho3⟩ := bd ho3
          refine Ev_call ?_
          refine Evs_cons ?_
          refine Ev_var rfl ?_
          refine Evs_cons ?_
          refine Ev_var rfl ?_
          refine Evs_cons ?_
          refine Ev_var rfl ?_
          refine Evs_nil ?_
          refine ⟨_, _, _, _, _, _, _, rfl, g_is_whole (d + 0) et5, rfl, ?_⟩
          refine ⟨_, [some ⟨((eT eI).e v_value), .ro⟩, some ⟨(.int v_low), .ro⟩, some ⟨(.int v_high), .ro⟩, some ⟨(.int x4), .fz⟩], rfl, ?_⟩
          cases ho3
          exact ⟨rfl, rfl⟩
        refine Evs_nil ?_
        refine ⟨_, _, _, rfl, (allB_ok _), ?_⟩
        refine ⟨((t6).all id), rfl, fun k8 => ?_, fun k8 => ?_⟩
        · have h7 := et10
          rw [if_pos k8] at h7
          obtain ⟨t9, et9, h7⟩ := bd h7
          refine Ev_call ?_
          refine Evs_cons ?_
          refine Ev_var rfl ?_
          refine Evs_nil ?_
          refine ⟨_, _, _, _, _, _, _, rfl, g_is_rising (d + 1) et9, rfl, ?_⟩
          cases h7
          exact ⟨rfl, rfl⟩
        · rw [ifn k8] at et10
          cases et10
          exact ⟨rfl, rfl⟩
      cases h1
      exact ⟨rfl, rfl⟩
    · rw [ifn k2] at et11
      cases et11
      exact ⟨rfl, rfl⟩
  refine ⟨_, _, _, rfl, ?_⟩
  cases H
  exact .inl ⟨_, rfl, rfl⟩
noncomputable def n_fits_set (v_value : (List Int)) : Option (Bool) :=
  (n_is_tuple_of v_value (0 : Int) (400 : Int)).bind fun t1 =>
  (if t1 = true then ((n_are_members v_value (-(1000000000000 : Int)) (1000000000000 : Int)).bind fun t4 => some t4) else (some false)).bind fun t5 =>
  some t5
theorem g_fits_set (d : Nat) {v_value : (List Int)} {r : (Bool)} (H : n_fits_set v_value = some r) : run lim dd (d + 4) 6 [((eT eI).e v_value)] = some (((.bl r), false), []) := by
  unfold n_fits_set at H
  refine run_of (rfl : dd 6 = ⟨[.ro], 1, [.ret (.and (.call 2 [(.var 0), (.con (.int 0)), (.glo (Str.ofString "MOST_basics") (.int (400)))]) (.call 5 [(.var 0), (.un .neg (.glo (Str.ofString "GREATEST") (.int (1000000000000)))), (.glo (Str.ofString "GREATEST") (.int (1000000000000)))]))]⟩) rfl ?_
  refine Exs_env (e1 := [some ⟨((eT eI).e v_value), .ro⟩]) rfl ?_
  obtain ⟨t1, et1, H⟩ := bd H
  obtain ⟨t5, et5, H⟩ := bd H
  refine Exs_ret ?_
  refine Ev_at (o := .vl (.bl t5) false) (e1 := [some ⟨((eT eI).e v_value), .ro⟩]) (Ev_eq ?_) ?_
  · refine Ev_and ?_
    refine Ev_call ?_
    refine Evs_cons ?_
    refine Ev_var rfl ?_
    refine Evs_cons ?_
    refine Ev_con ?_
    refine Evs_cons ?_
    refine Ev_glo ?_
    refine Evs_nil ?_
    refine ⟨_, _, _, _, _, _, _, rfl, g_is_tuple_of (d + 2) et1, rfl, ?_⟩
    refine ⟨t1, rfl, fun k3 => ?_, fun k3 => ?_⟩
    · have h2 := et5
      rw [if_pos k3] at h2
      obtain ⟨t4, et4, h2⟩ := bd h2
      refine Ev_call ?_
      refine Evs_cons ?_
      refine Ev_var rfl ?_
      refine Evs_cons ?_
      refine Ev_un ?_
      refine Ev_glo ?_
      refine ⟨_, _, rfl, rfl, ?_⟩
      refine Evs_cons ?_
      refine Ev_glo ?_
      refine Evs_nil ?_
      refine ⟨_, _, _, _, _, _, _, rfl, g_are_members (d + 0) et4, rfl, ?_⟩
      cases h2
      exact ⟨rfl, rfl⟩
    · rw [ifn k3] at et5
      cases et5
      exact ⟨rfl, rfl⟩
  refine ⟨_, _, _, rfl, ?_⟩
  cases H
  exact .inl ⟨_, rfl, rfl⟩
noncomputable def n_need_set (v_value : (List Int)) : Option (Unit) :=
  (n_fits_set v_value).bind fun t1 =>
  if (!t1) = true then
    (
    none
    )
  else
    (
    some ()
    )
theorem g_need_set (d : Nat) {v_value : (List Int)} {r : (Unit)} (H : n_need_set v_value = some r) : run lim dd (d + 5) 7 [((eT eI).e v_value)] = some ((.non, false), []) := by
  unfold n_need_set at H
  refine run_of (rfl : dd 7 = ⟨[.ro], 1, [.ite (.not (.call 6 [(.var 0)])) [.nev] []]⟩) rfl ?_
  refine Exs_env (e1 := [some ⟨((eT eI).e v_value), .ro⟩]) rfl ?_
  obtain ⟨t1, et1, H⟩ := bd H
  refine Exs_ite_nil ?_
  refine Ev_not ?_
  refine Ev_call ?_
  refine Evs_cons ?_
  refine Ev_var rfl ?_
  refine Evs_nil ?_
  refine ⟨_, _, _, _, _, _, _, rfl, g_fits_set (d + 0) et1, rfl, ?_⟩
  refine ⟨_, rfl, ?_⟩
  refine ⟨(!t1), rfl, fun k2 => ?_, fun k2 => ?_⟩
  · rw [if_pos k2] at H
    cases H
  · rw [ifn k2] at H
    refine Exs_nil ?_
    cases H
    exact .inr ⟨_, rfl, rfl, rfl, rfl⟩
noncomputable def n_need_some (v_one : (List Int)) : Option (Unit) :=
  (n_need_set v_one).bind fun t1 =>
  if (decide ((v_one : (List Int)) = ([] : (List Int)))) = true then
    (
    none
    )
  else
    (
    some ()
    )
theorem g_need_some (d : Nat) {v_one : (List Int)} {r : (Unit)} (H : n_need_some v_one = some r) : run lim dd (d + 6) 11 [((eT eI).e v_one)] = some ((.non, false), []) := by
  unfold n_need_some at H
  refine run_of (rfl : dd 11 = ⟨[.ro], 1, [.ex (.call 7 [(.var 0)]), .ite (.cmp .eq (.var 0) (.tup [])) [.nev] []]⟩) rfl ?_
  refine Exs_env (e1 := [some ⟨((eT eI).e v_one), .ro⟩]) rfl ?_
  obtain ⟨t1, et1, H⟩ := bd H
  refine Exs_ex ?_
  refine Ev_call ?_
  refine Evs_cons ?_
  refine Ev_var rfl ?_
  refine Evs_nil ?_
  refine ⟨_, _, _, _, _, _, _, rfl, g_need_set (d + 0) et1, rfl, ?_⟩
  refine Exs_ite_nil ?_
  refine Ev_cmp ?_
  refine Ev_var rfl ?_
  refine Ev_tup ?_
  refine Evs_nil ?_
  refine ⟨_, [some ⟨((eT eI).e v_one), .ro⟩], (show _ = some (List.map eI.e ([] : (List Int)), _) from rfl), szd 0, ?_⟩
  refine ⟨_, _, _, rfl, rfl, (eqE_ok (okT okI) (by decide) v_one ([] : (List Int))), ?_⟩
  refine ⟨(decide ((v_one : (List Int)) = ([] : (List Int)))), rfl, fun k2 => ?_, fun k2 => ?_⟩
  · rw [if_pos k2] at H
    cases H
  · rw [ifn k2] at H
    refine Exs_nil ?_
    cases H
    exact .inr ⟨_, rfl, rfl, rfl, rfl⟩
noncomputable def n_is_short (v_one : (List Int)) : Option (Bool) :=
  (n_need_some v_one).bind fun t1 =>
  (n_sums_in_smallsums v_one).bind fun t2 =>
  some (decide (t2 ≤ (((3 : Int) * ((v_one).length : Int)) - (4 : Int))))
theorem g_is_short (d : Nat) {v_one : (List Int)} {r : (Bool)} (H : n_is_short v_one = some r) : run lim dd (d + 7) 21 [((eT eI).e v_one)] = some (((.bl r), false), []) := by
  unfold n_is_short at H
  refine run_of (rfl : dd 21 = ⟨[.ro], 1, [.ex (.call 11 [(.var 0)]), .ret (.cmp .le (.call 15 [(.var 0)]) (.bin .sub (.bin .mul (.con (.int 3)) (.bi .len [(.var 0)])) (.con (.int 4))))]⟩) rfl ?_
  refine Exs_env (e1 := [some ⟨((eT eI).e v_one), .ro⟩]) rfl ?_
  obtain ⟨t1, et1, H⟩ := bd H
  refine Exs_ex ?_
  refine Ev_call ?_
  refine Evs_cons ?_
  refine Ev_var rfl ?_
  refine Evs_nil ?_
  refine ⟨_, _, _, _, _, _, _, rfl, g_need_some (d + 0) et1, rfl, ?_⟩
  obtain ⟨t2, et2, H⟩ := bd H
  refine Exs_ret ?_
  refine Ev_cmp ?_
  refine Ev_call ?_
  refine Evs_cons ?_
  refine Ev_var rfl ?_
  refine Evs_nil ?_
  refine ⟨_, _, _, _, _, _, _, rfl, g_sums_in_smallsums (d + 3) et2, rfl, ?_⟩
  refine Ev_bin ?_
  refine Ev_bin ?_
  refine Ev_con ?_
  refine Ev_bi ?_
  refine Evs_cons ?_
  refine Ev_var rfl ?_
  refine Evs_nil ?_
  refine ⟨_, _, _, rfl, (lenT_ok (E := eI) _), ?_⟩
  refine ⟨_, _, _, _, rfl, rfl, (mulL_lit (by decide)), ?_⟩
  refine Ev_con ?_
  refine ⟨_, _, _, _, rfl, rfl, rfl, ?_⟩
  refine ⟨_, _, _, rfl, rfl, rfl, ?_⟩
  refine ⟨_, _, _, rfl, ?_⟩
  cases H
  exact .inl ⟨_, rfl, rfl⟩
noncomputable def n_normal_in (v_one : (List Int)) : Option ((List Int)) :=
  (n_hull_step v_one).bind fun t1 =>
  (fmS (fun x3 => (getI v_one (0 : Int)).bind fun t4 => (fdiv (x3 - t4) t1).bind fun t5 => some (some t5)) v_one).bind fun t6 =>
  some t6
theorem g_normal_in (d : Nat) {v_one : (List Int)} {r : ((List Int))} (H : n_normal_in v_one = some r) : run lim dd (d + 3) 13 [((eT eI).e v_one)] = some ((((eT eI).e r), false), []) := by
  unfold n_normal_in at H
  refine run_of (rfl : dd 13 = ⟨[.ro], 3, [.set 1 (.call 12 [(.var 0)]), .ret (.bi .tuple [(.lc (.one 2) (.var 0) [] (.bin .fdiv (.bin .sub (.var 2) (.idx (.var 0) (.con (.int 0)))) (.var 1)))])]⟩) rfl ?_
  refine Exs_env (e1 := [some ⟨((eT eI).e v_one), .ro⟩, none, none]) rfl ?_
  obtain ⟨t1, et1, H⟩ := bd H
  refine Exs_set ?_
  refine Ev_call ?_
  refine Evs_cons ?_
  refine Ev_var rfl ?_
  refine Evs_nil ?_
  refine ⟨_, _, _, _, _, _, _, rfl, g_hull_step (d + 0) et1, rfl, ?_⟩
  refine ⟨_, _, _, [some ⟨((eT eI).e v_one), .ro⟩, some ⟨(.int t1), .fz⟩, none], rfl, rfl, ?_⟩
  obtain ⟨t6, et6, H⟩ := bd H
  refine Exs_ret ?_
  refine Ev_bi ?_
  refine Evs_cons ?_
  refine Ev_lc ?_
  refine Ev_var rfl ?_
  refine ⟨_, _, _, [some ⟨((eT eI).e v_one), .ro⟩, some ⟨(.int t1), .fz⟩, none], rfl, lcGo_fm (A := eI.e) (B := eI.e) (fun x3 hxx3 ox3 ho2 => ?w1) (fmS_fm et6), fmS_sz et6, ?_⟩
  case w1 =>
    refine turn_of (e1 := [some ⟨((eT eI).e v_one), .ro⟩, some ⟨(.int t1), .fz⟩, some ⟨(.int x3), .fz⟩]) rfl ?_
    refine EvIfs_nil ?_
    refine ⟨fun _ => ?_, fun h => (by cases h)⟩
    obtain ⟨t4, et4, ho2⟩ := bd ho2
    obtain ⟨t5, et5, ho2⟩ := bd ho2
    refine Ev_bin ?_
    refine Ev_bin ?_
    refine Ev_var rfl ?_
    refine Ev_idx ?_
    refine Ev_var rfl ?_
    refine Ev_con ?_
    refine ⟨_, _, _, rfl, rfl, (getT_ok (E := eI) et4), ?_⟩
    refine ⟨_, _, _, _, rfl, rfl, rfl, ?_⟩
    refine Ev_var rfl ?_
    refine ⟨_, _, _, _, rfl, rfl, (fdiv_ok et5), ?_⟩
    refine ⟨_, [some ⟨((eT eI).e v_one), .ro⟩, some ⟨(.int t1), .fz⟩, some ⟨(.int x3), .fz⟩], rfl, ?_⟩
    cases ho2
    exact ⟨rfl, rfl⟩
  refine Evs_nil ?_
  refine ⟨_, _, _, rfl, (tupL_ok (E := eI) _), ?_⟩
  refine ⟨_, _, _, rfl, ?_⟩
  cases H
  exact .inl ⟨_, rfl, rfl⟩
noncomputable def n_normal_set (v_one : (List Int)) : Option ((List Int)) :=
  (n_need_some v_one).bind fun t1 =>
  (n_normal_in v_one).bind fun t2 =>
  some t2
theorem g_normal_set (d : Nat) {v_one : (List Int)} {r : ((List Int))} (H : n_normal_set v_one = some r) : run lim dd (d + 7) 19 [((eT eI).e v_one)] = some ((((eT eI).e r), false), []) := by
  unfold n_normal_set at H
  refine run_of (rfl : dd 19 = ⟨[.ro], 1, [.ex (.call 11 [(.var 0)]), .ret (.call 13 [(.var 0)])]⟩) rfl ?_
  refine Exs_env (e1 := [some ⟨((eT eI).e v_one), .ro⟩]) rfl ?_
  obtain ⟨t1, et1, H⟩ := bd H
  refine Exs_ex ?_
  refine Ev_call ?_
  refine Evs_cons ?_
  refine Ev_var rfl ?_
  refine Evs_nil ?_
  refine ⟨_, _, _, _, _, _, _, rfl, g_need_some (d + 0) et1, rfl, ?_⟩
  obtain ⟨t2, et2, H⟩ := bd H
  refine Exs_ret ?_
  refine Ev_call ?_
  refine Evs_cons ?_
  refine Ev_var rfl ?_
  refine Evs_nil ?_
  refine ⟨_, _, _, _, _, _, _, rfl, g_normal_in (d + 3) et2, rfl, ?_⟩
  refine ⟨_, _, _, rfl, ?_⟩
  cases H
  exact .inl ⟨_, rfl, rfl⟩
noncomputable def n_count_sums (v_one : (List Int)) : Option (Int) :=
  (n_need_some v_one).bind fun t1 =>
  (n_sums_in_smallsums v_one).bind fun t2 =>
  some t2
theorem g_count_sums (d : Nat) {v_one : (List Int)} {r : (Int)} (H : n_count_sums v_one = some r) : run lim dd (d + 7) 20 [((eT eI).e v_one)] = some (((.int r), false), []) := by
  unfold n_count_sums at H
  refine run_of (rfl : dd 20 = ⟨[.ro], 1, [.ex (.call 11 [(.var 0)]), .ret (.call 15 [(.var 0)])]⟩) rfl ?_
  refine Exs_env (e1 := [some ⟨((eT eI).e v_one), .ro⟩]) rfl ?_
  obtain ⟨t1, et1, H⟩ := bd H
  refine Exs_ex ?_
  refine Ev_call ?_
  refine Evs_cons ?_
  refine Ev_var rfl ?_
  refine Evs_nil ?_
  refine ⟨_, _, _, _, _, _, _, rfl, g_need_some (d + 0) et1, rfl, ?_⟩
  obtain ⟨t2, et2, H⟩ := bd H
  refine Exs_ret ?_
  refine Ev_call ?_
  refine Evs_cons ?_
  refine Ev_var rfl ?_
  refine Evs_nil ?_
  refine ⟨_, _, _, _, _, _, _, rfl, g_sums_in_smallsums (d + 3) et2, rfl, ?_⟩
  refine ⟨_, _, _, rfl, ?_⟩
  cases H
  exact .inl ⟨_, rfl, rfl⟩
noncomputable def n_law_right (v_cup : CupT) (v_many : Int) (v_sums : Int) : Option (Bool × CupT) :=
  (n_law_short v_many v_sums).bind fun t1 =>
  (n_short_sets v_many v_sums).bind fun t2 =>
  (n_longest_hull v_many v_sums).bind fun t3 =>
  (fmS (fun x5 => (getI x5 (-(1 : Int))).bind fun t6 => some (some (t6 + (1 : Int)))) t1).bind fun t7 =>
  (fadd ([(0 : Int)] : (List Int)) t7).bind fun t8 =>
  (fmax t8).bind fun t9 =>
  (fsame (t2, t3, ()) (t1, t9, ())).bind fun t10 =>
  if (!t10) = true then
    (
    some (false, v_cup)
    )
  else
    (
    (fmS (fun x13 => (fmS (fun x15 => (getI x13 (-(1 : Int))).bind fun t16 => some (some (t16 - x15))) (x13).reverse).bind fun t17 => some (some t17)) t1).bind fun t18 =>
    (fsrtL t18).bind fun t19 =>
    if (!decide ((t19 : (List (List Int))) = t1)) = true then
      (
      some (false, v_cup)
      )
    else
      (
      if (decide ((t1 : (List (List Int))) = ([] : (List (List Int))))) = true then
        (
        some (true, v_cup)
        )
      else
        (
        (n_law_some v_cup t1).bind fun t22 =>
        (n_is_short t22.1).bind fun t23 =>
        (n_normal_set t22.1).bind fun t24 =>
        (n_count_sums t22.1).bind fun t25 =>
        (fsame (t23, t24, t25, ()) (true, t22.1, v_sums, ())).bind fun t26 =>
        (if t26 = true then ((getI t22.1 (-(1 : Int))).bind fun t29 => some (decide (t29 ≤ (v_sums - v_many)))) else (some false)).bind fun t30 =>
        some (t30, t22.2)
        )
      )
    )
theorem g_law_right (d : Nat) {v_cup : CupT} {v_many : Int} {v_sums : Int} {r : (Bool × CupT)} (H : n_law_right v_cup v_many v_sums = some r) : run lim dd (d + 13) 34 [(eC v_cup), (.int v_many), (.int v_sums)] = some (((.bl r.1), false), [(eC r.2)]) := by
  unfold n_law_right at H
  refine run_of (rfl : dd 34 = ⟨[.mu, .ro, .val], 8, [.set 3 (.call 33 [(.var 1), (.var 2)]), .set 4 (.call 22 [(.var 1), (.var 2)]), .ite (.not (.call 28 [(.lst [(.var 4), (.call 23 [(.var 1), (.var 2)])]), (.lst [(.bi .tuple [(.var 3)]), (.bi .max [(.bin .add (.lst [(.con (.int 0))]) (.lc (.one 6) (.var 3) [] (.bin .add (.idx (.var 6) (.un .neg (.con (.int 1)))) (.con (.int 1)))))])])])) [.ret (.con (.bl false))] [], .set 5 (.bi .sorted [(.lc (.one 6) (.var 3) [] (.bi .tuple [(.lc (.one 7) (.rev (.var 6)) [] (.bin .sub (.idx (.var 6) (.un .neg (.con (.int 1)))) (.var 7)))]))]), .ite (.cmp .ne (.var 5) (.var 3)) [.ret (.con (.bl false))] [], .ite (.cmp .eq (.var 3) (.lst [])) [.ret (.con (.bl true))] [], .set 6 (.call 26 [(.var 0), (.var 3)]), .ret (.and (.call 28 [(.lst [(.call 21 [(.var 6)]), (.call 19 [(.var 6)]), (.call 20 [(.var 6)])]), (.lst [(.con (.bl true)), (.var 6), (.var 2)])]) (.cmp .le (.idx (.var 6) (.un .neg (.con (.int 1)))) (.bin .sub (.var 2) (.var 1))))]⟩) rfl ?_
  refine Exs_env (e1 := [some ⟨(eC v_cup), .own⟩, some ⟨(.int v_many), .ro⟩, some ⟨(.int v_sums), .fz⟩, none, none, none, none, none]) rfl ?_
  obtain ⟨t1, et1, H⟩ := bd H
  refine Exs_set ?_
  refine Ev_call ?_
  refine Evs_cons ?_
  refine Ev_var rfl ?_
  refine Evs_cons ?_
  refine Ev_var rfl ?_
  refine Evs_nil ?_
  refine ⟨_, _, _, _, _, _, _, rfl, g_law_short (d + 9) et1, rfl, ?_⟩
  refine ⟨_, _, _, [some ⟨(eC v_cup), .own⟩, some ⟨(.int v_many), .ro⟩, some ⟨(.int v_sums), .fz⟩, some ⟨((eL (eT eI)).e t1), .own⟩, none, none, none, none], rfl, rfl, ?_⟩
  obtain ⟨t2, et2, H⟩ := bd H
  refine Exs_set ?_
  refine Ev_call ?_
  refine Evs_cons ?_
  refine Ev_var rfl ?_
  refine Evs_cons ?_
  refine Ev_var rfl ?_
  refine Evs_nil ?_
  refine ⟨_, _, _, _, _, _, _, rfl, g_short_sets (d + 7) et2, rfl, ?_⟩
  refine ⟨_, _, _, [some ⟨(eC v_cup), .own⟩, some ⟨(.int v_many), .ro⟩, some ⟨(.int v_sums), .fz⟩, some ⟨((eL (eT eI)).e t1), .own⟩, some ⟨((eT (eT eI)).e t2), .fz⟩, none, none, none], rfl, rfl, ?_⟩
  obtain ⟨t3, et3, H⟩ := bd H
  obtain ⟨t7, et7, H⟩ := bd H
  obtain ⟨t8, et8, H⟩ := bd H
  obtain ⟨t9, et9, H⟩ := bd H
  obtain ⟨t10, et10, H⟩ := bd H
  refine Exs_ite ?_
  refine Ev_not ?_
  refine Ev_call ?_
  refine Evs_cons ?_
  refine Ev_lst ?_
  refine Evs_cons ?_
  refine Ev_var rfl ?_
  refine Evs_cons ?_
  refine Ev_call ?_
  refine Evs_cons ?_
  refine Ev_var rfl ?_
  refine Evs_cons ?_
  refine Ev_var rfl ?_
  refine Evs_nil ?_
  refine ⟨_, _, _, _, _, _, _, rfl, g_longest_hull (d + 7) et3, rfl, ?_⟩
  refine Evs_nil ?_
  refine ⟨_, [some ⟨(eC v_cup), .own⟩, some ⟨(.int v_many), .ro⟩, some ⟨(.int v_sums), .fz⟩, some ⟨((eL (eT eI)).e t1), .own⟩, some ⟨((eT (eT eI)).e t2), .fz⟩, none, none, none], rfl, szd 2, ?_⟩
  refine Evs_cons ?_
  refine Ev_lst ?_
  refine Evs_cons ?_
  refine Ev_bi ?_
  refine Evs_cons ?_
  refine Ev_var rfl ?_
  refine Evs_nil ?_
  refine ⟨_, _, _, rfl, (tupL_ok (E := (eT eI)) _), ?_⟩
  refine Evs_cons ?_
  refine Ev_bi ?_
  refine Evs_cons ?_
  refine Ev_bin ?_
  refine Ev_lst ?_
  refine Evs_cons ?_
  refine Ev_con ?_
  refine Evs_nil ?_
  refine ⟨_, [some ⟨(eC v_cup), .own⟩, some ⟨(.int v_many), .ro⟩, some ⟨(.int v_sums), .fz⟩, some ⟨((eL (eT eI)).e t1), .own⟩, some ⟨((eT (eT eI)).e t2), .fz⟩, none, none, none], (show _ = some (List.map eI.e ([(0 : Int)] : (List Int)), _) from rfl), szd 1, ?_⟩
  refine Ev_lc ?_
  refine Ev_var rfl ?_
  refine ⟨_, _, _, [some ⟨(eC v_cup), .own⟩, some ⟨(.int v_many), .ro⟩, some ⟨(.int v_sums), .fz⟩, some ⟨((eL (eT eI)).e t1), .lk⟩, some ⟨((eT (eT eI)).e t2), .fz⟩, none, none, none], rfl, lcGo_fm (A := (eT eI).e) (B := eI.e) (fun x5 hxx5 ox5 ho4 => ?w1) (fmS_fm et7), fmS_sz et7, ?_⟩
  case w1 =>
    refine turn_of (e1 := [some ⟨(eC v_cup), .own⟩, some ⟨(.int v_many), .ro⟩, some ⟨(.int v_sums), .fz⟩, some ⟨((eL (eT eI)).e t1), .lk⟩, some ⟨((eT (eT eI)).e t2), .fz⟩, none, some ⟨((eT eI).e x5), .fz⟩, none]) rfl ?_
    refine EvIfs_nil ?_
    refine ⟨fun _ => ?_, fun h => (by cases h)⟩
    obtain ⟨t6, et6, ho4⟩ := bd ho4
    refine Ev_bin ?_
    refine Ev_idx ?_
    refine Ev_var rfl ?_
    refine Ev_un ?_
    refine Ev_con ?_
    refine ⟨_, _, rfl, rfl, ?_⟩
    refine ⟨_, _, _, rfl, rfl, (getT_ok (E := eI) et6), ?_⟩
    refine Ev_con ?_
    refine ⟨_, _, _, _, rfl, rfl, rfl, ?_⟩
    refine ⟨_, [some ⟨(eC v_cup), .own⟩, some ⟨(.int v_many), .ro⟩, some ⟨(.int v_sums), .fz⟩, some ⟨((eL (eT eI)).e t1), .lk⟩, some ⟨((eT (eT eI)).e t2), .fz⟩, none, some ⟨((eT eI).e x5), .fz⟩, none], rfl, ?_⟩
    cases ho4
    exact ⟨rfl, rfl⟩
  refine ⟨_, _, _, _, rfl, rfl, (faddL_ok (E := eI) et8), ?_⟩
  refine Evs_nil ?_
  refine ⟨_, _, _, rfl, (fmax_ok et9), ?_⟩
  refine Evs_nil ?_
  refine ⟨_, [some ⟨(eC v_cup), .own⟩, some ⟨(.int v_many), .ro⟩, some ⟨(.int v_sums), .fz⟩, some ⟨((eL (eT eI)).e t1), .own⟩, some ⟨((eT (eT eI)).e t2), .fz⟩, none, none, none], rfl, szd 2, ?_⟩
  refine Evs_nil ?_
  refine ⟨_, _, _, _, _, _, _, rfl, likeH_ok (D := dd) (li := 28) (ls := 27) (hc (okT (okT okI)) (hc okI hn)) rfl rfl (by decide) et10 (d + 0), rfl, ?_⟩
  refine ⟨_, rfl, ?_⟩
  refine ⟨(!t10), rfl, fun k11 => ?_, fun k11 => ?_⟩
  · rw [if_pos k11] at H
    refine Exs_ret ?_
    refine Ev_con ?_
    refine ⟨_, _, _, rfl, ?_⟩
    cases H
    exact .inl ⟨_, rfl, rfl⟩
  · rw [ifn k11] at H
    refine Exs_nil ?_
    show Exs _ _ _ _ _ _
    obtain ⟨t18, et18, H⟩ := bd H
    obtain ⟨t19, et19, H⟩ := bd H
    refine Exs_set ?_
    refine Ev_bi ?_
    refine Evs_cons ?_
    refine Ev_lc ?_
    refine Ev_var rfl ?_
    refine ⟨_, _, _, [some ⟨(eC v_cup), .own⟩, some ⟨(.int v_many), .ro⟩, some ⟨(.int v_sums), .fz⟩, some ⟨((eL (eT eI)).e t1), .lk⟩, some ⟨((eT (eT eI)).e t2), .fz⟩, none, none, none], rfl, lcGo_fm (A := (eT eI).e) (B := (eT eI).e) (fun x13 hxx13 ox13 ho12 => ?w2) (fmS_fm et18), fmS_sz et18, ?_⟩
    case w2 =>
      refine turn_of (e1 := [some ⟨(eC v_cup), .own⟩, some ⟨(.int v_many), .ro⟩, some ⟨(.int v_sums), .fz⟩, some ⟨((eL (eT eI)).e t1), .lk⟩, some ⟨((eT (eT eI)).e t2), .fz⟩, none, some ⟨((eT eI).e x13), .fz⟩, none]) rfl ?_
      refine EvIfs_nil ?_
      refine ⟨fun _ => ?_, fun h => (by cases h)⟩
      obtain ⟨t17, et17, ho12⟩ := bd ho12
      refine Ev_bi ?_
      refine Evs_cons ?_
      refine Ev_lc ?_
      refine Ev_revT ?_
      refine Ev_var rfl ?_
      refine ⟨_, rfl, ?_⟩
      rw [← List.map_reverse]
      refine ⟨_, _, _, [some ⟨(eC v_cup), .own⟩, some ⟨(.int v_many), .ro⟩, some ⟨(.int v_sums), .fz⟩, some ⟨((eL (eT eI)).e t1), .lk⟩, some ⟨((eT (eT eI)).e t2), .fz⟩, none, some ⟨((eT eI).e x13), .fz⟩, none], rfl, lcGo_fm (A := eI.e) (B := eI.e) (fun x15 hxx15 ox15 ho14 => ?w3) (fmS_fm et17), fmS_sz et17, ?_⟩
      case w3 =>
        refine turn_of (e1 := [some ⟨(eC v_cup), .own⟩, some ⟨(.int v_many), .ro⟩, some ⟨(.int v_sums), .fz⟩, some ⟨((eL (eT eI)).e t1), .lk⟩, some ⟨((eT (eT eI)).e t2), .fz⟩, none, some ⟨((eT eI).e x13), .fz⟩, some ⟨(.int x15), .fz⟩]) rfl ?_
        refine EvIfs_nil ?_
        refine ⟨fun _ => ?_, fun h => (by cases h)⟩
        obtain ⟨t16, et16, ho14⟩ := bd ho14
        refine Ev_bin ?_
        refine Ev_idx ?_
        refine Ev_var rfl ?_
        refine Ev_un ?_
        refine Ev_con ?_
        refine ⟨_, _, rfl, rfl, ?_⟩
        refine ⟨_, _, _, rfl, rfl, (getT_ok (E := eI) et16), ?_⟩
        refine Ev_var rfl ?_
        refine ⟨_, _, _, _, rfl, rfl, rfl, ?_⟩
        refine ⟨_, [some ⟨(eC v_cup), .own⟩, some ⟨(.int v_many), .ro⟩, some ⟨(.int v_sums), .fz⟩, some ⟨((eL (eT eI)).e t1), .lk⟩, some ⟨((eT (eT eI)).e t2), .fz⟩, none, some ⟨((eT eI).e x13), .fz⟩, some ⟨(.int x15), .fz⟩], rfl, ?_⟩
        cases ho14
        exact ⟨rfl, rfl⟩
      refine Evs_nil ?_
      refine ⟨_, _, _, rfl, (tupL_ok (E := eI) _), ?_⟩
      refine ⟨_, [some ⟨(eC v_cup), .own⟩, some ⟨(.int v_many), .ro⟩, some ⟨(.int v_sums), .fz⟩, some ⟨((eL (eT eI)).e t1), .lk⟩, some ⟨((eT (eT eI)).e t2), .fz⟩, none, some ⟨((eT eI).e x13), .fz⟩, none], rfl, ?_⟩
      cases ho12
      exact ⟨rfl, rfl⟩
    refine Evs_nil ?_
    refine ⟨_, _, _, rfl, (srtL_ok et19), ?_⟩
    refine ⟨_, _, _, [some ⟨(eC v_cup), .own⟩, some ⟨(.int v_many), .ro⟩, some ⟨(.int v_sums), .fz⟩, some ⟨((eL (eT eI)).e t1), .own⟩, some ⟨((eT (eT eI)).e t2), .fz⟩, some ⟨((eL (eT eI)).e t19), .own⟩, none, none], rfl, rfl, ?_⟩
    refine Exs_ite ?_
    refine Ev_cmp ?_
    refine Ev_var rfl ?_
    refine Ev_var rfl ?_
    refine ⟨_, _, _, rfl, rfl, (neE_ok (okL (okT okI)) (by decide) t19 t1), ?_⟩
    refine ⟨(!decide ((t19 : (List (List Int))) = t1)), rfl, fun k20 => ?_, fun k20 => ?_⟩
    · rw [if_pos k20] at H
      refine Exs_ret ?_
      refine Ev_con ?_
      refine ⟨_, _, _, rfl, ?_⟩
      cases H
      exact .inl ⟨_, rfl, rfl⟩
    · rw [ifn k20] at H
      refine Exs_nil ?_
      show Exs _ _ _ _ _ _
      refine Exs_ite ?_
      refine Ev_cmp ?_
      refine Ev_var rfl ?_
      refine Ev_lst ?_
      refine Evs_nil ?_
      refine ⟨_, [some ⟨(eC v_cup), .own⟩, some ⟨(.int v_many), .ro⟩, some ⟨(.int v_sums), .fz⟩, some ⟨((eL (eT eI)).e t1), .own⟩, some ⟨((eT (eT eI)).e t2), .fz⟩, some ⟨((eL (eT eI)).e t19), .own⟩, none, none], (show _ = some (List.map (eT eI).e ([] : (List (List Int))), _) from rfl), szd 0, ?_⟩
      refine ⟨_, _, _, rfl, rfl, (eqE_ok (okL (okT okI)) (by decide) t1 ([] : (List (List Int)))), ?_⟩
      refine ⟨(decide ((t1 : (List (List Int))) = ([] : (List (List Int))))), rfl, fun k21 => ?_, fun k21 => ?_⟩
      · rw [if_pos k21] at H
        refine Exs_ret ?_
        refine Ev_con ?_
        refine ⟨_, _, _, rfl, ?_⟩
        cases H
        exact .inl ⟨_, rfl, rfl⟩
      · rw [ifn k21] at H
        refine Exs_nil ?_
        show Exs _ _ _ _ _ _
        obtain ⟨t22, et22, H⟩ := bd H
        refine Exs_set ?_
        refine Ev_call ?_
        refine Evs_cons ?_
        refine Ev_var rfl ?_
        refine Evs_cons ?_
        refine Ev_var rfl ?_
        refine Evs_nil ?_
        refine ⟨_, _, _, _, _, _, _, rfl, g_law_some (d + 10) et22, rfl, ?_⟩
        refine ⟨_, _, _, [some ⟨(eC t22.2), .own⟩, some ⟨(.int v_many), .ro⟩, some ⟨(.int v_sums), .fz⟩, some ⟨((eL (eT eI)).e t1), .own⟩, some ⟨((eT (eT eI)).e t2), .fz⟩, some ⟨((eL (eT eI)).e t19), .own⟩, some ⟨((eT eI).e t22.1), .fz⟩, none], rfl, rfl, ?_⟩
        obtain ⟨t23, et23, H⟩ := bd H
        obtain ⟨t24, et24, H⟩ := bd H
        obtain ⟨t25, et25, H⟩ := bd H
        obtain ⟨t26, et26, H⟩ := bd H
        obtain ⟨t30, et30, H⟩ := bd H
        refine Exs_ret ?_
        refine Ev_at (o := .vl (.bl t30) false) (e1 := [some ⟨(eC t22.2), .own⟩, some ⟨(.int v_many), .ro⟩, some ⟨(.int v_sums), .fz⟩, some ⟨((eL (eT eI)).e t1), .own⟩, some ⟨((eT (eT eI)).e t2), .fz⟩, some ⟨((eL (eT eI)).e t19), .own⟩, some ⟨((eT eI).e t22.1), .fz⟩, none]) (Ev_eq ?_) ?_
        · refine Ev_and ?_
          refine Ev_call ?_
          refine Evs_cons ?_
          refine Ev_lst ?_
          refine Evs_cons ?_
          refine Ev_call ?_
          refine Evs_cons ?_
          refine Ev_var rfl ?_
          refine Evs_nil ?_
          refine ⟨_, _, _, _, _, _, _, rfl, g_is_short (d + 5) et23, rfl, ?_⟩
          refine Evs_cons ?_
          refine Ev_call ?_
          refine Evs_cons ?_
          refine Ev_var rfl ?_
          refine Evs_nil ?_
          refine ⟨_, _, _, _, _, _, _, rfl, g_normal_set (d + 5) et24, rfl, ?_⟩
          refine Evs_cons ?_
          refine Ev_call ?_
          refine Evs_cons ?_
          refine Ev_var rfl ?_
          refine Evs_nil ?_
          refine ⟨_, _, _, _, _, _, _, rfl, g_count_sums (d + 5) et25, rfl, ?_⟩
          refine Evs_nil ?_
          refine ⟨_, [some ⟨(eC t22.2), .own⟩, some ⟨(.int v_many), .ro⟩, some ⟨(.int v_sums), .fz⟩, some ⟨((eL (eT eI)).e t1), .own⟩, some ⟨((eT (eT eI)).e t2), .fz⟩, some ⟨((eL (eT eI)).e t19), .own⟩, some ⟨((eT eI).e t22.1), .fz⟩, none], rfl, szd 3, ?_⟩
          refine Evs_cons ?_
          refine Ev_lst ?_
          refine Evs_cons ?_
          refine Ev_con ?_
          refine Evs_cons ?_
          refine Ev_var rfl ?_
          refine Evs_cons ?_
          refine Ev_var rfl ?_
          refine Evs_nil ?_
          refine ⟨_, [some ⟨(eC t22.2), .own⟩, some ⟨(.int v_many), .ro⟩, some ⟨(.int v_sums), .fz⟩, some ⟨((eL (eT eI)).e t1), .own⟩, some ⟨((eT (eT eI)).e t2), .fz⟩, some ⟨((eL (eT eI)).e t19), .own⟩, some ⟨((eT eI).e t22.1), .fz⟩, none], rfl, szd 3, ?_⟩
          refine Evs_nil ?_
          refine ⟨_, _, _, _, _, _, _, rfl, likeH_ok (D := dd) (li := 28) (ls := 27) (hc okB (hc (okT okI) (hc okI hn))) rfl rfl (by decide) et26 (d + 0), rfl, ?_⟩
          refine ⟨t26, rfl, fun k28 => ?_, fun k28 => ?_⟩
          · have h27 := et30
            rw [if_pos k28] at h27
            obtain ⟨t29, et29, h27⟩ := bd h27
            refine Ev_cmp ?_
            refine Ev_idx ?_
            refine Ev_var rfl ?_
            refine Ev_un ?_
            refine Ev_con ?_
            refine ⟨_, _, rfl, rfl, ?_⟩
            refine ⟨_, _, _, rfl, rfl, (getT_ok (E := eI) et29), ?_⟩
            refine Ev_bin ?_
            refine Ev_var rfl ?_
            refine Ev_var rfl ?_
            refine ⟨_, _, _, _, rfl, rfl, rfl, ?_⟩
            refine ⟨_, _, _, rfl, rfl, rfl, ?_⟩
            cases h27
            exact ⟨rfl, rfl⟩
          · rw [ifn k28] at et30
            cases et30
            exact ⟨rfl, rfl⟩
        refine ⟨_, _, _, rfl, ?_⟩
        cases H
        exact .inl ⟨_, rfl, rfl⟩
noncomputable def n_law (v_script : (List Int)) : Option (Bool) :=
  (n_law_written ).bind fun t1 =>
  if (!t1) = true then
    (
    some false
    )
  else
    (
    (fcup v_script).bind fun t3 =>
    (forR (fun x4 (s5 : CupT) =>
      (froll s5 (x4 - (1 : Int))).bind fun t7 =>
      (n_law_right t7.2 x4 ((((2 : Int) * x4) - (2 : Int)) + t7.1)).bind fun t8 =>
      if (!t8.1) = true then
        (
        some (.inr false)
        )
      else
        (
        some (.inl t8.2)
        )
    ) ([(3 : Int), (4 : Int), (5 : Int), (6 : Int)] : (List Int)) t3).bind (onG (fun v => v) fun r10 =>
    (froll r10 (8 : Int)).bind fun t12 =>
    (if (decide ((t12.1 : Int) = (0 : Int))) = true then ((froll t12.2 (5 : Int)).bind fun t15 => (n_law_right t15.2 (7 : Int) ((13 : Int) + t15.1)).bind fun t16 => some ((!t16.1), t16.2)) else (some (false, t12.2))).bind fun t17 =>
    (if t17.1 = true then (some (true, t17.2)) else ((froll t17.2 (20 : Int)).bind fun t20 => (if (decide ((t20.1 : Int) = (0 : Int))) = true then ((froll t20.2 (6 : Int)).bind fun t23 => (n_law_right t23.2 (8 : Int) ((15 : Int) + t23.1)).bind fun t24 => some ((!t24.1), t24.2)) else (some (false, t20.2))).bind fun t25 => some (t25.1, t25.2))).bind fun t26 =>
    if t26.1 = true then
      (
      some false
      )
    else
      (
      some true
      )
    )
    )
theorem g_law (d : Nat) {v_script : (List Int)} {r : (Bool)} (H : n_law v_script = some r) : run lim dd (d + 14) 36 [(.scr v_script)] = some (((.bl r), false), []) := by
  unfold n_law at H
  refine run_of (rfl : dd 36 = ⟨[.ro], 3, [.ite (.not (.call 35 [])) [.ret (.con (.bl false))] [], .set 1 (.call 24 [(.var 0)]), .for_ (.one 2) (.tup [(.con (.int 3)), (.con (.int 4)), (.con (.int 5)), (.con (.int 6))]) [.ite (.not (.call 34 [(.var 1), (.var 2), (.bin .add (.bin .sub (.bin .mul (.con (.int 2)) (.var 2)) (.con (.int 2))) (.call 25 [(.var 1), (.bin .sub (.var 2) (.con (.int 1)))]))])) [.ret (.con (.bl false))] []], .ite (.or (.and (.cmp .eq (.call 25 [(.var 1), (.con (.int 8))]) (.con (.int 0))) (.not (.call 34 [(.var 1), (.con (.int 7)), (.bin .add (.con (.int 13)) (.call 25 [(.var 1), (.con (.int 5))]))]))) (.and (.cmp .eq (.call 25 [(.var 1), (.con (.int 20))]) (.con (.int 0))) (.not (.call 34 [(.var 1), (.con (.int 8)), (.bin .add (.con (.int 15)) (.call 25 [(.var 1), (.con (.int 6))]))])))) [.ret (.con (.bl false))] [], .ret (.con (.bl true))]⟩) rfl ?_
  refine Exs_env (e1 := [some ⟨(.scr v_script), .ro⟩, none, none]) rfl ?_
  obtain ⟨t1, et1, H⟩ := bd H
  refine Exs_ite ?_
  refine Ev_not ?_
  refine Ev_call ?_
  refine Evs_nil ?_
  refine ⟨_, _, _, _, _, _, _, rfl, g_law_written (d + 0) et1, rfl, ?_⟩
  refine ⟨_, rfl, ?_⟩
  refine ⟨(!t1), rfl, fun k2 => ?_, fun k2 => ?_⟩
  · rw [if_pos k2] at H
    refine Exs_ret ?_
    refine Ev_con ?_
    refine ⟨_, _, _, rfl, ?_⟩
    cases H
    exact .inl ⟨_, rfl, rfl⟩
  · rw [ifn k2] at H
    refine Exs_nil ?_
    show Exs _ _ _ _ _ _
    obtain ⟨t3, et3, H⟩ := bd H
    refine Exs_set ?_
    refine Ev_call ?_
    refine Evs_cons ?_
    refine Ev_var rfl ?_
    refine Evs_nil ?_
    refine ⟨_, _, _, _, _, _, _, rfl, fcup_ok (D := dd) (i := 24) rfl (d + 12) et3, rfl, ?_⟩
    refine ⟨_, _, _, [some ⟨(.scr v_script), .ro⟩, some ⟨(eC t3), .own⟩, none], rfl, rfl, ?_⟩
    obtain ⟨r11, er11, H⟩ := bd H
    refine Exs_forR' ?_
    refine Ev_tup ?_
    refine Evs_cons ?_
    refine Ev_con ?_
    refine Evs_cons ?_
    refine Ev_con ?_
    refine Evs_cons ?_
    refine Ev_con ?_
    refine Evs_cons ?_
    refine Ev_con ?_
    refine Evs_nil ?_
    refine ⟨_, [some ⟨(.scr v_script), .ro⟩, some ⟨(eC t3), .own⟩, none], (show _ = some (List.map eI.e ([(3 : Int), (4 : Int), (5 : Int), (6 : Int)] : (List Int)), _) from rfl), szd 4, ?_⟩
    refine ⟨_, _, rfl, ?_⟩
    refine forR_use (J := fun (z : CupT) env => ∃ u2s5 : Option Slot, NL u2s5 ∧ env = [some ⟨(.scr v_script), .ro⟩, some ⟨(eC z), .own⟩, u2s5]) (K := fun (v : Bool) fl => ∃ e1, fl = .rt (.bl v) false e1 ∧ outs [.ro] e1 = some []) (forGo_R (enc := eI.e) (J := fun (z : CupT) env => ∃ u2s5 : Option Slot, NL u2s5 ∧ env = [some ⟨(.scr v_script), .ro⟩, some ⟨(eC z), .own⟩, u2s5]) (K := fun (v : Bool) fl => ∃ e1, fl = .rt (.bl v) false e1 ∧ outs [.ro] e1 = some []) (fun x4 hxx4 s5 rx4 envx4 Jh6 h6 => ?w1) ⟨none, nl_none, rfl⟩ er11) (fun r10 hrr11 => ?_) (fun v hv fl hK => ?_)
    case w1 =>
      obtain ⟨u2s5, nu2s5, rfl⟩ := Jh6
      refine forT_of (e1 := [some ⟨(.scr v_script), .ro⟩, some ⟨(eC s5), .own⟩, some ⟨(.int x4), .fz⟩]) (st_nlp rfl rfl nu2s5 _ _) ?_
      obtain ⟨t7, et7, h6⟩ := bd h6
      obtain ⟨t8, et8, h6⟩ := bd h6
      refine Exs_ite_nil ?_
      refine Ev_not ?_
      refine Ev_call ?_
      refine Evs_cons ?_
      refine Ev_var rfl ?_
      refine Evs_cons ?_
      refine Ev_var rfl ?_
      refine Evs_cons ?_
      refine Ev_bin ?_
      refine Ev_bin ?_
      refine Ev_bin ?_
      refine Ev_con ?_
      refine Ev_var rfl ?_
      refine ⟨_, _, _, _, rfl, rfl, (mulL_lit (by decide)), ?_⟩
      refine Ev_con ?_
      refine ⟨_, _, _, _, rfl, rfl, rfl, ?_⟩
      refine Ev_call ?_
      refine Evs_cons ?_
      refine Ev_var rfl ?_
      refine Evs_cons ?_
      refine Ev_bin ?_
      refine Ev_var rfl ?_
      refine Ev_con ?_
      refine ⟨_, _, _, _, rfl, rfl, rfl, ?_⟩
      refine Evs_nil ?_
      refine ⟨_, _, _, _, _, _, _, rfl, froll_ok (D := dd) (i := 25) rfl (d + 12) et7, rfl, ?_⟩
      refine ⟨_, _, _, _, rfl, rfl, rfl, ?_⟩
      refine Evs_nil ?_
      refine ⟨_, _, _, _, _, _, _, rfl, g_law_right (d + 0) et8, rfl, ?_⟩
      refine ⟨_, rfl, ?_⟩
      refine ⟨(!t8.1), rfl, fun k9 => ?_, fun k9 => ?_⟩
      · rw [if_pos k9] at h6
        refine Exs_ret ?_
        refine Ev_con ?_
        refine ⟨_, _, _, rfl, ?_⟩
        cases h6
        exact ⟨⟨_, _, _, rfl⟩, ⟨_, rfl, rfl⟩⟩
      · rw [ifn k9] at h6
        refine Exs_nil ?_
        cases h6
        exact ⟨_, rfl, ⟨some ⟨(.int x4), .fz⟩, nl_fz _, rfl⟩⟩
    · subst hrr11
      replace H := onG_l H
      rintro _ ⟨u2r10, nu2r10, rfl⟩
      refine Exs_env (e1 := [some ⟨(.scr v_script), .ro⟩, some ⟨(eC r10), .own⟩, u2r10]) rfl ?_
      obtain ⟨t12, et12, H⟩ := bd H
      obtain ⟨t17, et17, H⟩ := bd H
      obtain ⟨t26, et26, H⟩ := bd H
      refine Exs_ite ?_
      refine Ev_at (o := .vl (.bl t26.1) false) (e1 := [some ⟨(.scr v_script), .ro⟩, some ⟨(eC t26.2), .own⟩, u2r10]) (Ev_eq ?_) ?_
      · refine Ev_or ?_
        refine Ev_at (o := .vl (.bl t17.1) false) (e1 := [some ⟨(.scr v_script), .ro⟩, some ⟨(eC t17.2), .own⟩, u2r10]) (Ev_eq ?_) ?_
        · refine Ev_and ?_
          refine Ev_cmp ?_
          refine Ev_call ?_
          refine Evs_cons ?_
          refine Ev_var rfl ?_
          refine Evs_cons ?_
          refine Ev_con ?_
          refine Evs_nil ?_
          refine ⟨_, _, _, _, _, _, _, rfl, froll_ok (D := dd) (i := 25) rfl (d + 12) et12, rfl, ?_⟩
          refine Ev_con ?_
          refine ⟨_, _, _, rfl, rfl, (eqE_ok okI (by decide) t12.1 (0 : Int)), ?_⟩
          refine ⟨(decide ((t12.1 : Int) = (0 : Int))), rfl, fun k14 => ?_, fun k14 => ?_⟩
          · have h13 := et17
            rw [if_pos k14] at h13
            obtain ⟨t15, et15, h13⟩ := bd h13
            obtain ⟨t16, et16, h13⟩ := bd h13
            refine Ev_not ?_
            refine Ev_call ?_
            refine Evs_cons ?_
            refine Ev_var rfl ?_
            refine Evs_cons ?_
            refine Ev_con ?_
            refine Evs_cons ?_
            refine Ev_bin ?_
            refine Ev_con ?_
            refine Ev_call ?_
            refine Evs_cons ?_
            refine Ev_var rfl ?_
            refine Evs_cons ?_
            refine Ev_con ?_
            refine Evs_nil ?_
            refine ⟨_, _, _, _, _, _, _, rfl, froll_ok (D := dd) (i := 25) rfl (d + 12) et15, rfl, ?_⟩
            refine ⟨_, _, _, _, rfl, rfl, rfl, ?_⟩
            refine Evs_nil ?_
            refine ⟨_, _, _, _, _, _, _, rfl, g_law_right (d + 0) et16, rfl, ?_⟩
            refine ⟨_, rfl, ?_⟩
            cases h13
            exact ⟨rfl, rfl⟩
          · rw [ifn k14] at et17
            cases et17
            exact ⟨rfl, rfl⟩
        refine ⟨t17.1, rfl, fun k19 => ?_, fun k19 => ?_⟩
        · rw [if_pos k19] at et26
          cases et26
          exact ⟨rfl, rfl⟩
        · have h18 := et26
          rw [ifn k19] at h18
          obtain ⟨t20, et20, h18⟩ := bd h18
          obtain ⟨t25, et25, h18⟩ := bd h18
          refine Ev_at (o := .vl (.bl t25.1) false) (e1 := [some ⟨(.scr v_script), .ro⟩, some ⟨(eC t25.2), .own⟩, u2r10]) (Ev_eq ?_) ?_
          · refine Ev_and ?_
            refine Ev_cmp ?_
            refine Ev_call ?_
            refine Evs_cons ?_
            refine Ev_var rfl ?_
            refine Evs_cons ?_
            refine Ev_con ?_
            refine Evs_nil ?_
            refine ⟨_, _, _, _, _, _, _, rfl, froll_ok (D := dd) (i := 25) rfl (d + 12) et20, rfl, ?_⟩
            refine Ev_con ?_
            refine ⟨_, _, _, rfl, rfl, (eqE_ok okI (by decide) t20.1 (0 : Int)), ?_⟩
            refine ⟨(decide ((t20.1 : Int) = (0 : Int))), rfl, fun k22 => ?_, fun k22 => ?_⟩
            · have h21 := et25
              rw [if_pos k22] at h21
              obtain ⟨t23, et23, h21⟩ := bd h21
              obtain ⟨t24, et24, h21⟩ := bd h21
              refine Ev_not ?_
              refine Ev_call ?_
              refine Evs_cons ?_
              refine Ev_var rfl ?_
              refine Evs_cons ?_
              refine Ev_con ?_
              refine Evs_cons ?_
              refine Ev_bin ?_
              refine Ev_con ?_
              refine Ev_call ?_
              refine Evs_cons ?_
              refine Ev_var rfl ?_
              refine Evs_cons ?_
              refine Ev_con ?_
              refine Evs_nil ?_
              refine ⟨_, _, _, _, _, _, _, rfl, froll_ok (D := dd) (i := 25) rfl (d + 12) et23, rfl, ?_⟩
              refine ⟨_, _, _, _, rfl, rfl, rfl, ?_⟩
              refine Evs_nil ?_
              refine ⟨_, _, _, _, _, _, _, rfl, g_law_right (d + 0) et24, rfl, ?_⟩
              refine ⟨_, rfl, ?_⟩
              cases h21
              exact ⟨rfl, rfl⟩
            · rw [ifn k22] at et25
              cases et25
              exact ⟨rfl, rfl⟩
          cases h18
          exact ⟨rfl, rfl⟩
      refine ⟨t26.1, rfl, fun k27 => ?_, fun k27 => ?_⟩
      · rw [if_pos k27] at H
        refine Exs_ret ?_
        refine Ev_con ?_
        refine ⟨_, _, _, rfl, ?_⟩
        cases H
        exact .inl ⟨_, rfl, rfl⟩
      · rw [ifn k27] at H
        refine Exs_nil ?_
        show Exs _ _ _ _ _ _
        refine Exs_ret ?_
        refine Ev_con ?_
        refine ⟨_, _, _, rfl, ?_⟩
        cases H
        exact .inl ⟨_, rfl, rfl⟩
    · subst hv
      have hv := onG_r H
      subst hv
      obtain ⟨e1, rfl, ho⟩ := hK
      exact .inl ⟨_, rfl, ho⟩
end Lw
set_option Elab.async false
set_option linter.all false
set_option maxRecDepth 100000
set_option maxHeartbeats 4000000
namespace Lw
set_option autoImplicit false
open PySem hiding run
open L2 L2.Pz
theorem mem_upto {lo : Int} {n : Nat} {x : Int} : x ∈ upto lo n ↔ lo ≤ x ∧ x < lo + n := by
  induction n generalizing lo with
  | zero => simp [upto] <;> omega
  | succ n ih =>
    rw [upto, List.mem_cons, ih]
    omega
theorem upto_up (lo : Int) (n : Nat) : (upto lo n).Pairwise (· < ·) := by
  induction n generalizing lo with
  | zero => exact .nil
  | succ n ih =>
    rw [upto, List.pairwise_cons]
    exact ⟨fun x hx => by have := mem_upto.mp hx; omega, ih _⟩
theorem mem_rngL {a b x : Int} : x ∈ rngL a b ↔ a ≤ x ∧ x < b := by
  unfold rngL
  rw [mem_upto]
  omega
theorem rngL_up (a b : Int) : (rngL a b).Pairwise (· < ·) := upto_up _ _
theorem rngL_len (a b : Int) : (rngL a b).length = (b - a).toNat := by unfold rngL; rw [upto_length]
/-! rows of so many rising numbers -/
def lst0 (row : List Int) : Int := row.getLast?.getD 0
theorem lst0_snoc (r : List Int) (x : Int) : lst0 (r ++ [x]) = x := by
  unfold lst0
  rw [List.getLast?_append]; rfl
theorem rise_snoc {r : List Int} {x : Int} (h : ∀ y ∈ r, 0 < y) : (r ++ [x]).Pairwise (· < ·) ∧ 0 < x ↔ r.Pairwise (· < ·) ∧ lst0 r < x := by
  rw [List.pairwise_append]
  rcases List.eq_nil_or_concat r with rfl | ⟨ini, y, rfl⟩
  · simp [lst0]
  · rw [List.concat_eq_append] at h ⊢
    rw [lst0_snoc]
    constructor
    · rintro ⟨⟨h1, _, h2⟩, _⟩
      exact ⟨h1, h2 y (by simp) x (by simp)⟩
    · rintro ⟨h1, h2⟩
      refine ⟨⟨h1, List.pairwise_singleton .., fun a ha b hb => ?_⟩, ?_⟩
      · rw [List.mem_singleton.mp hb]
        rw [List.pairwise_append] at h1
        rcases List.mem_append.mp ha with q | q
        · have := h1.2.2 a q y (by simp); omega
        · rw [List.mem_singleton.mp q]; exact h2
      · have := h y (by simp); omega
def IN : Nat → Nat → List (List Int)
  | 0, _ => [[]]
  | k + 1, w => (IN k w).flatMap fun r => (rngL (lst0 r + 1) w).map fun x => r ++ [x]
theorem mem_IN : ∀ {k w : Nat} {row : List Int}, row ∈ IN k w ↔ row.length = k ∧ row.Pairwise (· < ·) ∧ ∀ x ∈ row, 0 < x ∧ x < (w : Int)
  | 0, w, row => by
    show row ∈ [[]] ↔ _
    rw [List.mem_singleton]
    constructor
    · rintro rfl; exact ⟨rfl, .nil, fun x h => by cases h⟩
    · exact fun h => List.eq_nil_of_length_eq_zero h.1
  | k + 1, w, row => by
    show row ∈ (IN k w).flatMap _ ↔ _
    rw [List.mem_flatMap]
    constructor
    · rintro ⟨r, h1, h2⟩
      obtain ⟨a1, a2, a3⟩ := mem_IN.mp h1
      obtain ⟨x, hx, rfl⟩ := List.mem_map.mp h2
      have hx := mem_rngL.mp hx
      obtain ⟨b1, b2⟩ := (rise_snoc (r := r) (x := x) fun y hy => (a3 y hy).1).mpr ⟨a2, by omega⟩
      refine ⟨by rw [List.length_append, a1]; rfl, b1, fun y hy => ?_⟩
      rcases List.mem_append.mp hy with q | q
      · exact a3 y q
      · rw [List.mem_singleton.mp q]; exact ⟨b2, hx.2⟩
    · rintro ⟨h1, h2, h3⟩
      rcases List.eq_nil_or_concat row with rfl | ⟨ini, y, rfl⟩
      · cases h1
      · rw [List.concat_eq_append] at h1 h2 h3 ⊢
        have h4 : ∀ z ∈ ini, 0 < z ∧ z < (w : Int) := fun z hz => h3 z (List.mem_append.mpr (.inl hz))
        have h5 := h3 y (by simp)
        obtain ⟨c1, c2⟩ := (rise_snoc (r := ini) (x := y) fun z hz => (h4 z hz).1).mp ⟨h2, h5.1⟩
        refine ⟨ini, mem_IN.mpr ⟨by simpa using h1, c1, h4⟩, List.mem_map.mpr ⟨y, mem_rngL.mpr ⟨by omega, h5.2⟩, rfl⟩⟩
theorem IN_nodup : ∀ k w : Nat, (IN k w).Nodup
  | 0, _ => List.nodup_cons.mpr ⟨by simp, .nil⟩
  | k + 1, w => by
    show ((IN k w).flatMap _).Nodup
    unfold List.Nodup
    rw [List.pairwise_flatMap]
    refine ⟨fun r _ => ?_, (IN_nodup k w).imp fun {a b} n => fun x hx y hy e => n ?_⟩
    · rw [List.pairwise_map]
      exact (lt_nodup (rngL_up _ _)).imp fun {x y} n e => n (by simpa using e)
    · obtain ⟨u, _, rfl⟩ := List.mem_map.mp hx
      obtain ⟨v, _, rfl⟩ := List.mem_map.mp hy
      exact (List.append_inj' e rfl).1
/-! all parts of 1 .. n -/
def LT : Nat → List (List Int)
  | 0 => [[]]
  | n + 1 => LT n ++ (LT n).map fun r => r ++ [((n + 1 : Nat) : Int)]
theorem LT_len : ∀ n, (LT n).length = 2 ^ n
  | 0 => rfl
  | n + 1 => by
    show (LT n ++ (LT n).map _).length = _
    rw [List.length_append, List.length_map, LT_len n, Nat.pow_succ]; omega
theorem mem_LT : ∀ {n : Nat} {row : List Int}, row ∈ LT n ↔ row.Pairwise (· < ·) ∧ ∀ x ∈ row, 1 ≤ x ∧ x ≤ (n : Int)
  | 0, row => by
    show row ∈ [[]] ↔ _
    rw [List.mem_singleton]
    constructor
    · rintro rfl; exact ⟨.nil, fun x h => by cases h⟩
    · rintro ⟨_, h⟩
      cases row with
      | nil => rfl
      | cons x r => have := h x (by simp); omega
  | n + 1, row => by
    show row ∈ LT n ++ (LT n).map _ ↔ _
    rw [List.mem_append]
    constructor
    · rintro (h | h)
      · obtain ⟨a, b⟩ := mem_LT.mp h
        exact ⟨a, fun x hx => by have := b x hx; omega⟩
      · obtain ⟨r, hr, rfl⟩ := List.mem_map.mp h
        obtain ⟨a, b⟩ := mem_LT.mp hr
        refine ⟨List.pairwise_append.mpr ⟨a, List.pairwise_singleton .., fun x hx y hy => ?_⟩, fun x hx => ?_⟩
        · rw [List.mem_singleton.mp hy]; have := b x hx; omega
        · rcases List.mem_append.mp hx with q | q
          · have := b x q; omega
          · rw [List.mem_singleton.mp q]; omega
    · rintro ⟨h1, h2⟩
      rcases List.eq_nil_or_concat row with rfl | ⟨ini, y, rfl⟩
      · exact .inl (mem_LT.mpr ⟨.nil, fun x h => by cases h⟩)
      · rw [List.concat_eq_append] at h1 h2 ⊢
        rw [List.pairwise_append] at h1
        have hy := h2 y (by simp)
        have hi : ∀ x ∈ ini, 1 ≤ x ∧ x < y := fun x hx => ⟨(h2 x (List.mem_append.mpr (.inl hx))).1, h1.2.2 x hx y (by simp)⟩
        by_cases q : y = ((n + 1 : Nat) : Int)
        · subst q
          exact .inr (List.mem_map.mpr ⟨ini, mem_LT.mpr ⟨h1.1, fun x hx => by have := hi x hx; omega⟩, rfl⟩)
        · refine .inl (mem_LT.mpr ⟨List.pairwise_append.mpr h1, fun x hx => ?_⟩)
          rcases List.mem_append.mp hx with z | z
          · have := hi x z; omega
          · rw [List.mem_singleton.mp z]; omega
theorem LT_nodup : ∀ n, (LT n).Nodup
  | 0 => List.nodup_cons.mpr ⟨by simp, .nil⟩
  | n + 1 => by
    show (LT n ++ (LT n).map _).Nodup
    unfold List.Nodup
    rw [List.pairwise_append]
    refine ⟨LT_nodup n, ?_, fun a ha b hb e => ?_⟩
    · rw [List.pairwise_map]
      exact (LT_nodup n).imp fun {a b} n e => n (List.append_inj' e rfl).1
    · obtain ⟨r, _, rfl⟩ := List.mem_map.mp hb
      have := (mem_LT.mp ha).2 ((n + 1 : Nat) : Int) (by rw [e]; simp)
      omega
theorem nodup_lenL {α : Type} [DecidableEq α] : ∀ {l L : List α}, l.Nodup → (∀ x ∈ l, x ∈ L) → l.length ≤ L.length
  | [], _, _, _ => Nat.zero_le _
  | x :: l, L, h, s => by
    rw [List.nodup_cons] at h
    have h1 : x ∈ L := s x (by simp)
    have h2 := nodup_lenL (l := l) (L := L.erase x) h.2 fun y hy => (List.mem_erase_of_ne (fun (e : y = x) => h.1 (e ▸ hy))).mpr (s y (List.mem_cons_of_mem _ hy))
    have h3 := List.length_erase_of_mem h1
    have h4 := List.length_pos_of_mem h1
    rw [List.length_cons]; omega
theorem IN_len (k w : Nat) : (IN k w).length ≤ 2 ^ w := by
  rw [← LT_len w]
  refine nodup_lenL (IN_nodup k w) fun r hr => ?_
  obtain ⟨_, a, b⟩ := mem_IN.mp hr
  exact mem_LT.mpr ⟨a, fun x hx => by have := b x hx; omega⟩
/-! sums, steps -/
def sm (l : List Int) : List Int := l.flatMap fun x => l.map fun y => x + y
theorem mem_sm {l : List Int} {z : Int} : z ∈ sm l ↔ ∃ x ∈ l, ∃ y ∈ l, z = x + y := by
  unfold sm
  rw [List.mem_flatMap]
  constructor
  · rintro ⟨x, hx, h⟩
    obtain ⟨y, hy, rfl⟩ := List.mem_map.mp h
    exact ⟨x, hx, y, hy, rfl⟩
  · rintro ⟨x, hx, y, hy, rfl⟩
    exact ⟨x, hx, List.mem_map.mpr ⟨y, hy, rfl⟩⟩
/-- the greatest common divisor of all that members are above c -/
def gG (c : Int) : List Int → Nat → Nat
  | [], g => g
  | x :: l, g => gG c l (Nat.gcd g (x - c).natAbs)
theorem dvd_gG {c : Int} {d : Nat} : ∀ {l : List Int} {g : Nat}, d ∣ gG c l g ↔ d ∣ g ∧ ∀ x ∈ l, d ∣ (x - c).natAbs
  | [], g => by simp [gG]
  | x :: l, g => by
    rw [gG, dvd_gG, Nat.dvd_gcd_iff]
    simp [and_assoc]
def stp (l : List Int) : Nat := let g := gG (l.headD 0) l 0; if 0 < g then g else 1
/-- m members from 0 on, at most up to s - m, without a common divisor, with s sums -/
structure Gd (m s : Nat) (l : List Int) : Prop where
  ln : l.length = m
  up : l.Pairwise (· < ·)
  hd : ∃ r, l = 0 :: r
  hi : ∀ x ∈ l, x ≤ (s : Int) - m
  st : stp l = 1
  sz : (gath (sm l)).length = s
def okS (s : Nat) (l : List Int) : Bool := (stp l == 1) && ((gath (sm l)).length == s)
theorem okS_iff {s : Nat} {l : List Int} : okS s l = true ↔ stp l = 1 ∧ (gath (sm l)).length = s := by
  unfold okS
  rw [Bool.and_eq_true, beq_iff_eq, beq_iff_eq]
/-- width by width -/
def PW (m s w : Nat) : List (List Int) := ((IN (m - 2) w).map fun r => 0 :: (r ++ [(w : Int)])).filter (okS s)
def PL (m s : Nat) : List (List Int) := (List.range' (m - 1) (s + 2 - m - m)).flatMap (PW m s)
def W (m s : Nat) : List (List Int) := isortL (PL m s)
def LL (m s : Nat) : List (List Int) := ((LT (s - m)).map fun r => (0 : Int) :: r).filter fun l => (l.length == m) && okS s l
theorem snoc_of {r : List Int} (h : r ≠ []) : ∃ ini y, r = ini ++ [y] := by
  rcases List.eq_nil_or_concat r with e | ⟨ini, y, rfl⟩
  · exact (h e).elim
  · exact ⟨ini, y, List.concat_eq_append ..⟩
theorem mem_PL {m s : Nat} (h2 : 3 ≤ m) {l : List Int} : l ∈ PL m s ↔ Gd m s l := by
  unfold PL
  rw [List.mem_flatMap]
  constructor
  · rintro ⟨w, hw, h⟩
    have hw := List.mem_range'_1.mp hw
    obtain ⟨h3, h4⟩ := List.mem_filter.mp h
    obtain ⟨r, hr, rfl⟩ := List.mem_map.mp h3
    obtain ⟨a1, a2, a3⟩ := mem_IN.mp hr
    obtain ⟨o1, o2⟩ := okS_iff.mp h4
    refine ⟨?_, ?_, ⟨_, rfl⟩, fun x hx => ?_, o1, o2⟩
    · rw [List.length_cons, List.length_append, a1]
      show m - 2 + 1 + 1 = m
      omega
    · rw [List.pairwise_cons]
      refine ⟨fun x hx => ?_, List.pairwise_append.mpr ⟨a2, List.pairwise_singleton .., fun x hx y hy => ?_⟩⟩
      · rcases List.mem_append.mp hx with q | q
        · exact (a3 x q).1
        · rw [List.mem_singleton.mp q]; omega
      · rw [List.mem_singleton.mp hy]; exact (a3 x hx).2
    · rcases List.mem_cons.mp hx with rfl | hx
      · omega
      · rcases List.mem_append.mp hx with q | q
        · have := a3 x q; omega
        · rw [List.mem_singleton.mp q]; omega
  · rintro ⟨ln, up, ⟨r, rfl⟩, hi, st, sz⟩
    rw [List.length_cons] at ln
    obtain ⟨ini, y, rfl⟩ := snoc_of (r := r) (fun e => by rw [e] at ln; simp at ln; omega)
    rw [List.pairwise_cons] at up
    have up2 := List.pairwise_append.mp up.2
    have hy := hi y (by simp)
    have y0 : 0 < y := up.1 y (by simp)
    rw [List.length_append] at ln
    have ln : ini.length + 1 + 1 = m := ln
    -- rising numbers above 0: the last one is no less than how many there are
    have key : ∀ (k : List Int) (b : Int), k.Pairwise (· < ·) → (∀ x ∈ k, 0 < x ∧ x < b) → (k.length : Int) < b ∨ k = [] := fun k b hk hb => by
      by_cases e : k = []
      · exact .inr e
      · left
        have n1 := nodup_len (lt_nodup hk) (L := rngL 1 b) fun x hx => mem_rngL.mpr (by have := hb x hx; omega)
        rw [rngL_len] at n1
        have : 0 < k.length := List.length_pos_iff.mpr e
        omega
    have k1 := key ini y up2.1 fun x hx => ⟨up.1 x (List.mem_append.mpr (.inl hx)), up2.2.2 x hx y (by simp)⟩
    have k2 : (ini.length : Int) < y := by
      rcases k1 with k1 | k1
      · exact k1
      · rw [k1]; exact y0
    refine ⟨y.toNat, List.mem_range'_1.mpr (by omega), List.mem_filter.mpr ⟨List.mem_map.mpr ⟨ini, mem_IN.mpr ⟨by omega, up2.1, fun x hx => ⟨up.1 x (List.mem_append.mpr (.inl hx)), ?_⟩⟩, ?_⟩, okS_iff.mpr ⟨st, sz⟩⟩⟩
    · have := up2.2.2 x hx y (by simp); omega
    · show (0 : Int) :: (ini ++ [((y.toNat : Nat) : Int)]) = _
      rw [show ((y.toNat : Nat) : Int) = y by omega]
theorem PL_nodup (m s : Nat) : (PL m s).Nodup := by
  unfold PL List.Nodup
  rw [List.pairwise_flatMap]
  refine ⟨fun w _ => ?_, (show (List.range' (m - 1) (s + 2 - m - m)).Nodup from List.nodup_range').imp fun {a b} n => fun x hx y hy e => n ?_⟩
  · unfold PW
    refine List.Pairwise.filter _ ?_
    rw [List.pairwise_map]
    exact (IN_nodup _ _).imp fun {a b} n e => n (List.append_inj' (List.cons.inj e).2 rfl).1
  · obtain ⟨u, _, rfl⟩ := List.mem_map.mp (List.mem_filter.mp hx).1
    obtain ⟨v, _, rfl⟩ := List.mem_map.mp (List.mem_filter.mp hy).1
    have := List.append_inj' (List.cons.inj e).2 rfl
    have := (List.cons.inj this.2).1
    omega
theorem mem_LL {m s : Nat} (h2 : 3 ≤ m) {l : List Int} : l ∈ LL m s ↔ Gd m s l := by
  unfold LL
  rw [List.mem_filter, Bool.and_eq_true, beq_iff_eq, okS_iff, List.mem_map]
  constructor
  · rintro ⟨⟨r, hr, rfl⟩, h1, h3, h4⟩
    obtain ⟨a, b⟩ := mem_LT.mp hr
    have hp : r ≠ [] := fun e => by rw [e] at h1; simp at h1; omega
    have ms : m ≤ s := by
      apply Nat.le_of_not_lt
      intro z
      obtain ⟨x, hx⟩ := List.exists_mem_of_ne_nil r hp
      have := b x hx
      omega
    refine ⟨h1, List.pairwise_cons.mpr ⟨fun x hx => by have := b x hx; omega, a⟩, ⟨r, rfl⟩, fun x hx => ?_, h3, h4⟩
    rcases List.mem_cons.mp hx with rfl | hx
    · omega
    · have := b x hx; omega
  · rintro ⟨ln, up, ⟨r, rfl⟩, hi, st, sz⟩
    rw [List.pairwise_cons] at up
    refine ⟨⟨r, mem_LT.mpr ⟨up.2, fun x hx => ?_⟩, rfl⟩, ln, st, sz⟩
    have h0 := hi 0 (by simp)
    have h1 := up.1 x hx
    have h3 := hi x (List.mem_cons_of_mem _ hx)
    omega
theorem LL_nodup (m s : Nat) : (LL m s).Nodup := by
  unfold LL
  refine List.Pairwise.filter _ ?_
  rw [List.pairwise_map]
  exact (LT_nodup _).imp fun {a b} n e => n (List.cons.inj e).2
theorem W_eq {m s : Nat} (h2 : 3 ≤ m) : isortL (LL m s) = W m s := sortedL_eq (isortL_sorted _) (isortL_sorted _) ((isortL_perm _).trans (((List.perm_ext_iff_of_nodup (LL_nodup m s) (PL_nodup m s)).mpr fun l => by rw [mem_LL h2, mem_PL h2]).trans (isortL_perm _).symm))
theorem mem_W {m s : Nat} (h2 : 3 ≤ m) {l : List Int} : l ∈ W m s ↔ Gd m s l := by
  unfold W
  rw [(isortL_perm _).mem_iff, mem_PL h2]
theorem W_nodup (m s : Nat) : (W m s).Nodup := (isortL_perm _).nodup_iff.mpr (PL_nodup m s)
end Lw
set_option Elab.async false
set_option linter.all false
set_option maxRecDepth 100000
set_option maxHeartbeats 4000000
namespace Lw
set_option autoImplicit false
open PySem hiding run
open L2 L2.Pz
theorem whole_n (v a b : Int) : n_is_whole v a b = some (decide (a ≤ v) && decide (v ≤ b)) := rfl
theorem rising_n {l : List Int} (hz : l.length ≤ 1000000) : n_is_rising l = some (decide (l.Pairwise (· < ·))) := by
  unfold n_is_rising
  rw [cut1, mapS_of (by
    have := List.length_zip (l₁ := l) (l₂ := l.tail)
    unfold sizeLine; omega), Option.bind_some]
  congr 1
  rw [Bool.eq_iff_iff, decide_eq_true_eq]
  exact zip_tail (R := fun a b : Int => a < b) fun h k => by omega
theorem members_n {l : List Int} {a b : Int} (hz : l.length ≤ 1000000) : n_are_members l a b = some (decide ((∀ x ∈ l, a ≤ x ∧ x ≤ b) ∧ l.Pairwise (· < ·))) := by
  unfold n_are_members
  have hf : fmS (fun x4 => (n_is_whole x4 a b).bind fun t5 => some (some t5)) l = some (l.map fun x => decide (a ≤ x) && decide (x ≤ b)) := fmS_map _ (sz_of hz) (fun x _ => rfl)
  rw [if_pos rfl, hf, Option.bind_some, rising_n hz]
  have e : ((l.map fun x => decide (a ≤ x) && decide (x ≤ b)).all id = true) ↔ ∀ x ∈ l, a ≤ x ∧ x ≤ b := by
    simp [List.all_eq_true]
  by_cases q : (l.map fun x => decide (a ≤ x) && decide (x ≤ b)).all id = true
  · rw [if_pos q]
    show some _ = some _
    congr 1
    rw [Bool.eq_iff_iff, decide_eq_true_eq, decide_eq_true_eq]
    exact ⟨fun h => ⟨e.mp q, h⟩, fun h => h.2⟩
  · rw [if_neg q]
    show some _ = some _
    congr 1
    rw [Bool.eq_iff_iff, decide_eq_true_eq]
    exact ⟨fun h => (by cases h), fun h => (q (e.mpr h.1)).elim⟩
theorem getI_last {α : Type} (ini : List α) (y : α) : getI (ini ++ [y]) (-(1 : Int)) = some y := by
  unfold getI
  have e : L2.ixN (ini ++ [y]).length (-(1 : Int)) = some ini.length := by
    unfold L2.ixN
    rw [if_neg (by decide), if_pos (by rw [List.length_append]; show -((ini.length + 1 : Nat) : Int) ≤ -1; omega)]
    congr 1
    rw [List.length_append]
    show (-1 + ((ini.length + 1 : Nat) : Int)).toNat = _
    omega
  rw [e, Option.bind_some, List.getElem?_append_right (Nat.le_refl _), Nat.sub_self]; rfl
theorem flO_of {α β : Type} {f : α → Option (List β)} {g : α → List β} : ∀ {xs : List α}, (∀ x ∈ xs, f x = some (g x)) → flO f xs = some (xs.flatMap g)
  | [], _ => rfl
  | x :: xs, h => by
    unfold flO
    rw [h x (List.mem_cons_self ..), Option.bind_some, flO_of fun y hy => h y (List.mem_cons_of_mem _ hy)]; rfl
theorem divs (f : Int × Int → Option ((Int × Int) ⊕ (Int × Int))) (hf : f = fun s1 =>
    if (!decide ((s1.2 : Int) = (0 : Int))) = true then
      (
      (fmod s1.1 s1.2).bind fun t4 =>
      some (.inl (s1.2, t4))
      )
    else some (.inr (s1.1, s1.2))) (a b : Int) : (limN f ((if a < 0 then -a else a), (if b < 0 then -b else b))).bind (fun r5 => some r5.1) = some ((Nat.gcd a.natAbs b.natAbs : Nat) : Int) := by
  obtain ⟨r, h1, h2⟩ := limN_meas (f := f)
    (I := fun s => ∃ x y : Nat, s = ((x : Int), (y : Int)) ∧ Nat.gcd x y = Nat.gcd a.natAbs b.natAbs) (m := fun s => s.2.toNat) (Q := fun r : Int × Int => r.1 = ((Nat.gcd a.natAbs b.natAbs : Nat) : Int)) (by
      rintro s ⟨x, y, rfl, e⟩
      rw [hf]
      by_cases q : y = 0
      · subst q
        exact .inl ⟨_, rfl, by rw [Nat.gcd_zero_right] at e; rw [← e]⟩
      · right
        refine ⟨((y : Int), ((x % y : Nat) : Int)), ?_, ⟨y, x % y, rfl, by rw [← e, Nat.gcd_comm x y, Nat.gcd_rec y x]; exact Nat.gcd_comm _ _⟩, ?_⟩
        · dsimp only
          rw [if_pos (by show (!decide ((y : Int) = 0)) = true; rw [decide_eq_false (by omega)]; rfl)]
          show Option.bind (fmod (x : Int) (y : Int)) _ = _
          rw [fmod_pos (by omega), Int.natCast_emod]; rfl
        · show ((x % y : Nat) : Int).toNat < ((y : Nat) : Int).toNat
          rw [Int.toNat_natCast, Int.toNat_natCast]
          exact Nat.mod_lt _ (by omega)) (s := ((if a < 0 then -a else a), (if b < 0 then -b else b))) ⟨a.natAbs, b.natAbs, by
            have e : ∀ z : Int, (if z < 0 then -z else z) = ((z.natAbs : Nat) : Int) := fun z => by split <;> omega
            rw [e, e], rfl⟩
  rw [h1, Option.bind_some, h2]
theorem div_n (a b : Int) : n_divisor_of a b = some ((Nat.gcd a.natAbs b.natAbs : Nat) : Int) := divs _ rfl a b
theorem lawdiv_n (a b : Int) : n_law_divisor a b = some ((Nat.gcd a.natAbs b.natAbs : Nat) : Int) := divs _ rfl a b
theorem step_go {f : Int → Int → Option Int} {c : Int} (hf : ∀ (x : Int) (g : Nat), f x (g : Int) = some ((Nat.gcd g (x - c).natAbs : Nat) : Int)) : ∀ (l : List Int) (g : Nat), forO f l (g : Int) = some ((gG c l g : Nat) : Int)
  | [], g => rfl
  | x :: l, g => by
    unfold forO
    rw [hf, Option.bind_some, step_go hf l, gG]
theorem stp_if (g : Nat) : (if (decide ((0 : Int) < ((g : Nat) : Int))) = true then ((g : Nat) : Int) else (1 : Int)) = (((if 0 < g then g else 1 : Nat) : Nat) : Int) := by
  by_cases q : 0 < g
  · rw [if_pos (decide_eq_true (by omega)), if_pos q]
  · rw [if_neg (by rw [decide_eq_false (by omega)]; decide), if_neg q]; rfl
theorem hull_n (c : Int) (r : List Int) : n_hull_step (c :: r) = some ((stp (c :: r) : Nat) : Int) := by
  unfold n_hull_step
  have e := step_go (c := c) (f := fun x1 (s2 : Int) =>
    (getI (c :: r) (0 : Int)).bind fun t4 =>
    (n_divisor_of s2 (x1 - t4)).bind fun t5 =>
    some t5) (fun x g => by
      rw [show getI (c :: r) (0 : Int) = some c from getI_nat (i := 0) rfl, Option.bind_some, div_n, Option.bind_some, Int.natAbs_natCast]) (c :: r) 0
  refine (congrArg (fun z => Option.bind z _) (e : _ = _)).trans ?_
  show some _ = _
  rw [stp_if]; rfl
theorem lawstep_n (c : Int) (r : List Int) : n_law_step_of (c :: r) = some ((stp (c :: r) : Nat) : Int) := by
  unfold n_law_step_of
  have e := step_go (c := c) (f := fun x1 (s2 : Int) =>
    (getI (c :: r) (0 : Int)).bind fun t4 =>
    (n_law_divisor s2 (x1 - t4)).bind fun t5 =>
    some t5) (fun x g => by
      rw [show getI (c :: r) (0 : Int) = some c from getI_nat (i := 0) rfl, Option.bind_some, lawdiv_n, Option.bind_some, Int.natAbs_natCast]) (c :: r) 0
  refine (congrArg (fun z => Option.bind z _) (e : _ = _)).trans ?_
  show some _ = _
  rw [stp_if]; rfl
theorem sm_len (l : List Int) : (sm l).length = l.length * l.length := by
  unfold sm
  have : ∀ m : List Int, (m.flatMap fun x => l.map fun y => x + y).length = m.length * l.length := fun m => by
    induction m with
    | nil => simp
    | cons x m ih => rw [List.flatMap_cons, List.length_append, ih, List.length_map, List.length_cons, Nat.add_mul, Nat.one_mul, Nat.add_comm]
  exact this l
theorem sums_n {l : List Int} (h : l.length ≤ 20) : n_sums_in_smallsums l = some ((gath (sm l)).length : Int) := by
  unfold n_sums_in_smallsums n_sum_in n_sums_in_basics n_gathered flS
  have hl : (sm l).length ≤ 400 := by rw [sm_len]; exact Nat.le_trans (Nat.mul_le_mul h h) (by decide)
  rw [flO_of (g := fun x => l.map fun y => x + y) (fun x _ => rfl), Option.bind_some, if_pos (by show (sm l).length ≤ _; unfold sizeLine; omega), Option.bind_some, Option.bind_some]
  show (Option.bind (Option.bind (fset (sm l)) _) _).bind _ = _
  rw [fset_of (by have := dedup_len (sm l); unfold scanBound; omega)]
  rfl
/-! program: width by width -/
theorem ext1 {r : List Int} (hr : r.length ≤ 100) {w : Nat} (hw : w ≤ 100) (h0 : -1 ≤ lst0 r ∧ lst0 r < 1000) : ((if (!decide ((r : (List Int)) = ([] : (List Int)))) = true then ((getI r (-(1 : Int))).bind fun t9 => some t9) else (some (0 : Int))).bind fun t10 => (frg (t10 + (1 : Int)) (w : Int)).bind fun r11 => fmO (fun x13 => (fadd r ([x13] : (List Int))).bind fun t14 => some (some t14)) r11) = some ((rngL (lst0 r + 1) (w : Int)).map fun x => r ++ [x]) := by
  have e1 : (if (!decide ((r : (List Int)) = ([] : (List Int)))) = true then ((getI r (-(1 : Int))).bind fun t9 => some t9) else (some (0 : Int))) = some (lst0 r) := by
    rcases List.eq_nil_or_concat r with rfl | ⟨ini, y, rfl⟩
    · rfl
    · rw [List.concat_eq_append, if_pos (by rw [decide_eq_false (by simp)]; rfl), getI_last, lst0_snoc]; rfl
  rw [e1, Option.bind_some, show frg (lst0 r + 1) (w : Int) = some (rngL (lst0 r + 1) (w : Int)) from if_pos ⟨inB_of (by omega) (by omega), inB_nat (by omega)⟩, Option.bind_some,
    fmO_of (g := fun x => some (r ++ [x])) (fun x _ => by rw [fadd_of (by show r.length + 1 ≤ _; unfold sizeLine; omega)]; rfl), List.filterMap_eq_map']
theorem pow_le {w : Nat} (h : w ≤ 13) : 2 ^ w ≤ 8192 := Nat.le_trans (Nat.pow_le_pow_right (by decide) h) (by decide)
theorem IN_lst {k w : Nat} {r : List Int} (h : r ∈ IN k w) (hw : w ≤ 100) : -1 ≤ lst0 r ∧ lst0 r < 1000 := by
  obtain ⟨_, _, a⟩ := mem_IN.mp h
  rcases List.eq_nil_or_concat r with rfl | ⟨ini, y, rfl⟩
  · decide
  · rw [List.concat_eq_append] at a ⊢
    rw [lst0_snoc]
    have := a y (by simp); omega
theorem inner_go {f : Int → List (List Int) → Option (List (List Int))} {w : Nat} (hf : ∀ x k, k < 50 → f x (IN k w) = some (IN (k + 1) w)) : ∀ (xs : List Int) (k : Nat), k + xs.length < 50 → forO f xs (IN k w) = some (IN (k + xs.length) w)
  | [], k, _ => rfl
  | x :: xs, k, h => by
    rw [List.length_cons] at h
    show Option.bind (f x (IN k w)) _ = _
    rw [hf x k (by omega), Option.bind_some, List.length_cons, show k + (xs.length + 1) = k + 1 + xs.length by omega]
    exact inner_go hf xs (k + 1) (by omega)
theorem inner_n {k w : Nat} (hk : k ≤ 10) (hw : w ≤ 13) : n_inner_in (k : Int) (w : Int) = some (IN k w) := by
  unfold n_inner_in
  rw [show frg 0 (k : Int) = some (cL (List.range k)) from frg0 (by omega), Option.bind_some]
  have e := inner_go (w := w) (f := (fun x2 (s3 : (List (List Int))) =>
    (flS (fun x6 => (if (!decide ((x6 : (List Int)) = ([] : (List Int)))) = true then ((getI x6 (-(1 : Int))).bind fun t9 => some t9) else (some (0 : Int))).bind fun t10 => (frg (t10 + (1 : Int)) (w : Int)).bind fun r11 => fmO (fun x13 => (fadd x6 ([x13] : (List Int))).bind fun t14 => some (some t14)) r11) s3).bind fun t15 =>
    some t15)) (fun x j hj => by
    unfold flS
    rw [flO_of (g := fun r => (rngL (lst0 r + 1) (w : Int)).map fun x => r ++ [x]) (fun r hr => ext1 (by rw [(mem_IN.mp hr).1]; omega) (by omega) (IN_lst hr (by omega))), Option.bind_some, show (IN j w).flatMap (fun r => (rngL (lst0 r + 1) (w : Int)).map fun x => r ++ [x]) = IN (j + 1) w from rfl, if_pos (by
      have := IN_len (j + 1) w
      have := pow_le hw
      unfold sizeLine; omega)]
    rfl) (cL (List.range k)) 0 (by rw [cL_len, List.length_range]; omega)
  rw [cL_len, List.length_range, Nat.zero_add] at e
  refine (congrArg (fun z => Option.bind z _) (e : _ = _)).trans ?_
  rfl
theorem fil_go {f : List Int → List (List Int) → Option (List (List Int))} {h : List Int → List Int} {p : List Int → Bool} {L : List (List Int)} (hf : ∀ r ∈ L, ∀ acc : List (List Int), acc.length < 1000000 → f r acc = some (if p (h r) = true then acc ++ [h r] else acc)) : ∀ (R acc : List (List Int)), (∀ r ∈ R, r ∈ L) → acc.length + R.length < 1000000 → forO f R acc = some (acc ++ (R.map h).filter p)
  | [], acc, _, _ => by
    show some acc = some (acc ++ [])
    rw [List.append_nil]
  | r :: R, acc, hm, hz => by
    rw [List.length_cons] at hz
    unfold forO
    rw [hf r (hm r (List.mem_cons_self ..)) acc (by omega), Option.bind_some, fil_go hf R _ (fun q hq => hm q (List.mem_cons_of_mem _ hq)) (by split <;> (try rw [List.length_append]) <;> (try simp) <;> omega), List.map_cons, List.filter_cons]
    split
    · rw [List.append_assoc]; rfl
    · rfl
/-- what is asked of a row -/
theorem ask_n {m s w : Nat} {r : List Int} (hr : r ∈ IN (m - 2) w) (hm : m ≤ 12) (acc : List (List Int)) (ha : acc.length < 1000000) : ((fadd ([(0 : Int)] : (List Int)) r).bind fun t9 =>
      (fadd t9 ([(w : Int)] : (List Int))).bind fun t10 =>
      (n_hull_step t10).bind fun t11 =>
      (if (decide ((t11 : Int) = (1 : Int))) = true then ((n_sums_in_smallsums t10).bind fun t14 => some (decide ((t14 : Int) = (s : Int)))) else (some false)).bind fun t15 =>
      if t15 = true then
        (
        (fapp acc t10).bind fun t17 =>
        some t17
        )
      else
        (
        some acc
        )) = some (if okS s (0 :: (r ++ [(w : Int)])) = true then acc ++ [0 :: (r ++ [(w : Int)])] else acc) := by
  have hl := (mem_IN.mp hr).1
  rw [fadd_of (by show 1 + r.length ≤ _; unfold sizeLine; omega), Option.bind_some, fadd_of (by show ([(0 : Int)] ++ r).length + 1 ≤ _; rw [List.length_append]; show 1 + r.length + 1 ≤ _; unfold sizeLine; omega), Option.bind_some]
  have e : [(0 : Int)] ++ r ++ [(w : Int)] = 0 :: (r ++ [(w : Int)]) := rfl
  rw [e, hull_n, Option.bind_some]
  have hz : (0 :: (r ++ [(w : Int)])).length ≤ 20 := by rw [List.length_cons, List.length_append, hl]; show m - 2 + 1 + 1 ≤ 20; omega
  generalize (0 :: (r ++ [(w : Int)])) = one at hz ⊢
  by_cases q : stp one = 1
  · rw [q, if_pos (by decide), sums_n hz, Option.bind_some, Option.bind_some]
    by_cases q2 : (gath (sm one)).length = s
    · rw [if_pos (decide_eq_true (by omega)), if_pos (okS_iff.mpr ⟨q, q2⟩), fapp_of (by unfold sizeLine; omega)]; rfl
    · rw [if_neg (by rw [decide_eq_false (by omega)]; decide), if_neg fun z => q2 (okS_iff.mp z).2]
  · rw [if_neg (by rw [decide_eq_false (by omega)]; decide), Option.bind_some, if_neg (by decide), if_neg fun z => q (okS_iff.mp z).1]
theorem PW_len (m s w : Nat) : (PW m s w).length ≤ 2 ^ w := by
  unfold PW
  exact Nat.le_trans (List.length_filter_le _ _) (by rw [List.length_map]; exact IN_len _ _)
theorem widths_go {f : Int → List (List Int) → Option (List (List Int))} {m s : Nat} (hf : ∀ w : Nat, w ≤ 13 → ∀ acc : List (List Int), acc.length + 8192 < 1000000 → f (w : Int) acc = some (acc ++ PW m s w)) : ∀ (ws : List Nat) (acc : List (List Int)), (∀ w ∈ ws, w ≤ 13) → acc.length + 8192 * ws.length < 900000 → forO f (cL ws) acc = some (acc ++ ws.flatMap (PW m s))
  | [], acc, _, _ => by
    show some acc = some (acc ++ [])
    rw [List.append_nil]
  | w :: ws, acc, h, hz => by
    rw [List.length_cons] at hz
    have hw := h w (List.mem_cons_self ..)
    have l1 := PW_len m s w
    have l2 := pow_le hw
    show (f (w : Int) acc).bind (forO f (cL ws)) = _
    rw [hf w hw acc (by omega), Option.bind_some, widths_go hf ws _ (fun q hq => h q (List.mem_cons_of_mem _ hq)) (by rw [List.length_append]; omega), List.flatMap_cons, List.append_assoc]
theorem short_n {m s : Nat} (h3 : 3 ≤ m) (h8 : m ≤ 8) (hs : s + 4 ≤ 3 * m) : n_short_in (m : Int) (s : Int) = some (W m s) := by
  unfold n_short_in
  have er : frg ((m : Int) - (1 : Int)) (((s : Int) - (m : Int)) + (1 : Int)) = some (cL (List.range' (m - 1) (s + 2 - m - m))) := by
    unfold frg
    rw [if_pos ⟨inB_of (by omega) (by omega), inB_of (by omega) (by omega)⟩]
    by_cases q : m ≤ s + 1
    · rw [show (m : Int) - 1 = ((m - 1 : Nat) : Int) by omega, show (s : Int) - (m : Int) + 1 = ((s + 1 - m : Nat) : Int) by omega, rng_nat, show s + 1 - m - (m - 1) = s + 2 - m - m by omega]; rfl
    · rw [show s + 2 - m - m = 0 by omega]
      unfold rngL
      rw [show ((s : Int) - (m : Int) + 1 - ((m : Int) - 1)).toNat = 0 by omega]; rfl
  rw [er, Option.bind_some]
  have e := widths_go (m := m) (s := s) (f := (fun x2 (s3 : (List (List Int))) =>
    (n_inner_in ((m : Int) - (2 : Int)) x2).bind fun t5 =>
    (forO (fun x6 (s7 : (List (List Int))) =>
      (fadd ([(0 : Int)] : (List Int)) x6).bind fun t9 =>
      (fadd t9 ([x2] : (List Int))).bind fun t10 =>
      (n_hull_step t10).bind fun t11 =>
      (if (decide ((t11 : Int) = (1 : Int))) = true then ((n_sums_in_smallsums t10).bind fun t14 => some (decide ((t14 : Int) = (s : Int)))) else (some false)).bind fun t15 =>
      if t15 = true then
        (
        (fapp s7 t10).bind fun t17 =>
        some t17
        )
      else
        (
        some s7
        )
    ) t5 s3).bind fun r18 =>
    some r18)) (fun w hw acc ha => by
      have l1 := IN_len (m - 2) w
      have l2 := pow_le hw
      rw [show (m : Int) - 2 = ((m - 2 : Nat) : Int) by omega, inner_n (by omega) hw, Option.bind_some, fil_go (h := fun r => 0 :: (r ++ [(w : Int)])) (p := okS s) (L := IN (m - 2) w) (fun r hr acc ha => ask_n hr (by omega) acc ha) (IN (m - 2) w) acc (fun r hr => hr) (by omega)]
      rfl) (List.range' (m - 1) (s + 2 - m - m)) [] (fun w hw => by have := List.mem_range'_1.mp hw; omega) (by rw [List.length_range']; simp; omega)
  refine (congrArg (fun z => Option.bind z _) (e : _ = _)).trans ?_
  show (fsrtL (PL m s)).bind _ = _
  rw [show fsrtL (PL m s) = some (W m s) from if_pos (List.all_eq_true.mpr fun l hl => by
    obtain ⟨r, rfl⟩ := ((mem_PL h3).mp hl).hd; rfl)]
  rfl
theorem few_n {m s : Nat} (h3 : 3 ≤ m) (h8 : m ≤ 8) (h1 : 1 ≤ s) (hs : s + 4 ≤ 3 * m) : n_need_few (m : Int) (s : Int) = some () := by
  unfold n_need_few
  rw [whole_n, Option.bind_some, decide_eq_true (show (3 : Int) ≤ (m : Int) by omega), decide_eq_true (show (m : Int) ≤ 8 by omega), if_neg (by decide), whole_n, Option.bind_some, decide_eq_true (show (1 : Int) ≤ (s : Int) by omega), decide_eq_true (show (s : Int) ≤ 3 * (m : Int) - 4 by omega), if_neg (by decide)]
theorem shorts_n {m s : Nat} (h3 : 3 ≤ m) (h8 : m ≤ 8) (h1 : 1 ≤ s) (hs : s + 4 ≤ 3 * m) : n_short_sets (m : Int) (s : Int) = some (W m s) := by
  unfold n_short_sets
  rw [few_n h3 h8 h1 hs, Option.bind_some, short_n h3 h8 hs, Option.bind_some]
end Lw
set_option Elab.async false
set_option linter.all false
set_option maxRecDepth 100000
set_option maxHeartbeats 4000000
namespace Lw
set_option autoImplicit false
open PySem hiding run
open L2 L2.Pz
/-! the law's way -/
abbrev DB := List (Int × Bool)
def ks (d : DB) : List Int := d.map Prod.fst
theorem ks_put (d : DB) (k : Int) : ks (dput1 d k true) = if k ∈ ks d then ks d else ks d ++ [k] := by
  unfold dput1
  have e : ((d.any fun p => decide (p.1 = k)) = true) ↔ k ∈ ks d := by
    rw [List.any_eq_true]
    unfold ks
    rw [List.mem_map]
    exact ⟨fun ⟨p, h1, h2⟩ => ⟨p, h1, of_decide_eq_true h2⟩, fun ⟨p, h1, h2⟩ => ⟨p, h1, decide_eq_true h2⟩⟩
  by_cases q : k ∈ ks d
  · rw [if_pos (e.mpr q), if_pos q]
    unfold ks
    rw [List.map_map]
    apply List.map_congr_left
    intro p _
    show (if p.1 = k then (p.1, true) else p).1 = p.1
    split <;> rfl
  · rw [if_neg (fun z => q (e.mp z)), if_neg q]
    unfold ks
    rw [List.map_append]; rfl
theorem forR_ex {α σ ρ : Type} {f : α → σ → Option (σ ⊕ ρ)} : ∀ {xs : List α}, (∀ x ∈ xs, ∀ s, ∃ s', f x s = some (.inl s')) → ∀ s, ∃ s', forR f xs s = some (.inl s')
  | [], _, s => ⟨s, rfl⟩
  | x :: xs, h, s => by
    obtain ⟨s1, e1⟩ := h x (List.mem_cons_self ..) s
    obtain ⟨s2, e2⟩ := forR_ex (xs := xs) (fun y hy => h y (List.mem_cons_of_mem _ hy)) s1
    refine ⟨s2, ?_⟩
    unfold forR
    rw [e1]; exact e2
theorem some1_n (c : CupT) {l : List (List Int)} (h1 : 0 < l.length) (h2 : l.length < 1000000) : ∃ v c', v ∈ l ∧ n_law_some c l = some (v, c') := by
  obtain ⟨i, c', e, hi⟩ := roll_ex c h1 h2
  unfold n_law_some
  rw [e, Option.bind_some]
  have : l[i]? = some l[i] := List.getElem?_eq_getElem hi
  refine ⟨l[i], c', List.getElem_mem hi, ?_⟩
  show Option.bind (getI l (i : Int)) _ = _
  rw [getI_nat this]; rfl
theorem put_go (x : Int) : ∀ (l : List Int) (d : DB), (ks d).Nodup → d.length + l.length < 100000 → ∃ d', forO (fun x4 (s5 : (List (Int × Bool))) =>
      (dput s5 (x + x4) true).bind fun t7 =>
      some t7) l d = some d' ∧ (ks d').Nodup ∧ d'.length ≤ d.length + l.length ∧ ∀ z, z ∈ ks d' ↔ z ∈ ks d ∨ ∃ y ∈ l, z = x + y
  | [], d, nd, _ => ⟨d, rfl, nd, by simp, fun z => by simp⟩
  | y :: l, d, nd, hz => by
    rw [List.length_cons] at hz
    have e := ks_put d (x + y)
    have hl : (dput1 d (x + y) true).length = (ks (dput1 d (x + y) true)).length := (List.length_map ..).symm
    have hd : d.length = (ks d).length := (List.length_map ..).symm
    have nd' : (ks (dput1 d (x + y) true)).Nodup ∧ (dput1 d (x + y) true).length ≤ d.length + 1 ∧ ∀ z, z ∈ ks (dput1 d (x + y) true) ↔ z ∈ ks d ∨ z = x + y := by
      by_cases q : x + y ∈ ks d
      · rw [if_pos q] at e
        exact ⟨by rw [e]; exact nd, by rw [hl, e]; omega, fun z => by rw [e]; exact ⟨.inl, fun h => h.elim id fun h => h ▸ q⟩⟩
      · rw [if_neg q] at e
        refine ⟨?_, by rw [hl, e, List.length_append]; show (ks d).length + 1 ≤ _; omega, fun z => by rw [e, List.mem_append, List.mem_singleton]⟩
        rw [e]
        have : (ks d ++ [x + y]).Perm ((x + y) :: ks d) := List.perm_append_comm
        exact this.nodup_iff.mpr (List.nodup_cons.mpr ⟨q, nd⟩)
    obtain ⟨n1, n2, n3⟩ := nd'
    obtain ⟨d', h1, h2, h3, h4⟩ := put_go x l _ n1 (by omega)
    refine ⟨d', ?_, h2, by rw [List.length_cons]; omega, fun z => ?_⟩
    · unfold forO
      rw [show dput d (x + y) true = some (dput1 d (x + y) true) from if_pos (by unfold sizeLine; omega), Option.bind_some, Option.bind_some]
      exact h1
    · rw [h4, n3]
      simp only [List.mem_cons, exists_eq_or_imp, or_assoc]
theorem puts_go (m : List Int) : ∀ (l : List Int) (d : DB), (ks d).Nodup → d.length + l.length * m.length < 100000 → ∃ d', forO (fun x1 (s2 : (List (Int × Bool))) =>
    (forO (fun x4 (s5 : (List (Int × Bool))) =>
      (dput s5 (x1 + x4) true).bind fun t7 =>
      some t7
    ) m s2).bind fun r8 =>
    some r8) l d = some d' ∧ (ks d').Nodup ∧ ∀ z, z ∈ ks d' ↔ z ∈ ks d ∨ ∃ x ∈ l, ∃ y ∈ m, z = x + y
  | [], d, nd, _ => ⟨d, rfl, nd, fun z => by simp⟩
  | x :: l, d, nd, hz => by
    rw [List.length_cons, Nat.add_mul, Nat.one_mul] at hz
    obtain ⟨d1, h1, h2, h3, h4⟩ := put_go x m d nd (by omega)
    obtain ⟨d', g1, g2, g3⟩ := puts_go m l d1 h2 (by omega)
    refine ⟨d', ?_, g2, fun z => ?_⟩
    · unfold forO
      rw [h1, Option.bind_some, Option.bind_some]
      exact g1
    · rw [g3, h4]
      simp only [List.mem_cons, exists_eq_or_imp, or_assoc]
theorem lawsum_n {l : List Int} (h : l.length ≤ 20) : n_law_sum l l = some (gath (sm l)) := by
  have hz : l.length * l.length ≤ 400 := Nat.le_trans (Nat.mul_le_mul h h) (by decide)
  obtain ⟨d, h1, h2, h3⟩ := puts_go l l [] .nil (by simp; omega)
  unfold n_law_sum
  rw [h1, Option.bind_some]
  congr 1
  refine rise_eq (le_lt (isortSorted _) ((isortP _).nodup_iff.mpr h2)) (gath_rise _) fun z => ?_
  rw [memIsort, mem_gath, mem_sm]
  exact (h3 z).trans ⟨fun q => q.elim (fun q => by cases q) id, .inr⟩
theorem lots_go {f : Int → List (List Int) → Option (List (List Int))} (hf : ∀ k : Nat, k < 13 → f ((k + 1 : Nat) : Int) (LT k) = some (LT (k + 1))) : ∀ (j k : Nat), k + j ≤ 13 → forO f (cL (List.range' (k + 1) j)) (LT k) = some (LT (k + j))
  | 0, k, _ => rfl
  | j + 1, k, h => by
    show (f ((k + 1 : Nat) : Int) (LT k)).bind (forO f (cL (List.range' (k + 1 + 1) j))) = _
    rw [hf k (by omega), Option.bind_some, show k + (j + 1) = k + 1 + j by omega]
    exact lots_go hf j (k + 1) (by omega)
theorem lots_n {n : Nat} (h : n ≤ 13) : n_law_lots (cL (List.range' 1 n)) = some (LT n) := by
  unfold n_law_lots
  have e := lots_go (f := (fun x1 (s2 : (List (List Int))) =>
    (fmS (fun x5 => (fadd x5 ([x1] : (List Int))).bind fun t6 => some (some t6)) s2).bind fun t7 =>
    (fadd s2 t7).bind fun t8 =>
    some t8)) (fun k hk => by
    have l1 := LT_len k
    have l2 := pow_le (w := k) (by omega)
    rw [fmS_map (fun r => r ++ [((k + 1 : Nat) : Int)]) (by unfold sizeLine; omega) (fun r hr => by
      have hr := mem_LT.mp hr
      have : r.length ≤ k := by
        have := nodup_len (lt_nodup hr.1) (L := rngL 1 ((k : Int) + 1)) fun x hx => mem_rngL.mpr (by have := hr.2 x hx; omega)
        rw [rngL_len] at this; omega
      rw [fadd_of (by show r.length + 1 ≤ _; unfold sizeLine; omega)]; rfl), Option.bind_some, fadd_of (by rw [List.length_map]; unfold sizeLine; omega)]
    rfl) n 0 (by omega)
  have e : _ = some (LT n) := e.trans (by rw [Nat.zero_add])
  refine (congrArg (fun z => Option.bind z _) (e : _ = _)).trans ?_
  rfl
theorem lawask_n {m s n : Nat} {r : List Int} (hr : r ∈ LT n) (hn : n ≤ 13) (acc : List (List Int)) (ha : acc.length < 1000000) : ((fadd ([(0 : Int)] : (List Int)) r).bind fun t7 =>
    (if (decide ((((t7).length : Int) : Int) = (m : Int))) = true then ((n_law_step_of t7).bind fun t10 => (if (decide ((t10 : Int) = (1 : Int))) = true then ((n_law_sum t7 t7).bind fun t13 => some (decide ((((t13).length : Int) : Int) = (s : Int)))) else (some false)).bind fun t14 => some t14) else (some false)).bind fun t15 =>
    if t15 = true then
      (
      (fapp acc t7).bind fun t17 =>
      some t17
      )
    else
      (
      some acc
      )) = some (if ((0 :: r).length == m && okS s (0 :: r)) = true then acc ++ [0 :: r] else acc) := by
  have hr := mem_LT.mp hr
  have hl : r.length ≤ n := by
    have := nodup_len (lt_nodup hr.1) (L := rngL 1 ((n : Int) + 1)) fun x hx => mem_rngL.mpr (by have := hr.2 x hx; omega)
    rw [rngL_len] at this; omega
  rw [fadd_of (by show 1 + r.length ≤ _; unfold sizeLine; omega), Option.bind_some, show [(0 : Int)] ++ r = 0 :: r from rfl]
  have hz : (0 :: r).length ≤ 20 := by rw [List.length_cons]; omega
  by_cases q0 : (0 :: r).length = m
  · rw [if_pos (decide_eq_true (by omega)), lawstep_n, Option.bind_some]
    by_cases q : stp (0 :: r) = 1
    · rw [q, if_pos (by decide), lawsum_n hz, Option.bind_some, Option.bind_some, Option.bind_some]
      by_cases q2 : (gath (sm (0 :: r))).length = s
      · rw [if_pos (decide_eq_true (by omega)), if_pos (by rw [Bool.and_eq_true, beq_iff_eq, okS_iff]; exact ⟨q0, q, q2⟩), fapp_of (by unfold sizeLine; omega)]; rfl
      · rw [if_neg (by rw [decide_eq_false (by omega)]; decide), if_neg fun z => q2 (okS_iff.mp (Bool.and_eq_true_iff.mp z).2).2]
    · rw [if_neg (by rw [decide_eq_false (by omega)]; decide), Option.bind_some, Option.bind_some, if_neg (by decide), if_neg fun z => q (okS_iff.mp (Bool.and_eq_true_iff.mp z).2).1]
  · rw [if_neg (by rw [decide_eq_false (by omega)]; decide), Option.bind_some, if_neg (by decide), if_neg fun z => q0 (beq_iff_eq.mp (Bool.and_eq_true_iff.mp z).1)]
theorem lawshort_n {m s : Nat} (h3 : 3 ≤ m) (h8 : m ≤ 8) (hs : s + 4 ≤ 3 * m) : n_law_short (m : Int) (s : Int) = some (W m s) := by
  unfold n_law_short
  have e0 : (if (1 : Int) < (((s : Int) - (m : Int)) + (1 : Int)) then (((s : Int) - (m : Int)) + (1 : Int)) else (1 : Int)) = ((s - m + 1 : Nat) : Int) := by split <;> omega
  rw [e0, show mkr (1 : Int) ((s - m + 1 : Nat) : Int) = some () from if_pos ⟨by decide, inB_nat (by omega)⟩, Option.bind_some]
  have er : frng (1 : Int) ((s - m + 1 : Nat) : Int) = some (cL (List.range' 1 (s - m))) := by
    unfold frng
    rw [if_pos ⟨by decide, inB_nat (by omega), by unfold sizeLine; omega⟩, show (1 : Int) = ((1 : Nat) : Int) from rfl, rng_nat]; rfl
  have hn : s - m ≤ 13 := by omega
  have l1 := LT_len (s - m)
  have l2 := pow_le hn
  rw [er, Option.bind_some, lots_n hn, Option.bind_some, fil_go (h := fun r => (0 : Int) :: r) (p := fun l => (l.length == m) && okS s l) (L := LT (s - m)) (fun r hr acc ha => lawask_n hr hn acc ha) (LT (s - m)) [] (fun r hr => hr) (by simp; omega), Option.bind_some, List.nil_append]
  show (fsrtL (LL m s)).bind _ = _
  rw [show fsrtL (LL m s) = some (isortL (LL m s)) from if_pos (List.all_eq_true.mpr fun l hl => by
    obtain ⟨r, rfl⟩ := ((mem_LL h3).mp hl).hd; rfl), W_eq h3]
  rfl
theorem W_len {m s : Nat} (h3 : 3 ≤ m) (h : s ≤ m + 13) : (W m s).length ≤ 8192 := by
  rw [← W_eq h3, (isortL_perm _).length_eq]
  unfold LL
  have := List.length_filter_le (fun l => (l.length == m) && okS s l) ((LT (s - m)).map fun r => (0 : Int) :: r)
  rw [List.length_map, LT_len] at this
  exact Nat.le_trans this (pow_le (by omega))
/-! the longest one -/
theorem Gd.last {m s : Nat} {l : List Int} (c : Gd m s l) (h3 : 3 ≤ m) : ∃ ini y, l = ini ++ [y] ∧ ini ≠ [] := by
  obtain ⟨r, rfl⟩ := c.hd
  have := c.ln
  obtain ⟨ini, y, rfl⟩ := snoc_of (r := r) (fun e => by rw [e] at this; simp at this; omega)
  exact ⟨0 :: ini, y, rfl, by simp⟩
theorem last_n {l : List Int} (h : l ≠ []) : getI l (-(1 : Int)) = some (lst0 l) := by
  obtain ⟨ini, y, rfl⟩ := snoc_of h
  rw [getI_last, lst0_snoc]
def hul (t : List (List Int)) : Int := maxL 0 (t.map fun l => lst0 l + 1)
theorem hulex_n {t : List (List Int)} (hz : t.length ≤ 10000) (hn : ∀ l ∈ t, l ≠ []) : ((fmS (fun x5 => (getI x5 (-(1 : Int))).bind fun t6 => some (some (t6 + (1 : Int)))) t).bind fun t7 =>
  (fadd ([(0 : Int)] : (List Int)) t7).bind fun t8 =>
  (fmax t8).bind fun t9 => some t9) = some (hul t) := by
  rw [fmS_map (fun l => lst0 l + 1) (by unfold sizeLine; omega) (fun l hl => by rw [last_n (hn l hl)]; rfl), Option.bind_some, fadd_of (by show 1 + _ ≤ _; rw [List.length_map]; unfold sizeLine; omega), Option.bind_some]
  rfl
theorem Gd.ne {m s : Nat} {l : List Int} (c : Gd m s l) : l ≠ [] := by
  obtain ⟨r, rfl⟩ := c.hd
  simp
theorem longest_n {m s : Nat} (h3 : 3 ≤ m) (h8 : m ≤ 8) (h1 : 1 ≤ s) (hs : s + 4 ≤ 3 * m) : n_longest_hull (m : Int) (s : Int) = some (hul (W m s)) := by
  unfold n_longest_hull
  rw [few_n h3 h8 h1 hs, Option.bind_some, short_n h3 h8 hs, Option.bind_some]
  exact hulex_n (by have := W_len (m := m) (s := s) h3 (by omega); omega) fun l hl => ((mem_W h3).mp hl).ne
/-! the other way round -/
def tn (l : List Int) : List Int := l.reverse.map fun x => lst0 l - x
theorem Gd.lst {m s : Nat} {l : List Int} (c : Gd m s l) : lst0 l ∈ l ∧ ∀ x ∈ l, 0 ≤ x ∧ x ≤ lst0 l := by
  obtain ⟨ini, y, rfl⟩ := snoc_of c.ne
  rw [lst0_snoc]
  have up := List.pairwise_append.mp c.up
  have h1 : ∀ x ∈ ini ++ [y], 0 ≤ x := by
    obtain ⟨r, e⟩ := c.hd
    have up2 := c.up
    rw [e, List.pairwise_cons] at up2
    intro x hx
    rw [e] at hx
    rcases List.mem_cons.mp hx with rfl | hx
    · exact Int.le_refl _
    · have := up2.1 x hx; omega
  refine ⟨by simp, fun x hx => ⟨h1 x hx, ?_⟩⟩
  rcases List.mem_append.mp hx with q | q
  · have := up.2.2 x q y (by simp); omega
  · rw [List.mem_singleton.mp q]; exact Int.le_refl _
theorem mem_tn {l : List Int} {z : Int} : z ∈ tn l ↔ lst0 l - z ∈ l := by
  unfold tn
  rw [List.mem_map]
  constructor
  · rintro ⟨x, hx, rfl⟩
    rw [show lst0 l - (lst0 l - x) = x by omega]
    exact List.mem_reverse.mp hx
  · exact fun h => ⟨lst0 l - z, List.mem_reverse.mpr h, by omega⟩
theorem tn_lst {l r : List Int} (e : l = 0 :: r) : lst0 (tn l) = lst0 l := by
  unfold tn
  generalize lst0 l = c
  rw [e, List.reverse_cons, List.map_append]
  show lst0 (_ ++ [c - 0]) = c
  rw [lst0_snoc]; omega
theorem tn_tn {l r : List Int} (e : l = 0 :: r) : tn (tn l) = l := by
  have h := tn_lst e
  show (tn l).reverse.map (fun x => lst0 (tn l) - x) = l
  rw [h]
  unfold tn
  rw [← List.map_reverse, List.reverse_reverse, List.map_map]
  refine (List.map_congr_left (g := id) fun x _ => ?_).trans (List.map_id _)
  show lst0 l - (lst0 l - x) = x
  omega
theorem Gd.tn {m s : Nat} {l : List Int} (c : Gd m s l) : Gd m s (tn l) := by
  obtain ⟨c1, c2⟩ := c.lst
  obtain ⟨r, e⟩ := c.hd
  have z0 : (0 : Int) ∈ l := by rw [e]; simp
  obtain ⟨ini, y, ey⟩ := snoc_of c.ne
  have hd : ∃ r', Lw.tn l = 0 :: r' := by
    unfold Lw.tn
    rw [ey, List.reverse_append, lst0_snoc]
    exact ⟨_, by
      show (y - y) :: _ = _
      rw [Int.sub_self]⟩
  refine ⟨by unfold Lw.tn; rw [List.length_map, List.length_reverse]; exact c.ln, ?_, hd, fun x hx => ?_, ?_, ?_⟩
  · unfold Lw.tn
    rw [List.pairwise_map, List.pairwise_reverse]
    exact c.up.imp fun h => by omega
  · have h1 := c2 _ (mem_tn.mp hx)
    have := c.hi _ c1
    omega
  · obtain ⟨r', e'⟩ := hd
    have g : gG 0 (Lw.tn l) 0 = gG 0 l 0 := by
      have dv : ∀ (d : Nat) (x : Int), d ∣ (x - 0).natAbs ↔ (d : Int) ∣ x := fun d x => by rw [Int.sub_zero]; exact Int.ofNat_dvd_left.symm
      apply Nat.dvd_antisymm
      · refine dvd_gG.mpr ⟨Nat.dvd_zero _, fun x hx => (dv _ _).mpr ?_⟩
        have h := (dvd_gG (c := 0) (d := gG 0 (Lw.tn l) 0) (l := Lw.tn l) (g := 0)).mp (Nat.dvd_refl _)
        have h1 := (dv _ _).mp (h.2 (lst0 l - x) (mem_tn.mpr (by rw [show lst0 l - (lst0 l - x) = x by omega]; exact hx)))
        have h2 := (dv _ _).mp (h.2 (lst0 l) (mem_tn.mpr (by rw [Int.sub_self]; exact z0)))
        have := Int.dvd_sub h2 h1
        rwa [show lst0 l - (lst0 l - x) = x by omega] at this
      · refine dvd_gG.mpr ⟨Nat.dvd_zero _, fun x hx => (dv _ _).mpr ?_⟩
        have h := (dvd_gG (c := 0) (d := gG 0 l 0) (l := l) (g := 0)).mp (Nat.dvd_refl _)
        have h1 := (dv _ _).mp (h.2 _ (mem_tn.mp hx))
        have h2 := (dv _ _).mp (h.2 _ c1)
        have := Int.dvd_sub h2 h1
        rwa [show lst0 l - (lst0 l - x) = x by omega] at this
    have := c.st
    have s1 : stp (Lw.tn l) = if 0 < gG 0 (Lw.tn l) 0 then gG 0 (Lw.tn l) 0 else 1 := by
      unfold stp
      rw [e']; rfl
    have s2 : stp l = if 0 < gG 0 l 0 then gG 0 l 0 else 1 := by
      unfold stp
      rw [e]; rfl
    rw [s1, g, ← s2]
    exact this
  · have pm : (gath (sm (Lw.tn l))).Perm ((gath (sm l)).map fun z => 2 * lst0 l - z) := by
      have n1 := lt_nodup (gath_rise (sm (Lw.tn l)))
      have n2 : ((gath (sm l)).map fun z => 2 * lst0 l - z).Nodup := by
        unfold List.Nodup
        rw [List.pairwise_map]
        exact (lt_nodup (gath_rise (sm l))).imp fun n e => n (by omega)
      refine (List.perm_ext_iff_of_nodup n1 n2).mpr fun z => ?_
      rw [mem_gath, mem_sm, List.mem_map]
      constructor
      · rintro ⟨x, hx, y, hy, rfl⟩
        exact ⟨_, mem_gath.mpr (mem_sm.mpr ⟨_, mem_tn.mp hx, _, mem_tn.mp hy, rfl⟩), by omega⟩
      · rintro ⟨w, hw, rfl⟩
        obtain ⟨x, hx, y, hy, rfl⟩ := mem_sm.mp (mem_gath.mp hw)
        exact ⟨lst0 l - x, mem_tn.mpr (by rw [show lst0 l - (lst0 l - x) = x by omega]; exact hx), lst0 l - y, mem_tn.mpr (by rw [show lst0 l - (lst0 l - y) = y by omega]; exact hy), by omega⟩
    rw [pm.length_eq, List.length_map]
    exact c.sz
theorem nodup_backL {α : Type} [DecidableEq α] {l L : List α} (h : l.Nodup) (s : ∀ x ∈ l, x ∈ L) (hl : L.length ≤ l.length) : ∀ y ∈ L, y ∈ l := by
  intro y hy
  apply Classical.byContradiction
  intro n
  have := nodup_lenL (l := y :: l) (L := L) (List.nodup_cons.mpr ⟨n, h⟩) fun k hk => by
    rcases List.mem_cons.mp hk with rfl | hk
    · exact hy
    · exact s k hk
  rw [List.length_cons] at this
  omega
theorem W_tn {m s : Nat} (h3 : 3 ≤ m) : isortL ((W m s).map tn) = W m s := by
  have nd : ((W m s).map tn).Nodup := by
    unfold List.Nodup
    rw [List.pairwise_map]
    refine List.Pairwise.imp_of_mem (R := fun x y => x ≠ y) (fun {a b} ha hb n e => n ?_) (W_nodup m s)
    obtain ⟨r, ea⟩ := ((mem_W h3).mp ha).hd
    obtain ⟨r', eb⟩ := ((mem_W h3).mp hb).hd
    rw [← tn_tn ea, ← tn_tn eb, e]
  have sub : ∀ x ∈ (W m s).map tn, x ∈ W m s := fun x hx => by
    obtain ⟨a, ha, rfl⟩ := List.mem_map.mp hx
    exact (mem_W h3).mpr ((mem_W h3).mp ha).tn
  have pm : ((W m s).map tn).Perm (W m s) := (List.perm_ext_iff_of_nodup nd (W_nodup m s)).mpr fun x => ⟨sub x, nodup_backL nd sub (by rw [List.length_map]; exact Nat.le_refl _) x⟩
  exact sortedL_eq (isortL_sorted _) (isortL_sorted _) ((isortL_perm _).trans pm)
end Lw
set_option Elab.async false
set_option linter.all false
set_option maxRecDepth 100000
set_option maxHeartbeats 4000000
namespace Lw
set_option autoImplicit false
open PySem hiding run
open L2 L2.Pz
theorem Gd.need {m s : Nat} {l : List Int} (c : Gd m s l) (h8 : m ≤ 8) (hs : s ≤ 30) : n_need_some l = some () := by
  have e : n_fits_set l = some true := by
    unfold n_fits_set n_is_tuple_of
    rw [Option.bind_some, decide_eq_true (show (0 : Int) ≤ (l.length : Int) by omega), decide_eq_true (show (l.length : Int) ≤ 400 by have := c.ln; omega), if_pos (by decide), members_n (by have := c.ln; omega), decide_eq_true ⟨fun x hx => by have := c.hi x hx; have := c.lst.2 x hx; omega, c.up⟩]
    rfl
  unfold n_need_some n_need_set
  rw [e, Option.bind_some, if_neg (by decide), Option.bind_some, if_neg (by rw [decide_eq_false c.ne]; decide)]
theorem normal_n {m s : Nat} {l : List Int} (c : Gd m s l) (h8 : m ≤ 8) (hs : s ≤ 30) : n_normal_set l = some l := by
  unfold n_normal_set n_normal_in
  rw [c.need h8 hs, Option.bind_some]
  obtain ⟨r, e⟩ := c.hd
  have hh : n_hull_step l = some 1 := by
    have := hull_n 0 r
    rw [← e, c.st] at this
    exact this
  rw [hh, Option.bind_some, fmS_map (fun x => x) (by have := c.ln; unfold sizeLine; omega) (fun x hx => by
    rw [show getI l (0 : Int) = some 0 by rw [e]; exact getI_nat (i := 0) rfl, Option.bind_some, fdiv_pos (by decide) (by decide), Int.sub_zero, Int.ediv_one]; rfl), List.map_id', Option.bind_some, Option.bind_some]
theorem right_n {m s : Nat} (h3 : 3 ≤ m) (h8 : m ≤ 8) (h1 : 1 ≤ s) (hs : s + 4 ≤ 3 * m) (cup : CupT) : ∃ cup', n_law_right cup (m : Int) (s : Int) = some (true, cup') := by
  unfold n_law_right
  have wl := W_len (m := m) (s := s) h3 (by omega)
  have ne : ∀ l ∈ W m s, l ≠ [] := fun l hl => ((mem_W h3).mp hl).ne
  rw [lawshort_n h3 h8 hs, Option.bind_some, shorts_n h3 h8 h1 hs, Option.bind_some, longest_n h3 h8 h1 hs, Option.bind_some]
  have hx := hulex_n (t := W m s) (by omega) ne
  obtain ⟨t7, e7, hx⟩ := Option.bind_eq_some_iff.mp hx
  obtain ⟨t8, e8, hx⟩ := Option.bind_eq_some_iff.mp hx
  obtain ⟨t9, e9, hx⟩ := Option.bind_eq_some_iff.mp hx
  cases hx
  rw [e7, Option.bind_some, e8, Option.bind_some, e9, Option.bind_some, fsame_of rfl, Option.bind_some, if_neg (by decide)]
  rw [fmS_map tn (by unfold sizeLine; omega) (fun l hl => by
    have c := (mem_W h3).mp hl
    rw [fmS_map (fun x => lst0 l - x) (by rw [List.length_reverse]; have := c.ln; unfold sizeLine; omega) (fun x _ => by rw [last_n (ne l hl)]; rfl), Option.bind_some]; rfl), Option.bind_some,
    show fsrtL ((W m s).map tn) = some (isortL ((W m s).map tn)) from if_pos (List.all_eq_true.mpr fun l hl => by
      obtain ⟨a, ha, rfl⟩ := List.mem_map.mp hl
      obtain ⟨r, e⟩ := ((mem_W h3).mp ha).tn.hd
      rw [e]; rfl), Option.bind_some, W_tn h3, if_neg (by rw [decide_eq_true rfl]; decide)]
  by_cases q : W m s = []
  · exact ⟨cup, by rw [if_pos (decide_eq_true q)]⟩
  · rw [if_neg (by rw [decide_eq_false q]; decide)]
    obtain ⟨l, c', hl, e⟩ := some1_n cup (l := W m s) (List.length_pos_iff.mpr q) (by omega)
    have c := (mem_W h3).mp hl
    refine ⟨c', ?_⟩
    rw [e, Option.bind_some]
    dsimp only
    have hc : n_sums_in_smallsums l = some (s : Int) := by rw [sums_n (by have := c.ln; omega), c.sz]
    have e1 : n_is_short l = some true := by
      unfold n_is_short
      rw [c.need h8 (by omega), Option.bind_some, hc, Option.bind_some, decide_eq_true (by have := c.ln; omega)]
    have e2 : n_count_sums l = some (s : Int) := by
      unfold n_count_sums
      rw [c.need h8 (by omega), Option.bind_some, hc, Option.bind_some]
    rw [e1, Option.bind_some, normal_n c h8 (by omega), Option.bind_some, e2, Option.bind_some, fsame_of rfl, Option.bind_some, if_pos rfl, last_n c.ne, Option.bind_some, Option.bind_some, decide_eq_true (c.hi _ c.lst.1)]
theorem w48 : W 4 8 = [[0, 1, 2, 4], [0, 2, 3, 4]] := by decide +kernel
theorem w47 : W 4 7 = [[0, 1, 2, 3]] := by decide +kernel
theorem w46 : W 4 6 = [] := by decide +kernel
theorem w35 : W 3 5 = [[0, 1, 2]] := by decide +kernel
theorem h48 : hul (W 4 8) = 5 := by decide +kernel
theorem h511 : hul (W 5 11) = 7 := by decide +kernel
theorem turn_n {m : Nat} (h3 : 3 ≤ m) (h8 : m ≤ 8) (w1 : W m (2 * m - 1) = [cL (List.range m)]) (w2 : W m (2 * m - 2) = []) (w3 : hul (W m 1) = 0)
    (w4 : 3 < m → ∃ A B, fadd (cutI (cL (List.range (m + 1))) none (some (-(2 : Int)))) (cutI (cL (List.range (m + 1))) (some (-(1 : Int))) none) = some A ∧ fadd (cutI (cL (List.range (m + 1))) none (some (1 : Int))) (cutI (cL (List.range (m + 1))) (some (2 : Int)) none) = some B ∧ W m (2 * m) = [A, B]) :
    ((n_short_sets (m : Int) (((2 : Int) * (m : Int)) - (1 : Int))).bind fun t12 =>
      (n_short_sets (m : Int) (((2 : Int) * (m : Int)) - (2 : Int))).bind fun t13 =>
      (n_longest_hull (m : Int) (1 : Int)).bind fun t14 =>
      (mkr (0 : Int) (m : Int)).bind fun t15 =>
      (frng (0 : Int) (m : Int)).bind fun t16 =>
      (fsame (t12, t13, t14, ()) (([t16] : (List (List Int))), ([] : (List (List Int))), (0 : Int), ())).bind fun t17 =>
      if (!t17) = true then
        (
        some (.inr false)
        )
      else
        (
        (mkr (0 : Int) ((m : Int) + (1 : Int))).bind fun t19 =>
        (frng (0 : Int) ((m : Int) + (1 : Int))).bind fun t20 =>
        (if (decide ((3 : Int) < (m : Int))) = true then ((n_short_sets (m : Int) ((2 : Int) * (m : Int))).bind fun t23 => (fadd (cutI t20 none (some (-(2 : Int)))) (cutI t20 (some (-(1 : Int))) none)).bind fun t24 => (fadd (cutI t20 none (some (1 : Int))) (cutI t20 (some (2 : Int)) none)).bind fun t25 => (fsame t23 ([t24, t25] : (List (List Int)))).bind fun t26 => some (!t26)) else (some false)).bind fun t27 =>
        if t27 = true then
          (
          some (.inr false)
          )
        else
          (
          some (.inl ())
          )
        )) = some (.inl () : Unit ⊕ Bool) := by
  rw [show (2 : Int) * (m : Int) - 1 = ((2 * m - 1 : Nat) : Int) by omega, shorts_n h3 h8 (by omega) (by omega), Option.bind_some, show (2 : Int) * (m : Int) - 2 = ((2 * m - 2 : Nat) : Int) by omega, shorts_n h3 h8 (by omega) (by omega), Option.bind_some,
    show n_longest_hull (m : Int) (1 : Int) = some (hul (W m 1)) from longest_n h3 h8 (s := 1) (by omega) (by omega), Option.bind_some, mkr0 (by omega), Option.bind_some, show frng (0 : Int) (m : Int) = some (cL (List.range m)) from frng0 (by omega), Option.bind_some, w1, w2, w3, fsame_of rfl, Option.bind_some, if_neg (by decide),
    show (m : Int) + 1 = ((m + 1 : Nat) : Int) by omega, mkr0 (by omega), Option.bind_some, show frng (0 : Int) ((m + 1 : Nat) : Int) = some (cL (List.range (m + 1))) from frng0 (by omega), Option.bind_some]
  by_cases q : (3 : Int) < (m : Int)
  · obtain ⟨A, B, a1, a2, a3⟩ := w4 (by omega)
    rw [if_pos (decide_eq_true q), show (2 : Int) * (m : Int) = ((2 * m : Nat) : Int) by omega, shorts_n h3 h8 (by omega) (by omega), Option.bind_some, a1, Option.bind_some, a2, Option.bind_some, a3, fsame_of rfl, Option.bind_some, Option.bind_some]
    rfl
  · rw [if_neg (by rw [decide_eq_false q]; decide)]
    rfl
theorem written_n : n_law_written = some true := by
  unfold n_law_written
  rw [show n_short_sets (4 : Int) (8 : Int) = some (W 4 8) from shorts_n (m := 4) (s := 8) (by decide) (by decide) (by decide) (by decide), Option.bind_some,
    show n_short_sets (4 : Int) (7 : Int) = some (W 4 7) from shorts_n (m := 4) (s := 7) (by decide) (by decide) (by decide) (by decide), Option.bind_some,
    show n_short_sets (4 : Int) (6 : Int) = some (W 4 6) from shorts_n (m := 4) (s := 6) (by decide) (by decide) (by decide) (by decide), Option.bind_some,
    show n_short_sets (3 : Int) (5 : Int) = some (W 3 5) from shorts_n (m := 3) (s := 5) (by decide) (by decide) (by decide) (by decide), Option.bind_some,
    show n_longest_hull (4 : Int) (8 : Int) = some (hul (W 4 8)) from longest_n (m := 4) (s := 8) (by decide) (by decide) (by decide) (by decide), Option.bind_some,
    show n_longest_hull (5 : Int) (11 : Int) = some (hul (W 5 11)) from longest_n (m := 5) (s := 11) (by decide) (by decide) (by decide) (by decide), Option.bind_some, h48, h511, w48, w47, w46, w35, fsame_of rfl, Option.bind_some, if_neg (by decide)]
  refine (congrArg (fun z => Option.bind z _) (forR_all (s := ()) fun x hx => ?_)).trans rfl
  simp only [List.mem_cons, List.not_mem_nil, or_false] at hx
  rcases hx with rfl | rfl | rfl | rfl | rfl | rfl
  · exact turn_n (m := 3) (by decide) (by decide) (by decide +kernel) (by decide +kernel) (by decide +kernel) (fun z => absurd z (by decide))
  · exact turn_n (m := 4) (by decide) (by decide) (by decide +kernel) (by decide +kernel) (by decide +kernel) (fun _ => ⟨[0, 1, 2, 4], [0, 2, 3, 4], by decide +kernel, by decide +kernel, by decide +kernel⟩)
  · exact turn_n (m := 5) (by decide) (by decide) (by decide +kernel) (by decide +kernel) (by decide +kernel) (fun _ => ⟨[0, 1, 2, 3, 5], [0, 2, 3, 4, 5], by decide +kernel, by decide +kernel, by decide +kernel⟩)
  · exact turn_n (m := 6) (by decide) (by decide) (by decide +kernel) (by decide +kernel) (by decide +kernel) (fun _ => ⟨[0, 1, 2, 3, 4, 6], [0, 2, 3, 4, 5, 6], by decide +kernel, by decide +kernel, by decide +kernel⟩)
  · exact turn_n (m := 7) (by decide) (by decide) (by decide +kernel) (by decide +kernel) (by decide +kernel) (fun _ => ⟨[0, 1, 2, 3, 4, 5, 7], [0, 2, 3, 4, 5, 6, 7], by decide +kernel, by decide +kernel, by decide +kernel⟩)
  · exact turn_n (m := 8) (by decide) (by decide) (by decide +kernel) (by decide +kernel) (by decide +kernel) (fun _ => ⟨[0, 1, 2, 3, 4, 5, 6, 8], [0, 2, 3, 4, 5, 6, 7, 8], by decide +kernel, by decide +kernel, by decide +kernel⟩)
theorem loop_n (cup : CupT) : ∃ c', forR (fun x4 (s5 : CupT) =>
      (froll s5 (x4 - (1 : Int))).bind fun t7 =>
      (n_law_right t7.2 x4 ((((2 : Int) * x4) - (2 : Int)) + t7.1)).bind fun t8 =>
      if (!t8.1) = true then
        (
        some (.inr false)
        )
      else
        (
        some (.inl t8.2)
        )
    ) ([(3 : Int), (4 : Int), (5 : Int), (6 : Int)] : (List Int)) cup = some (.inl c' : CupT ⊕ Bool) := by
  refine forR_ex (fun x hx s => ?_) cup
  obtain ⟨m, rfl, m3, m6⟩ : ∃ m : Nat, x = (m : Int) ∧ 3 ≤ m ∧ m ≤ 6 := by
    simp only [List.mem_cons, List.not_mem_nil, or_false] at hx
    rcases hx with rfl | rfl | rfl | rfl
    · exact ⟨3, rfl, by decide, by decide⟩
    · exact ⟨4, rfl, by decide, by decide⟩
    · exact ⟨5, rfl, by decide, by decide⟩
    · exact ⟨6, rfl, by decide, by decide⟩
  obtain ⟨v, c1, e1, hv⟩ := roll_ex s (m := m - 1) (by omega) (by omega)
  rw [show (m : Int) - 1 = ((m - 1 : Nat) : Int) by omega, e1, Option.bind_some]
  dsimp only
  rw [show (2 : Int) * (m : Int) - 2 + (v : Int) = ((2 * m - 2 + v : Nat) : Int) by omega]
  obtain ⟨c2, e2⟩ := right_n (m := m) (s := 2 * m - 2 + v) m3 (by omega) (by omega) (by omega) c1
  rw [e2, Option.bind_some]
  exact ⟨c2, rfl⟩
theorem law_n (ns : List Int) (hl : ns.length ≤ 63) : n_law ns = some true := by
  unfold n_law
  obtain ⟨cup, hcup⟩ : ∃ c, fcup ns = some c := ⟨_, by unfold fcup; rw [if_pos hl]⟩
  obtain ⟨c1, e1⟩ := loop_n cup
  rw [written_n, Option.bind_some, if_neg (by decide), hcup, Option.bind_some, e1, Option.bind_some]
  show Option.bind _ _ = _
  obtain ⟨u, c2, e2, hu⟩ := roll_ex c1 (m := 8) (by decide) (by decide)
  rw [show froll c1 (8 : Int) = some ((u : Int), c2) from e2, Option.bind_some]
  dsimp only
  obtain ⟨c3, e3⟩ : ∃ c3, (if (decide ((u : Int) = (0 : Int))) = true then ((froll c2 (5 : Int)).bind fun t15 => (n_law_right t15.2 (7 : Int) ((13 : Int) + t15.1)).bind fun t16 => some ((!t16.1), t16.2)) else (some (false, c2))) = some (false, c3) := by
    by_cases q : (u : Int) = 0
    · rw [if_pos (decide_eq_true q)]
      obtain ⟨v, d1, f1, hv⟩ := roll_ex c2 (m := 5) (by decide) (by decide)
      obtain ⟨d2, f2⟩ := right_n (m := 7) (s := 13 + v) (by decide) (by decide) (by omega) (by omega) d1
      rw [show froll c2 (5 : Int) = some ((v : Int), d1) from f1, Option.bind_some]
      dsimp only
      rw [show n_law_right d1 (7 : Int) ((13 : Int) + (v : Int)) = some (true, d2) from f2, Option.bind_some]
      exact ⟨d2, rfl⟩
    · rw [if_neg (by rw [decide_eq_false q]; decide)]
      exact ⟨c2, rfl⟩
  rw [e3, Option.bind_some]
  dsimp only
  rw [if_neg (by decide)]
  obtain ⟨y, c4, e4, hy⟩ := roll_ex c3 (m := 20) (by decide) (by decide)
  rw [show froll c3 (20 : Int) = some ((y : Int), c4) from e4, Option.bind_some]
  dsimp only
  obtain ⟨c5, e5⟩ : ∃ c5, (if (decide ((y : Int) = (0 : Int))) = true then ((froll c4 (6 : Int)).bind fun t23 => (n_law_right t23.2 (8 : Int) ((15 : Int) + t23.1)).bind fun t24 => some ((!t24.1), t24.2)) else (some (false, c4))) = some (false, c5) := by
    by_cases q : (y : Int) = 0
    · rw [if_pos (decide_eq_true q)]
      obtain ⟨v, d1, f1, hv⟩ := roll_ex c4 (m := 6) (by decide) (by decide)
      obtain ⟨d2, f2⟩ := right_n (m := 8) (s := 15 + v) (by decide) (by decide) (by omega) (by omega) d1
      rw [show froll c4 (6 : Int) = some ((v : Int), d1) from f1, Option.bind_some]
      dsimp only
      rw [show n_law_right d1 (8 : Int) ((15 : Int) + (v : Int)) = some (true, d2) from f2, Option.bind_some]
      exact ⟨d2, rfl⟩
    · rw [if_neg (by rw [decide_eq_false q]; decide)]
      exact ⟨c4, rfl⟩
  rw [e5, Option.bind_some, Option.bind_some]
  rfl
theorem hrun (ns : List Int) (hl : ns.length ≤ 63) : ∃ b os, run lim (dAt dl) 200 36 [.scr ns] = some ((.bl true, b), os) := ⟨_, _, g_law 186 (law_n ns hl)⟩
end Lw
namespace Lw
open PySem PySem.Spec PyProof.Rows L2 L2.Pz
abbrev R : PySem.W.OpenRow := PySem.W.OpenLaw.row PySem.Challenge.rw_setsadded_k06_whole_lists_of_short_sets
abbrev fa : List He.Fa := faOf nf
abbrev fn : List He.DefD := fnOf tl
abbrev hk : PySem.W.Hook := He.hookD 4 fa fn
def ob (s : PySem.W.SharedT) : He.AlD := He.obsDG 4 fa fn (HandSHeadRun.getT s)
def nms : List Str := (["SumError", "InvalidSet", "InvalidNumber", "MOST_basics", "GREATEST", "is_integer", "is_whole", "is_tuple_of", "is_rising", "divisor_of", "are_members", "fits_set", "need_set", "gathered", "sums_in", "sums_in_basics", "sum_in", "LEAST", "MOST_smallsums", "need_some", "hull_step", "normal_in", "sums_in_smallsums", "short_in", "inner_in", "need_few", "normal_set", "count_sums", "is_short", "short_sets"] : List Str) ++ (["longest_hull", "_law_cup", "_law_roll", "_law_some", "_law_sort", "_law_like", "_law_sum", "_law_divisor", "_law_step_of", "_law_lots", "_law_short", "_law_right", "_law_written"] : List Str)
theorem ob_eq (s : PySem.W.SharedT) : ob s = hk.obs s.abs := He.obsDG_eq (HandSHeadRun.getT_eq s)
theorem run_top (w : World) : HandSHeadRun.RunEq R (PySem.W.view R.prog [48]) hk ob 6000 nms w := by
  intro os
  kernel_rfl
theorem chk_all : chkAll nf tl dl = true := by decide +kernel
end Lw
open PySem PySem.W PySem.Calls PyProof.Rows
theorem PySem.Challenge.cw_setsadded_k06_whole_lists_of_short_sets_holds : PySem.Challenge.rw_setsadded_k06_whole_lists_of_short_sets.Holds := by
  w_on; o_law
  refine HandSHeadRun.head_any (r := Lw.R) (q := view Lw.R.prog [48]) (H := Lw.hk) (ob := Lw.ob) (M := 6000) (loose := Lw.nms) (d := HandSHeadRun.topDef Lw.R.prog 48) (kwd := []) Lw.ob_eq
    (by kernel_rfl) (fun s => by kernel_rfl) Lw.run_top (by kernel_rfl) (by kernel_rfl)
    (by kernel_rfl) (by rfl) (by first | assumption | decide +kernel) (by decide +kernel) ⟨rfl, rfl, rfl, rfl, rfl, by decide +kernel⟩ ?hw ?hc
  case hw => w_witness2
  case hc =>
    refine L2.walk_ofE (l := PySem.Challenge.rw_setsadded_k06_whole_lists_of_short_sets) (n := 63) (k := 200) (x := "script") (CX := L2.CX0) rfl (by decide) (by kernel_rfl) ⟨rfl, by decide, by decide⟩ ?F
      (fun _ _ _ _ z => z)
    intro w mg fa h Y G hmg0
    obtain ⟨K, KX, c⟩ := Y
    have hmg : mg ("law" : PySem.Str) = some (.ref fa) := by
      have e : (HandSHeadRun.topDef Lw.R.prog 48).name = ("law" : PySem.Str) := by kernel_rfl
      rw [← e]; exact hmg0
    exact L2.Pz.law_F (nf := Lw.nf) (tl := Lw.tl) (dl := Lw.dl) w KX G c Lw.chk_all (li := 36) rfl hmg rfl rfl Lw.hrun
