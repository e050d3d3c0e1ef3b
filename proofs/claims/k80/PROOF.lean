import PyProof.Rows.All
import Wide.All
import OpenK.AllK
import Wide.FinOn
import HandS.ForMost
import HandS.ForExc
import HandS.TupAny
import HandS.TupLe
import HandS.Deep
import HandS.SortOrd
import HandS.Wide
import HandS.SortInts
import HandS.IsInst
import HandS.Style
import HandS.CallSlots
import HandS.WordsExc
import HandS.SetFor
import HandS.More
import HandS.Text
import HandS.Small
import HandS.Rev
import HandS.Zip
import HandS.WideBits
import PySem.Challenge.RW_ringfell_k80_numbers_and_logs_written
set_option Elab.async false
set_option linter.all false
set_option maxRecDepth 100000
set_option autoImplicit false
/-! A plain semantics over lists and numbers, and what it has to do with the abstract heap. -/
namespace Rg
open PySem PySem.Spec PyProof.Rows L2

/-- plain data: tuples and lists by what they hold; ref l: the l-th changeable object; tl, td: a list, a dict just made, in no name yet -/
inductive Val where
  | non | bl (b : Bool) | int (i : Int) | str (s : Str)
  | tup (xs : List Val) | lst (xs : List Val) | dct (ks : List Key) (xs : List Val)
  | ref (l : Nat) | tl (xs : List Val) | td (ks : List Key) (xs : List Val)
  deriving Inhabited

inductive Ob where
  | lst (xs : List Val)
  | dct (kvs : List (Key × Val))
  deriving Inhabited

abbrev Hs := List Ob
abbrev Sl := List (Option Val)

/-- an exception: the name of its class, what it bears -/
structure Exn where
  cls : String
  at_ : Option Val

/-- what an expression gives; a statement; a function -/
inductive R (α : Type) where
  | ok (a : α) (h : Hs) | rz (x : Exn) (h : Hs) | no
inductive SR where
  | nx (r : Sl) (h : Hs) | rt (v : Val) (h : Hs) | bk (r : Sl) (h : Hs) | ct (r : Sl) (h : Hs) | rz (x : Exn) (r : Sl) (h : Hs) | no
abbrev EM := Sl → Hs → R Val
abbrev AM := Sl → Hs → R (List Val)
abbrev TM := Sl → Hs → R Bool
abbrev SM := Sl → Hs → SR
abbrev Fn := List Val → Hs → R Val

def Ex (H H' : Hp) : Prop := ∀ a o, H a = some o → H' a = some o
theorem Ex.refl (H : Hp) : Ex H H := fun _ _ h => h
theorem Ex.trans {H H1 H2 : Hp} (a : Ex H H1) (b : Ex H1 H2) : Ex H H2 := fun x o h => b x o (a x o h)
theorem Ex.none {H H' : Hp} (e : Ex H H') {a : Addr} (h : H' a = none) : H a = none := by
  cases q : H a with
  | none => rfl
  | some o => rw [e a o q] at h; cases h

/-! ### a value stands for data -/
/-- a list of the module's own -/
def KL (K : PySem.W.Frag) (a : Addr) (xs : List V) : Prop :=
  ∃ (o : Obj) (its : Array Value) (n : Nat), K.lookup a = some o ∧ o.cls = .type "list" ∧ o.dict = none ∧ o.data = .seq its n ∧ its.size ≤ sizeLine ∧ Vals xs its.toList
/-- a tuple of the module's own, its first item a text -/
def KT (K : PySem.W.Frag) (a : Addr) (xs : List V) (ds : List Val) : Prop := (∃ s r, ds = Val.str s :: r) ∧
  ∃ (o : Obj) (its : Array Value) (n : Nat), K.lookup a = some o ∧ o.cls = .type "tuple" ∧ o.data = .seq its n ∧ its.size ≤ sizeLine ∧ Vals xs its.toList
section
variable (K : PySem.W.Frag) (G : Hp) (m : List Addr)
mutual
def RV : Val → V → Prop
  | .non, v => v = .non
  | .bl b, v => v = .bl b
  | .int i, v => v = .int i
  | .str s, v => v = .str s
  | .tup ds, v => ∃ a xs, v = .ref a ∧ (G a = some (.tup xs) ∨ KT K a xs ds) ∧ xs.length ≤ sizeLine ∧ RVs ds xs
  | .lst ds, v => ∃ a xs, v = .ref a ∧ ((Rd G a (.lst xs) ∧ a ∉ m) ∨ KL K a xs) ∧ xs.length ≤ sizeLine ∧ RVs ds xs
  | .dct ks ds, v => ∃ a kvs, v = .ref a ∧ Rd G a (.dK kvs) ∧ a ∉ m ∧ kvs.length ≤ sizeLine ∧ kvs.map (·.1) = ks ∧ RVs ds (kvs.map (·.2))
  | .ref l, v => ∃ a, v = .ref a ∧ m[l]? = some a
  | .tl _, _ => False
  | .td _ _, _ => False
def RVs : List Val → List V → Prop
  | [], vs => vs = []
  | d :: ds, vs => ∃ x xs, vs = x :: xs ∧ RV d x ∧ RVs ds xs
end
end

/-- what may be changed -/
def isMut : HO → Prop
  | .lst _ => True
  | .dK _ => True
  | .dT _ => True
  | .ins _ _ _ => True
  | _ => False

def RO (K : PySem.W.Frag) (G : Hp) (m : List Addr) (a : Addr) : Ob → Prop
  | .lst ds => ∃ xs, G a = some (.lst xs) ∧ xs.length ≤ sizeLine ∧ RVs K G m ds xs
  | .dct kvs => ∃ kxs, G a = some (.dK kxs) ∧ kxs.length ≤ sizeLine ∧ kxs.map (·.1) = kvs.map (·.1) ∧ RVs K G m (kvs.map (·.2)) (kxs.map (·.2))

structure RH (K : PySem.W.Frag) (h : Hs) (m : List Addr) (G : Hp) : Prop where
  len : h.length = m.length
  nd : m.Nodup
  mu : ∀ a ∈ m, ∃ o, G a = some o ∧ isMut o
  ob : ∀ (l : Nat) (o : Ob) (a : Addr), h[l]? = some o → m[l]? = some a → RO K G m a o

def RS (K : PySem.W.Frag) (G : Hp) (m : List Addr) (r : Sl) (s : L2.St) : Prop :=
  r.length = s.length ∧ ∀ (i : Nat) (d : Val), r[i]? = some (some d) → ∃ v, s[i]? = some (some v) ∧ RV K G m d v

/-- what a step keeps: G the part of H that is spoken of, m the changeable objects -/
structure Kp (m : List Addr) (G H : Hp) (m' : List Addr) (G' H' : Hp) : Prop where
  h : ∀ a o, H a = some o → a ∉ m → H' a = some o
  g : ∀ a o, G a = some o → a ∉ m → G' a = some o
  p : ∀ a, G a = none → H a ≠ none → G' a = none
  pf : m <+: m'
  n : ∀ a ∈ m', a ∈ m ∨ H a = none
  e : Ex G' H'

section
variable {K : PySem.W.Frag} {G G1 G2 H H1 H2 : Hp} {m m1 m2 : List Addr} {h h1 : Hs}

theorem Kp.refl (e : Ex G H) : Kp m G H m G H := ⟨fun _ _ q _ => q, fun _ _ q _ => q, fun _ q _ => q, List.prefix_refl m, fun _ q => .inl q, e⟩

theorem RH.some (r : RH K h m G) {a : Addr} (i : a ∈ m) : G a ≠ none := by
  obtain ⟨o, e, _⟩ := r.mu a i
  rw [e]; exact fun z => nomatch z

theorem Kp.trans (x : Kp m G H m1 G1 H1) (y : Kp m1 G1 H1 m2 G2 H2) (e : Ex G H) (r : RH K h m G) : Kp m G H m2 G2 H2 := by
  have nin : ∀ a, H a ≠ none → a ∉ m → a ∉ m1 := fun a q n i => (x.n a i).elim n fun z => q z
  refine ⟨fun a o q n => y.h a o (x.h a o q n) (nin a (by rw [q]; exact fun z => nomatch z) n), fun a o q n => y.g a o (x.g a o q n) (nin a (by rw [e a o q]; exact fun z => nomatch z) n), fun a q z => ?_, x.pf.trans y.pf, fun a i => ?_, y.e⟩
  · have n : a ∉ m := fun i => r.some i q
    refine y.p a (x.p a q z) ?_
    cases w : H a with
    | none => exact absurd w z
    | some o => rw [x.h a o w n]; exact fun z => nomatch z
  · rcases y.n a i with j | j
    · exact x.n a j
    · by_cases n : a ∈ m
      · exact .inl n
      · refine .inr ?_
        cases w : H a with
        | none => rfl
        | some o => rw [x.h a o w n] at j; cases j

theorem prefix_get {α : Type} {l l' : List α} (p : l <+: l') {i : Nat} {x : α} (h : l[i]? = some x) : l'[i]? = some x := by
  obtain ⟨t, rfl⟩ := p
  have := (List.getElem?_eq_some_iff.mp h).1
  rw [List.getElem?_append_left this]
  exact h

/-- what stays of what is spoken of: tuples; all that isn't changeable -/
structure Sty (m : List Addr) (G : Hp) (m' : List Addr) (G' : Hp) : Prop where
  g : ∀ a o, G a = some o → a ∉ m → G' a = some o
  mu : ∀ a ∈ m, ∃ o, G a = some o ∧ isMut o
  pf : m <+: m'
  n : ∀ a, G a ≠ none → a ∈ m' → a ∈ m

theorem Kp.sty (x : Kp m G H m1 G1 H1) (e : Ex G H) (r : RH K h m G) : Sty m G m1 G1 :=
  ⟨x.g, r.mu, x.pf, fun a q i => (x.n a i).elim id fun z => absurd (Ex.none e z) q⟩

theorem Sty.rd (x : Sty m G m1 G1) {a : Addr} {o : HO} (h : Rd G a o) (n : a ∉ m) : Rd G1 a o := by
  rcases h with q | ⟨b, q⟩
  · exact .inl (x.g a _ q n)
  · exact .inr ⟨b, x.g a _ q n⟩

theorem Sty.tup (x : Sty m G m1 G1) {a : Addr} {xs : List V} (h : G a = some (.tup xs)) : G1 a = some (.tup xs) := x.g a _ h fun i => by
  obtain ⟨o, e, w⟩ := x.mu a i
  rw [e] at h; cases h; exact w

theorem Sty.sql (x : Sty m G m1 G1) {a : Addr} {xs : List V} (h : SqL K G a xs) (n : a ∉ m) : SqL K G1 a xs := by
  rcases h with q | q
  · exact .inl (x.rd q n)
  · exact .inr q

mutual
theorem RV.stay (x : Sty m G m1 G1) : ∀ {d : Val} {v : V}, RV K G m d v → RV K G1 m1 d v
  | .non, _, q => q
  | .bl _, _, q => q
  | .int _, _, q => q
  | .str _, _, q => q
  | .tup ds, v, ⟨a, xs, e, t, z, q⟩ => ⟨a, xs, e, t.imp x.tup id, z, RVs.stay x q⟩
  | .lst ds, v, ⟨a, xs, e, t, z, q⟩ => ⟨a, xs, e, by
      rcases t with ⟨t, n⟩ | t
      · refine .inl ⟨x.rd t n, fun i => ?_⟩
        rcases t with t | ⟨o, t⟩
        · exact n (x.n a (by rw [t]; exact fun z => nomatch z) i)
        · exact n (x.n a (by rw [t]; exact fun z => nomatch z) i)
      · exact .inr t, z, RVs.stay x q⟩
  | .dct ks ds, v, ⟨a, kvs, e, t, n, z, k, q⟩ => ⟨a, kvs, e, x.rd t n, fun i => by
      rcases t with t | ⟨o, t⟩
      · exact n (x.n a (by rw [t]; exact fun z => nomatch z) i)
      · exact n (x.n a (by rw [t]; exact fun z => nomatch z) i), z, k, RVs.stay x q⟩
  | .ref l, v, ⟨a, e, q⟩ => ⟨a, e, prefix_get x.pf q⟩
theorem RVs.stay (x : Sty m G m1 G1) : ∀ {ds : List Val} {vs : List V}, RVs K G m ds vs → RVs K G1 m1 ds vs
  | [], _, q => q
  | d :: ds, _, ⟨v, vs, e, a, b⟩ => ⟨v, vs, e, RV.stay x a, RVs.stay x b⟩
end
end
end Rg
namespace Rg
open PySem PySem.Spec PyProof.Rows L2

/-! ### what an expression hands on -/
def RP (K : PySem.W.Frag) (G : Hp) (m : List Addr) (H : Hp) : Val → V → Prop
  | .tl ds, v => ∃ a xs, v = .ref a ∧ H a = some (.lst xs) ∧ G a = none ∧ xs.length ≤ sizeLine ∧ RVs K G m ds xs
  | .td ks ds, v => ∃ a kvs, v = .ref a ∧ H a = some (.dK kvs) ∧ G a = none ∧ kvs.length ≤ sizeLine ∧ kvs.map (·.1) = ks ∧ RVs K G m ds (kvs.map (·.2))
  | d, v => RV K G m d v
/-- what was just made is new -/
def Fsh (H : Hp) : Val → V → Prop
  | .tl _, v => ∀ a, v = .ref a → H a = none
  | .td _ _, v => ∀ a, v = .ref a → H a = none
  | _, _ => True
def RPs (K : PySem.W.Frag) (G : Hp) (m : List Addr) (H : Hp) : List Val → List V → Prop
  | [], vs => vs = []
  | d :: ds, vs => ∃ x xs, vs = x :: xs ∧ RV K G m d x ∧ RPs K G m H ds xs

def isTmp : Val → Bool
  | .tl _ => true
  | .td _ _ => true
  | _ => false
theorem RP.rv {K : PySem.W.Frag} {G : Hp} {m : List Addr} {H : Hp} {d : Val} {v : V} (h : RP K G m H d v) (t : isTmp d = false) : RV K G m d v := by
  cases d <;> first | exact h | cases t
theorem RV.rp {K : PySem.W.Frag} {G : Hp} {m : List Addr} {H : Hp} {d : Val} {v : V} (h : RV K G m d v) : RP K G m H d v := by
  cases d <;> first | exact h | exact (h : False).elim
theorem RV.fsh {K : PySem.W.Frag} {G : Hp} {m : List Addr} {H : Hp} {d : Val} {v : V} (h : RV K G m d v) : Fsh H d v := by
  cases d <;> first | trivial | exact (h : False).elim

/-! ### exceptions -/
def RX (K : PySem.W.Frag) (mg : Str → Option Value) (G : Hp) (m : List Addr) (H : Hp) (e : Exn) (c : Value) (d : Option Addr) : Prop :=
  mg (PySem.Str.ofString e.cls) = some c ∧ (∃ C, c = .ref C) ∧
  match e.at_ with
  | none => d = none
  | some x => ∃ a v, d = some a ∧ G a = some (.xd [(("at" : Str), v)]) ∧ RV K G m x v

section
variable (K : PySem.W.Frag) (mg : Str → Option Value) (W : WX)
structure At (r : Sl) (h : Hs) (m : List Addr) (G : Hp) (s : L2.St) (H : Hp) : Prop where
  s : RS K G m r s
  h : RH K h m G
  e : Ex G H
/-- what must hold of an outcome, from m, G, H on -/
def Out {α β : Type} (rel : List Addr → Hp → Hp → Hp → α → β → Prop) (s : L2.St) (m : List Addr) (G H : Hp) (Q : β → Hp → Prop) : R α → Prop
  | .ok d h' => ∀ m' G' H' v, Kp m G H m' G' H' → RH K h' m' G' → rel m' G' H H' d v → Q v H'
  | .rz e h' => ∀ m' G' H' c dd, Kp m G H m' G' H' → RH K h' m' G' → RX K mg G' m' H' e c dd → W c dd s H'
  | .no => False
def relV (m' : List Addr) (G' H H' : Hp) (d : Val) (v : V) : Prop := RP K G' m' H' d v ∧ Fsh H d v
def relA (m' : List Addr) (G' H H' : Hp) (ds : List Val) (vs : List V) : Prop := RVs K G' m' ds vs
def tM {α β : Type} (rel : List Addr → Hp → Hp → Hp → α → β → Prop) (x : Sl → Hs → R α) (s : L2.St) (H : Hp) (Q : β → Hp → Prop) : Prop :=
  ∃ r h m G, At K r h m G s H ∧ Out K mg W rel s m G H Q (x r h)
def tE (x : EM) : TE := tM K mg W (relV K) x
def tA (x : AM) : TA := tM K mg W (relA K) x
end

section
variable {K : PySem.W.Frag} {mg : Str → Option Value} {W : WX} {G G1 G2 H H1 H2 : Hp} {m m1 m2 : List Addr} {h h1 : Hs} {r : Sl} {s : L2.St}

theorem Kp.fresh (x : Kp m G H m1 G1 H1) (rh : RH K h m G) (rh1 : RH K h1 m1 G1) {a : Addr} (q : H1 a = Option.none) : H a = Option.none := by
  cases w : H a with
  | none => rfl
  | some o =>
    by_cases i : a ∈ m
    · have j : a ∈ m1 := x.pf.subset i
      obtain ⟨o', e, _⟩ := rh1.mu a j
      rw [x.e a o' e] at q; cases q
    · rw [x.h a o w i] at q; cases q

theorem At.kp (x : At K r h m G s H) (k : Kp m G H m1 G1 H1) (rh : RH K h1 m1 G1) : At K r h1 m1 G1 s H1 :=
  ⟨⟨x.s.1, fun i d e => by
    obtain ⟨v, q, z⟩ := x.s.2 i d e
    exact ⟨v, q, RV.stay (k.sty x.e x.h) z⟩⟩, rh, k.e⟩

theorem RP.stay (k : Kp m G H m1 G1 H1) (e : Ex G H) (rh : RH K h m G) {d : Val} {v : V} (q : RP K G m H d v) : RP K G1 m1 H1 d v := by
  have st := k.sty e rh
  have nin : ∀ a, G a = none → a ∉ m := fun a z i => rh.some i z
  cases d with
  | tl ds =>
    obtain ⟨a, xs, rfl, e1, e2, z, q⟩ := q
    exact ⟨a, xs, rfl, k.h a _ e1 (nin a e2), k.p a e2 (by rw [e1]; exact fun z => nomatch z), z, RVs.stay st q⟩
  | td ks ds =>
    obtain ⟨a, xs, rfl, e1, e2, z, y, q⟩ := q
    exact ⟨a, xs, rfl, k.h a _ e1 (nin a e2), k.p a e2 (by rw [e1]; exact fun z => nomatch z), z, y, RVs.stay st q⟩
  | _ => exact RV.rp (RV.stay st (RP.rv q rfl))

theorem Fsh.back (f : ∀ a, H1 a = Option.none → H a = Option.none) {d : Val} {v : V} (q : Fsh H1 d v) : Fsh H d v := by
  cases d <;> first | trivial | exact fun a e => f a (q a e)

/-- an outcome wanted from the start is wanted from later on -/
def Mono {α β : Type} (rel : List Addr → Hp → Hp → Hp → α → β → Prop) : Prop :=
  ∀ m' G' H0 H1 H' a b, (∀ a, H1 a = Option.none → H0 a = Option.none) → rel m' G' H1 H' a b → rel m' G' H0 H' a b
theorem mono_V : Mono (relV K) := fun _ _ _ _ _ _ _ f q => ⟨q.1, Fsh.back f q.2⟩
theorem mono_A : Mono (relA K) := fun _ _ _ _ _ _ _ _ q => q
theorem Out.shift {α β : Type} {rel : List Addr → Hp → Hp → Hp → α → β → Prop} (mo : Mono rel) {Q : β → Hp → Prop} {x : R α} (o : Out K mg W rel s m G H Q x)
    (k : Kp m G H m1 G1 H1) (e : Ex G H) (rh : RH K h m G) (rh1 : RH K h1 m1 G1) : Out K mg W rel s m1 G1 H1 Q x := by
  cases x with
  | no => exact o
  | ok d h' => exact fun m' G' H' v k' rh' rl => o m' G' H' v (k.trans k' e rh) rh' (mo _ _ _ _ _ _ _ (fun a q => k.fresh rh rh1 q) rl)
  | rz x h' => exact fun m' G' H' c dd k' rh' rx => o m' G' H' c dd (k.trans k' e rh) rh' rx

def R.bind {α β : Type} (x : R α) (k : α → Hs → R β) : R β :=
  match x with
  | .ok a h => k a h
  | .rz e h => .rz e h
  | .no => .no

/-- one step: x, then k -/
theorem step {α β γ δ : Type} {rel : List Addr → Hp → Hp → Hp → α → β → Prop} {rel2 : List Addr → Hp → Hp → Hp → γ → δ → Prop} (mo : Mono rel2) {x : Sl → Hs → R α} {k : α → Hs → R γ} {Q : δ → Hp → Prop} {Q1 : β → Hp → Prop}
    (a : At K r h m G s H) (o : Out K mg W rel2 s m G H Q ((x r h).bind k))
    (n : ∀ d h1 m1 G1 H1 v, At K r h1 m1 G1 s H1 → Kp m G H m1 G1 H1 → rel m1 G1 H H1 d v → Out K mg W rel2 s m1 G1 H1 Q (k d h1) → Q1 v H1) : tM K mg W rel x s H Q1 := by
  refine ⟨r, h, m, G, a, ?_⟩
  cases e : x r h with
  | no => rw [e] at o; exact o
  | rz y h' => rw [e] at o; exact o
  | ok d h' =>
    rw [e] at o
    intro m' G' H' v kp rh rl
    exact n d h' m' G' H' v (a.kp kp rh) kp rl (Out.shift mo o kp a.e a.h rh)
/-- the last step -/
theorem last {α β : Type} {rel : List Addr → Hp → Hp → Hp → α → β → Prop} {x : Sl → Hs → R α} {Q : β → Hp → Prop}
    (a : At K r h m G s H) (o : Out K mg W rel s m G H Q (x r h)) : tM K mg W rel x s H Q := ⟨r, h, m, G, a, o⟩
/-- an answer, nothing changed -/
theorem Out.same {α β : Type} {rel : List Addr → Hp → Hp → Hp → α → β → Prop} {Q : β → Hp → Prop} {d : α} {v : β} (a : At K r h m G s H) (o : Out K mg W rel s m G H Q (.ok d h)) (q : rel m G H H d v) : Q v H :=
  o m G H v (Kp.refl a.e) a.h q
theorem Out.sameV {Q : VK} {d : Val} {v : V} (a : At K r h m G s H) (o : Out K mg W (relV K) s m G H Q (.ok d h)) (q : RV K G m d v) : Q v H :=
  o.same a ⟨q.rp, q.fsh⟩
/-- a new object, spoken of -/
theorem kp_new {a : Addr} {o : HO} (e : Ex G H) (hn : H a = Option.none) : Kp m G H m (upd G a o) (upd H a o) := by
  have gn := Ex.none e hn
  refine ⟨fun b x q _ => ?_, fun b x q _ => ?_, fun b q z => ?_, List.prefix_refl m, fun _ q => .inl q, fun b x q => ?_⟩
  · rw [upd_ne (ne_of_none q hn)]; exact q
  · rw [upd_ne (ne_of_none q gn)]; exact q
  · have : b ≠ a := fun w => by rw [w] at z; exact z hn
    rw [upd_ne this]; exact q
  · by_cases w : b = a
    · subst w; rw [upd_same] at q ⊢; exact q
    · rw [upd_ne w] at q ⊢; exact e b x q
theorem sty_new {a : Addr} {o : HO} (rh : RH K h m G) (gn : G a = Option.none) : Sty m G m (upd G a o) :=
  ⟨fun b x q _ => by rw [upd_ne (ne_of_none q gn)]; exact q, rh.mu, List.prefix_refl m, fun _ _ i => i⟩
theorem RO.stay (st : Sty m G m1 G1) {a : Addr} (n : G1 a = G a) {o : Ob} (q : RO K G m a o) : RO K G1 m1 a o := by
  cases o with
  | lst ds =>
    obtain ⟨xs, e, z, q⟩ := q
    exact ⟨xs, n.trans e, z, RVs.stay st q⟩
  | dct kvs =>
    obtain ⟨xs, e, z, y, q⟩ := q
    exact ⟨xs, n.trans e, z, y, RVs.stay st q⟩
theorem RH.new {a : Addr} {o : HO} (rh : RH K h m G) (gn : G a = Option.none) : RH K h m (upd G a o) := by
  have ne : ∀ b ∈ m, b ≠ a := fun b i w => by subst w; exact rh.some i gn
  refine ⟨rh.len, rh.nd, fun b i => ?_, fun l ob b e1 e2 => ?_⟩
  · obtain ⟨u, e, mu⟩ := rh.mu b i
    exact ⟨u, by rw [upd_ne (ne b i)]; exact e, mu⟩
  · have i : b ∈ m := List.mem_of_getElem? e2
    exact RO.stay (sty_new rh gn) (upd_ne (ne b i)) (rh.ob l ob b e1 e2)
/-- a new object, not spoken of -/
theorem kp_tmp {a : Addr} {o : HO} (e : Ex G H) (hn : H a = Option.none) : Kp m G H m G (upd H a o) := by
  have gn := Ex.none e hn
  refine ⟨fun b x q _ => ?_, fun b x q _ => q, fun b q z => q, List.prefix_refl m, fun _ q => .inl q, fun b x q => ?_⟩
  · rw [upd_ne (ne_of_none q hn)]; exact q
  · rw [upd_ne (ne_of_none q gn)]; exact e b x q
end
end Rg
namespace Rg
open PySem PySem.Spec PyProof.Rows L2

/-! ### small things about RVs -/
section
variable {K : PySem.W.Frag} {G : Hp} {m : List Addr}
theorem RVs.length : ∀ {ds : List Val} {xs : List V}, RVs K G m ds xs → ds.length = xs.length
  | [], _, q => by rw [show _ = [] from q]; rfl
  | d :: ds, _, ⟨x, xs, e, _, q⟩ => by rw [e]; simp [RVs.length q]
theorem RVs.get : ∀ {ds : List Val} {xs : List V} {i : Nat} {d : Val}, RVs K G m ds xs → ds[i]? = some d → ∃ x, xs[i]? = some x ∧ RV K G m d x
  | [], _, _, _, _, h => by simp at h
  | d :: ds, _, 0, d', ⟨x, xs, e, a, _⟩, h => by
    have h' : d = d' := by simpa using h
    subst h'; subst e; exact ⟨x, rfl, a⟩
  | d :: ds, _, i + 1, d', ⟨x, xs, e, _, b⟩, h => by
    subst e
    obtain ⟨y, h1, h2⟩ := RVs.get (i := i) (d := d') b (by simpa using h)
    exact ⟨y, by simpa using h1, h2⟩
theorem RVs.tag : ∀ {ds : List Val} {xs : List V} {i : Nat} {x : V}, RVs K G m ds xs → xs[i]? = some x → ∃ d, ds[i]? = some d ∧ RV K G m d x
  | [], _, _, _, q, h => by rw [show _ = [] from q] at h; simp at h
  | d :: ds, _, 0, x', ⟨x, xs, e, a, _⟩, h => by
    subst e
    have h' : x = x' := by simpa using h
    subst h'; exact ⟨d, rfl, a⟩
  | d :: ds, _, i + 1, x', ⟨x, xs, e, _, b⟩, h => by
    subst e
    obtain ⟨y, h1, h2⟩ := RVs.tag (i := i) (x := x') b (by simpa using h)
    exact ⟨y, by simpa using h1, h2⟩
theorem RVs.append : ∀ {ds es : List Val} {xs ys : List V}, RVs K G m ds xs → RVs K G m es ys → RVs K G m (ds ++ es) (xs ++ ys)
  | [], _, _, _, q, q' => by rw [show _ = [] from q]; exact q'
  | d :: ds, _, _, _, ⟨x, xs, e, a, b⟩, q' => ⟨x, xs ++ _, by rw [e]; rfl, a, RVs.append b q'⟩
theorem RVs.take : ∀ {ds : List Val} {xs : List V} (n : Nat), RVs K G m ds xs → RVs K G m (ds.take n) (xs.take n)
  | [], _, n, q => by rw [show _ = [] from q]; simp; exact (rfl : ([] : List V) = [])
  | d :: ds, _, 0, _ => (rfl : ([] : List V) = [])
  | d :: ds, _, n + 1, ⟨x, xs, e, a, b⟩ => ⟨x, xs.take n, by rw [e]; rfl, a, RVs.take n b⟩
theorem RVs.drop : ∀ {ds : List Val} {xs : List V} (n : Nat), RVs K G m ds xs → RVs K G m (ds.drop n) (xs.drop n)
  | [], _, n, q => by rw [show _ = [] from q]; simp; exact (rfl : ([] : List V) = [])
  | d :: ds, _, 0, q => q
  | d :: ds, _, n + 1, ⟨x, xs, e, a, b⟩ => by rw [e]; exact RVs.drop n b
theorem RVs.set : ∀ {ds : List Val} {xs : List V} {d : Val} {x : V} (i : Nat), RVs K G m ds xs → RV K G m d x → RVs K G m (ds.set i d) (xs.set i x)
  | [], _, _, _, i, q, _ => by rw [show _ = [] from q]; simp; exact (rfl : ([] : List V) = [])
  | d :: ds, _, d', x', 0, ⟨x, xs, e, a, b⟩, q => ⟨x', xs, by rw [e]; rfl, q, b⟩
  | d :: ds, _, d', x', i + 1, ⟨x, xs, e, a, b⟩, q => ⟨x, xs.set i x', by rw [e]; rfl, a, RVs.set i b q⟩
theorem RVs.cut {ds : List Val} {xs : List V} (lo hi : Option Int) (q : RVs K G m ds xs) :
    RVs K G m ((ds.drop (HT.sIx ds.length 0 lo)).take (HT.sIx ds.length ds.length hi - HT.sIx ds.length 0 lo)) (cutV xs lo hi) := by
  rw [q.length]; exact RVs.take _ (RVs.drop _ q)
theorem RVs.ints : ∀ {ns : List Int} {xs : List V}, RVs K G m (ns.map Val.int) xs → xs = ns.map V.int
  | [], _, q => q
  | n :: ns, _, ⟨x, xs, e, a, b⟩ => by rw [e, show x = V.int n from a, RVs.ints b]; rfl
theorem RVs.bls : ∀ {ns : List Bool} {xs : List V}, RVs K G m (ns.map Val.bl) xs → xs = ns.map V.bl
  | [], _, q => q
  | n :: ns, _, ⟨x, xs, e, a, b⟩ => by rw [e, show x = V.bl n from a, RVs.bls b]; rfl
theorem RVs.strs : ∀ {ns : List Str} {xs : List V}, RVs K G m (ns.map Val.str) xs → xs = ns.map V.str
  | [], _, q => q
  | n :: ns, _, ⟨x, xs, e, a, b⟩ => by rw [e, show x = V.str n from a, RVs.strs b]; rfl
theorem rvs_ints : ∀ {ns : List Int}, RVs K G m (ns.map Val.int) (ns.map V.int)
  | [] => rfl
  | n :: ns => ⟨_, _, rfl, rfl, rvs_ints⟩
theorem rvs_strs : ∀ {ns : List Str}, RVs K G m (ns.map Val.str) (ns.map V.str)
  | [] => rfl
  | n :: ns => ⟨_, _, rfl, rfl, rvs_strs⟩
end

/-! ### data as lists -/
/-- the items of a list -/
def asL (h : Hs) : Val → Option (List Val)
  | .lst ds => some ds
  | .tl ds => some ds
  | .ref l => match h[l]? with
    | some (.lst ds) => some ds
    | _ => none
  | _ => none
/-- the items of a tuple -/
def asT : Val → Option (List Val)
  | .tup ds => some ds
  | _ => none
/-- of either -/
def asQ (h : Hs) (d : Val) : Option (List Val) := match asL h d with
  | some ds => some ds
  | none => asT d

section
variable {K : PySem.W.Frag} {mg : Str → Option Value} {W : WX} {G H : Hp} {m : List Addr} {h : Hs} {r : Sl} {s : L2.St} {d : Val} {v : V} {ds : List Val}
theorem ex_rd {H H' : Hp} {a : Addr} {u : HO} (e : Ex H H') (h : Rd H a u) : Rd H' a u := by
  rcases h with h | ⟨o, h⟩
  · exact .inl (e a _ h)
  · exact .inr ⟨o, e a _ h⟩
theorem ex_l {H H' : Hp} {a : Addr} {xs : List V} (e : Ex H H') (h : SqL K H a xs) : SqL K H' a xs := by
  rcases h with h | h
  · exact .inl (ex_rd e h)
  · exact .inr h
theorem ex_t {H H' : Hp} {a : Addr} {xs : List V} (e : Ex H H') (h : SqT K H a xs) : SqT K H' a xs := by
  rcases h with h | h
  · exact .inl (ex_rd e h)
  · exact .inr h
theorem asL_ok (a : At K r h m G s H) (q : RP K G m H d v) (e : asL h d = some ds) : ∃ p xs, v = .ref p ∧ SqL K H p xs ∧ xs.length ≤ sizeLine ∧ RVs K G m ds xs := by
  cases d with
  | lst es =>
    cases e
    obtain ⟨p, xs, ev, t, z, w⟩ := q
    refine ⟨p, xs, ev, ?_, z, w⟩
    rcases t with ⟨t, _⟩ | t
    · exact .inl (ex_rd a.e t)
    · exact .inr t
  | tl es =>
    cases e
    obtain ⟨p, xs, ev, t, _, z, w⟩ := q
    exact ⟨p, xs, ev, .inl (.inl t), z, w⟩
  | ref l =>
    obtain ⟨p, ev, i⟩ := q
    unfold asL at e
    dsimp only at e
    cases o : h[l]? with
    | none => rw [o] at e; cases e
    | some ob =>
      rw [o] at e
      cases ob with
      | dct _ => cases e
      | lst es =>
        cases e
        obtain ⟨xs, e1, z, w⟩ := a.h.ob l _ p o i
        exact ⟨p, xs, ev, .inl (.inl (a.e _ _ e1)), z, w⟩
  | _ => cases e
theorem asT_ok (a : At K r h m G s H) (q : RP K G m H d v) (e : asT d = some ds) : ∃ p xs, v = .ref p ∧ SqT K H p xs ∧ xs.length ≤ sizeLine ∧ RVs K G m ds xs := by
  cases d with
  | tup es =>
    cases e
    obtain ⟨p, xs, ev, t, z, w⟩ := q
    refine ⟨p, xs, ev, ?_, z, w⟩
    rcases t with t | ⟨_, t⟩
    · exact .of (a.e _ _ t)
    · exact .inr t
  | _ => cases e
theorem asQ_ok (a : At K r h m G s H) (q : RP K G m H d v) (e : asQ h d = some ds) : ∃ p xs, v = .ref p ∧ (SqL K H p xs ∨ SqT K H p xs) ∧ xs.length ≤ sizeLine ∧ RVs K G m ds xs := by
  unfold asQ at e
  cases o : asL h d with
  | some es =>
    rw [o] at e; cases e
    obtain ⟨p, xs, ev, t, z, w⟩ := asL_ok a q o
    exact ⟨p, xs, ev, .inl t, z, w⟩
  | none =>
    rw [o] at e
    obtain ⟨p, xs, ev, t, z, w⟩ := asT_ok a q e
    exact ⟨p, xs, ev, .inr t, z, w⟩
end

/-! ### expressions -/
theorem _root_.L2.PE.imp {X : Cx} {e : Expr} {t t' : TE} (p : PE X e t) (i : ∀ s H Q, t' s H Q → t s H Q) : PE X e t' := ⟨fun pins s σ H Q I q => p.run pins s σ H Q I (i _ _ _ q)⟩
structure SE (X : Cx) (e : Expr) (x : EM) : Prop where
  run : ∀ W, Takes X W → PE X e (tE X.K X.mg W x)

def vM (i : Nat) : EM := fun r h => match r[i]? with
  | some (some d) => .ok d h
  | _ => .no
def cM (d : Val) : EM := fun _ h => .ok d h
def op1 (f : Hs → Val → R Val) (x : EM) : EM := fun r h => (x r h).bind f'
  where f' := fun a h1 => f h1 a
def op2 (f : Hs → Val → Val → R Val) (x y : EM) : EM := fun r h => (x r h).bind fun a h1 => (y r h1).bind fun b h2 => f h2 a b

/-- an operation on values, told by f -/
def P1 (K : PySem.W.Frag) (mg : Str → Option Value) (t : V → Hp → VK → Prop) (f : Hs → Val → R Val) : Prop :=
  ∀ W r h m G s H a v Q, At K r h m G s H → RP K G m H a v → Out K mg W (relV K) s m G H Q (f h a) → t v H Q
def P2 (K : PySem.W.Frag) (mg : Str → Option Value) (t : R2) (f : Hs → Val → Val → R Val) : Prop :=
  ∀ W r h m G s H a v b u Q, At K r h m G s H → RP K G m H a v → RP K G m H b u → Out K mg W (relV K) s m G H Q (f h a b) → t v u H Q

section
variable {X : Cx} {e a b : Expr} {x y : EM} {pos : Pos}
theorem se_var (i : Nat) {n : Str} (hN : X.N[i]? = some n := by rfl) (hv : Vis X.env.scope n := by first | exact Or.inl rfl | exact Or.inr (Or.inl rfl) | exact Or.inr (Or.inr rfl)) (hd : (n == ("__debug__" : Str)) = false := by decide)
    (hcd : (n == ("__classdict__" : Str)) = false := by decide) : SE X (.Name n pos) (vM i) := ⟨fun W _ => (pe_var hN hv hd hcd).imp fun s H Q ⟨r, h, m, G, a, o⟩ => by
  unfold vM at o
  cases q : r[i]? with
  | none => rw [q] at o; exact o.elim
  | some z =>
    cases z with
    | none => rw [q] at o; exact o.elim
    | some d =>
      rw [q] at o
      obtain ⟨v, e1, e2⟩ := a.s.2 i d q
      exact ⟨v, e1, o.sameV a e2⟩⟩
theorem se_c {e : Expr} {d : Val} {v : V} (p : PE X e (tC v)) (q : ∀ K G m, RV K G m d v) : SE X e (cM d) := ⟨fun W _ => p.imp fun s H Q ⟨r, h, m, G, a, o⟩ => o.sameV a (q _ _ _)⟩
theorem se_int {i j} : SE X (.Constant (.int i) j pos) (cM (.int i)) := se_c pe_int fun _ _ _ => rfl
theorem se_bl {i j} : SE X (.Constant (.bool i) j pos) (cM (.bl i)) := se_c pe_bl fun _ _ _ => rfl
theorem se_non {j} : SE X (.Constant .none j pos) (cM .non) := se_c pe_non fun _ _ _ => rfl
theorem se_str {i j} : SE X (.Constant (.str i) j pos) (cM (.str i)) := se_c pe_str fun _ _ _ => rfl
/-- a module's constant -/
theorem se_glob {n : Str} {d : Val} {v : V} {u : Value} (q : ∀ K G m, RV K G m d v) (hg : Gl X n) (hm : X.mg n = some u) (r : RelV v u) (hd : (n == ("__debug__" : Str)) = false := by decide) : SE X (.Name n pos) (cM d) := se_c (pe_glob hg hm r hd) q

theorem tE_op2 {K : PySem.W.Frag} {mg : Str → Option Value} {W : WX} {t : R2} {f : Hs → Val → Val → R Val} (p : P2 K mg t f) {s : L2.St} {H : Hp} {Q : VK} (q : tE K mg W (op2 f x y) s H Q) :
    tE K mg W x s H fun v H1 => tE K mg W y s H1 fun u H2 => t v u H2 Q := by
  obtain ⟨r, h, m, G, a, o⟩ := q
  refine step mono_V a o fun d h1 m1 G1 H1 v a1 k1 ⟨rl, _⟩ o1 => ?_
  refine step mono_V a1 o1 fun d2 h2 m2 G2 H2 u a2 k2 ⟨rl2, _⟩ o2 => ?_
  exact p W r h2 m2 G2 s H2 d v d2 u Q a2 (RP.stay k2 a1.e a1.h rl) rl2 o2
theorem tE_op1 {K : PySem.W.Frag} {mg : Str → Option Value} {W : WX} {t : V → Hp → VK → Prop} {f : Hs → Val → R Val} (p : P1 K mg t f) {s : L2.St} {H : Hp} {Q : VK} (q : tE K mg W (op1 f x) s H Q) :
    tE K mg W x s H fun v H1 => t v H1 Q := by
  obtain ⟨r, h, m, G, a, o⟩ := q
  exact step mono_V a o fun d h1 m1 G1 H1 v a1 k1 ⟨rl, _⟩ o1 => p W r h1 m1 G1 s H1 d v Q a1 rl o1

/-- a + b and its kin -/
theorem se_op {op : Operator} {t : R2} {f : Hs → Val → Val → R Val} (ho : OpR X (binaryOp op) t) (p : P2 X.K X.mg t f) (ha : SE X a x) (hb : SE X b y) : SE X (.BinOp a op b pos) (op2 f x y) :=
  ⟨fun W tk => (pe_op ho (ha.run W tk) (hb.run W tk)).imp fun _ _ _ q => tE_op2 p q⟩
theorem se_cmp {op : CmpOp} {t : R2} {f : Hs → Val → Val → R Val} (ho : OpR X (compareOp op) t) (p : P2 X.K X.mg t f) (ha : SE X a x) (hb : SE X b y) (hm : behindInMarks op b = false := by first | exact nomark _ | rfl) : SE X (.Compare a [op] [b] pos) (op2 f x y) :=
  ⟨fun W tk => (pe_cmpR ho (ha.run W tk) (hb.run W tk) hm).imp fun _ _ _ q => tE_op2 p q⟩
theorem se_ix {t : R2} {f : Hs → Val → Val → R Val} (ho : IxR X t) (p : P2 X.K X.mg t f) (ha : SE X a x) (hb : SE X b y) (hs : PlainIx b := by exact fun _ _ => rfl) : SE X (.Subscript a b pos) (op2 f x y) :=
  ⟨fun W tk => (pe_ix ho (ha.run W tk) (hb.run W tk) hs).imp fun _ _ _ q => tE_op2 p q⟩
theorem se_un {op : UnaryOp} {t : V → Hp → VK → Prop} {f : Hs → Val → R Val} (ho : UnR X (unaryOp op) t) (p : P1 X.K X.mg t f) (ha : SE X a x) : SE X (.UnaryOp op a pos) (op1 f x) :=
  ⟨fun W tk => (pe_un ho (ha.run W tk)).imp fun _ _ _ q => tE_op1 p q⟩
end
end Rg
namespace Rg
open PySem PySem.Spec PyProof.Rows L2
instance : DecidableRel CPow := fun i j => by unfold CPow; infer_instance
instance : DecidableRel CMul := fun i j => by unfold CMul; infer_instance
instance : DecidableRel CMulW := fun i j => by unfold CMulW; infer_instance
instance : DecidableRel CDivW := fun i j => by unfold CDivW; infer_instance

/-- f, or where it says nothing g -/
def R.orElse {α : Type} (x : R α) (y : R α) : R α := match x with
  | .no => y
  | x => x
def or1 (f g : Hs → Val → R Val) (h : Hs) (a : Val) : R Val := (f h a).orElse (g h a)
def or2 (f g : Hs → Val → Val → R Val) (h : Hs) (a b : Val) : R Val := (f h a b).orElse (g h a b)
/-- if it holds -/
def gd {α : Type} (c : Prop) [Decidable c] (x : R α) : R α := if c then x else .no
theorem gd_pos {α : Type} {c : Prop} [Decidable c] {x : R α} (h : c) : gd c x = x := if_pos h
theorem gd_neg {α : Type} {c : Prop} [Decidable c] {x : R α} (h : ¬ c) : gd c x = .no := if_neg h
theorem Out.gd {K : PySem.W.Frag} {mg : Str → Option Value} {W : WX} {α β : Type} {rel : List Addr → Hp → Hp → Hp → α → β → Prop} {s : L2.St} {m : List Addr} {G H : Hp} {Q : β → Hp → Prop} {c : Prop} [Decidable c] {x : R α}
    (o : Out K mg W rel s m G H Q (gd c x)) : c ∧ Out K mg W rel s m G H Q x := by
  by_cases h : c
  · rw [gd_pos h] at o; exact ⟨h, o⟩
  · rw [gd_neg h] at o; exact o.elim
section
variable {K : PySem.W.Frag} {mg : Str → Option Value} {W : WX} {G H : Hp} {m : List Addr} {h : Hs} {r : Sl} {s : L2.St} {a b d : Val} {v u : V} {Q : VK}
theorem Out.orElse {α β : Type} {rel : List Addr → Hp → Hp → Hp → α → β → Prop} {Q : β → Hp → Prop} {x y : R α} (o : Out K mg W rel s m G H Q (x.orElse y)) : Out K mg W rel s m G H Q x ∨ Out K mg W rel s m G H Q y := by
  cases x with
  | no => exact .inr o
  | ok _ _ => exact .inl o
  | rz _ _ => exact .inl o
theorem P1.or {t t' : V → Hp → VK → Prop} {f g : Hs → Val → R Val} (p : P1 K mg t f) (q : P1 K mg t' g) : P1 K mg (fun v H Q => t v H Q ∨ t' v H Q) (or1 f g) := by
  intro W r h m G s H a v Q at_ ra o
  rcases Out.orElse o with o | o
  · exact .inl (p _ _ _ _ _ _ _ _ _ _ at_ ra o)
  · exact .inr (q _ _ _ _ _ _ _ _ _ _ at_ ra o)
theorem P2.or {t t' : R2} {f g : Hs → Val → Val → R Val} (p : P2 K mg t f) (q : P2 K mg t' g) : P2 K mg (fun v u H Q => t v u H Q ∨ t' v u H Q) (or2 f g) := by
  intro W r h m G s H a v b u Q at_ ra rb o
  rcases Out.orElse o with o | o
  · exact .inl (p _ _ _ _ _ _ _ _ _ _ _ _ at_ ra rb o)
  · exact .inr (q _ _ _ _ _ _ _ _ _ _ _ _ at_ ra rb o)

/-- a new list: temporary -/
theorem Out.tmpL {ds : List Val} {xs : List V} (a : At K r h m G s H) (o : Out K mg W (relV K) s m G H Q (.ok (.tl ds) h)) (z : xs.length ≤ sizeLine) (q : RVs K G m ds xs) :
    ∀ p, H p = none → Q (.ref p) (upd H p (.lst xs)) := fun p hp => by
  have k : Kp m G H m G (upd H p (.lst xs)) := kp_tmp (o := .lst xs) a.e hp
  exact o m G _ (.ref p) k a.h ⟨⟨p, xs, rfl, upd_same, Ex.none a.e hp, z, q⟩, fun b e => by cases e; exact hp⟩
/-- a new tuple -/
theorem Out.newT {ds : List Val} {xs : List V} (a : At K r h m G s H) (o : Out K mg W (relV K) s m G H Q (.ok (.tup ds) h)) (z : xs.length ≤ sizeLine) (q : RVs K G m ds xs) :
    ∀ p, H p = none → Q (.ref p) (upd H p (.tup xs)) := fun p hp => by
  have gn := Ex.none a.e hp
  have k : Kp m G H m (upd G p (.tup xs)) (upd H p (.tup xs)) := kp_new (o := .tup xs) a.e hp
  exact o m _ _ (.ref p) k (a.h.new gn) ⟨⟨p, xs, rfl, .inl upd_same, z, RVs.stay (sty_new a.h gn) q⟩, trivial⟩
end

/-! ### by kinds -/
def onI (f : Hs → Int → R Val) (h : Hs) (a : Val) : R Val := match a with
  | .int i => f h i
  | _ => .no
def onII (f : Hs → Int → Int → R Val) (h : Hs) (a b : Val) : R Val := match a, b with
  | .int i, .int j => f h i j
  | _, _ => .no
def onSS (f : Hs → Str → Str → R Val) (h : Hs) (a b : Val) : R Val := match a, b with
  | .str i, .str j => f h i j
  | _, _ => .no
def onTT (f : Hs → List Val → List Val → R Val) (h : Hs) (a b : Val) : R Val := match asT a, asT b with
  | some i, some j => f h i j
  | _, _ => .no
def onLL (f : Hs → List Val → List Val → R Val) (h : Hs) (a b : Val) : R Val := match asL h a, asL h b with
  | some i, some j => f h i j
  | _, _ => .no
def onLI (f : Hs → List Val → Int → R Val) (h : Hs) (a b : Val) : R Val := match asL h a, b with
  | some i, .int j => f h i j
  | _, _ => .no
def onTI (f : Hs → List Val → Int → R Val) (h : Hs) (a b : Val) : R Val := match asT a, b with
  | some i, .int j => f h i j
  | _, _ => .no
def onSI (f : Hs → Str → Int → R Val) (h : Hs) (a b : Val) : R Val := match a, b with
  | .str i, .int j => f h i j
  | _, _ => .no
def onL (f : Hs → List Val → R Val) (h : Hs) (a : Val) : R Val := match asL h a with
  | some i => f h i
  | _ => .no
def onT (f : Hs → List Val → R Val) (h : Hs) (a : Val) : R Val := match asT a with
  | some i => f h i
  | _ => .no
def onQ (f : Hs → List Val → R Val) (h : Hs) (a : Val) : R Val := match asQ h a with
  | some i => f h i
  | _ => .no
def onS (f : Hs → Str → R Val) (h : Hs) (a : Val) : R Val := match a with
  | .str i => f h i
  | _ => .no
section
variable {K : PySem.W.Frag} {mg : Str → Option Value} {W : WX} {G H : Hp} {m : List Addr} {h : Hs} {r : Sl} {s : L2.St} {a b d : Val} {v u : V} {Q : VK}
theorem p1_I {t : V → Hp → VK → Prop} {f : Hs → Int → R Val} (p : ∀ W r h m G s H i Q, At K r h m G s H → Out K mg W (relV K) s m G H Q (f h i) → t (.int i) H Q) : P1 K mg t (onI f) := by
  intro W r h m G s H a v Q at_ ra o
  cases a <;> try exact o.elim
  have e : v = V.int _ := ra
  subst e
  exact p W r h m G s H _ Q at_ o
theorem p2_II {t : R2} {f : Hs → Int → Int → R Val} (p : ∀ W r h m G s H i j Q, At K r h m G s H → Out K mg W (relV K) s m G H Q (f h i j) → t (.int i) (.int j) H Q) : P2 K mg t (onII f) := by
  intro W r h m G s H a v b u Q at_ ra rb o
  cases a <;> try exact o.elim
  cases b <;> try exact o.elim
  have e : v = V.int _ := ra
  have e2 : u = V.int _ := rb
  subst e e2
  exact p W r h m G s H _ _ Q at_ o
theorem p2_SS {t : R2} {f : Hs → Str → Str → R Val} (p : ∀ W r h m G s H i j Q, At K r h m G s H → Out K mg W (relV K) s m G H Q (f h i j) → t (.str i) (.str j) H Q) : P2 K mg t (onSS f) := by
  intro W r h m G s H a v b u Q at_ ra rb o
  cases a <;> try exact o.elim
  cases b <;> try exact o.elim
  have e : v = V.str _ := ra
  have e2 : u = V.str _ := rb
  subst e e2
  exact p W r h m G s H _ _ Q at_ o
theorem p2_SI {t : R2} {f : Hs → Str → Int → R Val} (p : ∀ W r h m G s H i j Q, At K r h m G s H → Out K mg W (relV K) s m G H Q (f h i j) → t (.str i) (.int j) H Q) : P2 K mg t (onSI f) := by
  intro W r h m G s H a v b u Q at_ ra rb o
  cases a <;> try exact o.elim
  cases b <;> try exact o.elim
  have e : v = V.str _ := ra
  have e2 : u = V.int _ := rb
  subst e e2
  exact p W r h m G s H _ _ Q at_ o
theorem p1_S {t : V → Hp → VK → Prop} {f : Hs → Str → R Val} (p : ∀ W r h m G s H i Q, At K r h m G s H → Out K mg W (relV K) s m G H Q (f h i) → t (.str i) H Q) : P1 K mg t (onS f) := by
  intro W r h m G s H a v Q at_ ra o
  cases a <;> try exact o.elim
  have e : v = V.str _ := ra
  subst e
  exact p W r h m G s H _ Q at_ o
theorem p2_LL {t : R2} {f : Hs → List Val → List Val → R Val} (p : ∀ W r h m G s H ds es Q p xs p2 ys, At K r h m G s H → SqL K H p xs → xs.length ≤ sizeLine → RVs K G m ds xs → SqL K H p2 ys → ys.length ≤ sizeLine → RVs K G m es ys → Out K mg W (relV K) s m G H Q (f h ds es) → t (.ref p) (.ref p2) H Q) : P2 K mg t (onLL f) := by
  intro W r h m G s H a v b u Q at_ ra rb o
  unfold onLL at o
  cases e1 : asL h a with
  | none => rw [e1] at o; exact o.elim
  | some ds =>
    rw [e1] at o
    cases e2 : asL h b with
    | none => rw [e2] at o; exact o.elim
    | some es =>
      rw [e2] at o
      obtain ⟨p1, xs, rfl, s1, z1, w1⟩ := asL_ok at_ ra e1
      obtain ⟨p2, ys, rfl, s2, z2, w2⟩ := asL_ok at_ rb e2
      exact p W r h m G s H ds es Q _ _ _ _ at_ s1 z1 w1 s2 z2 w2 o
theorem p2_TT {t : R2} {f : Hs → List Val → List Val → R Val} (p : ∀ W r h m G s H ds es Q p xs p2 ys, At K r h m G s H → RV K G m (.tup ds) (.ref p) → SqT K H p xs → xs.length ≤ sizeLine → RVs K G m ds xs → RV K G m (.tup es) (.ref p2) → SqT K H p2 ys → ys.length ≤ sizeLine → RVs K G m es ys → Out K mg W (relV K) s m G H Q (f h ds es) → t (.ref p) (.ref p2) H Q) : P2 K mg t (onTT f) := by
  intro W r h m G s H a v b u Q at_ ra rb o
  cases a <;> try exact o.elim
  cases b <;> try exact o.elim
  obtain ⟨p1, xs, rfl, s1, z1, w1⟩ := asT_ok at_ ra rfl
  obtain ⟨p2, ys, rfl, s2, z2, w2⟩ := asT_ok at_ rb rfl
  exact p W r h m G s H _ _ Q _ _ _ _ at_ (RP.rv ra rfl) s1 z1 w1 (RP.rv rb rfl) s2 z2 w2 o
theorem p2_LI {t : R2} {f : Hs → List Val → Int → R Val} (p : ∀ W r h m G s H ds j Q p xs, At K r h m G s H → SqL K H p xs → xs.length ≤ sizeLine → RVs K G m ds xs → Out K mg W (relV K) s m G H Q (f h ds j) → t (.ref p) (.int j) H Q) : P2 K mg t (onLI f) := by
  intro W r h m G s H a v b u Q at_ ra rb o
  unfold onLI at o
  cases e1 : asL h a with
  | none => rw [e1] at o; exact o.elim
  | some ds =>
    rw [e1] at o
    cases b <;> try exact o.elim
    have e2 : u = V.int _ := rb
    subst e2
    obtain ⟨p1, xs, rfl, s1, z1, w1⟩ := asL_ok at_ ra e1
    exact p W r h m G s H ds _ Q _ _ at_ s1 z1 w1 o
theorem p2_TI {t : R2} {f : Hs → List Val → Int → R Val} (p : ∀ W r h m G s H ds j Q p xs, At K r h m G s H → SqT K H p xs → xs.length ≤ sizeLine → RVs K G m ds xs → Out K mg W (relV K) s m G H Q (f h ds j) → t (.ref p) (.int j) H Q) : P2 K mg t (onTI f) := by
  intro W r h m G s H a v b u Q at_ ra rb o
  unfold onTI at o
  cases e1 : asT a with
  | none => rw [e1] at o; exact o.elim
  | some ds =>
    rw [e1] at o
    cases b <;> try exact o.elim
    have e2 : u = V.int _ := rb
    subst e2
    obtain ⟨p1, xs, rfl, s1, z1, w1⟩ := asT_ok at_ ra e1
    exact p W r h m G s H ds _ Q _ _ at_ s1 z1 w1 o
theorem p1_L {t : V → Hp → VK → Prop} {f : Hs → List Val → R Val} (p : ∀ W r h m G s H ds Q p xs, At K r h m G s H → SqL K H p xs → xs.length ≤ sizeLine → RVs K G m ds xs → Out K mg W (relV K) s m G H Q (f h ds) → t (.ref p) H Q) : P1 K mg t (onL f) := by
  intro W r h m G s H a v Q at_ ra o
  unfold onL at o
  cases e1 : asL h a with
  | none => rw [e1] at o; exact o.elim
  | some ds =>
    rw [e1] at o
    obtain ⟨p1, xs, rfl, s1, z1, w1⟩ := asL_ok at_ ra e1
    exact p W r h m G s H ds Q _ _ at_ s1 z1 w1 o
theorem p1_T {t : V → Hp → VK → Prop} {f : Hs → List Val → R Val} (p : ∀ W r h m G s H ds Q p xs, At K r h m G s H → RV K G m (.tup ds) (.ref p) → SqT K H p xs → xs.length ≤ sizeLine → RVs K G m ds xs → Out K mg W (relV K) s m G H Q (f h ds) → t (.ref p) H Q) : P1 K mg t (onT f) := by
  intro W r h m G s H a v Q at_ ra o
  cases a <;> try exact o.elim
  obtain ⟨p1, xs, rfl, s1, z1, w1⟩ := asT_ok at_ ra rfl
  exact p W r h m G s H _ Q _ _ at_ (RP.rv ra rfl) s1 z1 w1 o
theorem p1_Q {t : V → Hp → VK → Prop} {f : Hs → List Val → R Val} (p : ∀ W r h m G s H ds Q p xs, At K r h m G s H → (SqL K H p xs ∨ SqT K H p xs) → xs.length ≤ sizeLine → RVs K G m ds xs → Out K mg W (relV K) s m G H Q (f h ds) → t (.ref p) H Q) : P1 K mg t (onQ f) := by
  intro W r h m G s H a v Q at_ ra o
  unfold onQ at o
  cases e1 : asQ h a with
  | none => rw [e1] at o; exact o.elim
  | some ds =>
    rw [e1] at o
    obtain ⟨p1, xs, rfl, s1, z1, w1⟩ := asQ_ok at_ ra e1
    exact p W r h m G s H ds Q _ _ at_ s1 z1 w1 o
end

/-! ### + - * // % .. -/
def addF : Hs → Val → Val → R Val :=
  or2 (onII fun h i j => .ok (.int (i + j)) h) (or2 (onSS fun h i j => gd (i.length + j.length ≤ sizeLine) (.ok (.str (i ++ j)) h))
    (or2 (onTT fun h xs ys => gd (xs.length + ys.length ≤ sizeLine) (.ok (.tup (xs ++ ys)) h)) (onLL fun h xs ys => gd (xs.length + ys.length ≤ sizeLine) (.ok (.tl (xs ++ ys)) h))))
def subF : Hs → Val → Val → R Val := onII fun h i j => .ok (.int (i - j)) h
def mulF : Hs → Val → Val → R Val :=
  or2 (onII fun h i j => gd (CMul i j) (.ok (.int (i * j)) h)) (onII fun h i j => gd (CMulW i j) (.ok (.int (i * j)) h))
def fdivF : Hs → Val → Val → R Val := onII fun h i j => gd (CDivW i j) (.ok (.int (i / j)) h)
def modF : Hs → Val → Val → R Val := onII fun h i j => gd (0 < j) (.ok (.int (i % j)) h)
def powF : Hs → Val → Val → R Val := onII fun h i j => gd (CPow i j) (.ok (.int (i ^ j.toNat)) h)
def shlF : Hs → Val → Val → R Val := onII fun h i j => gd (CPow i j) (.ok (.int (i * 2 ^ j.toNat)) h)
def shrF : Hs → Val → Val → R Val := onII fun h i j => gd (0 ≤ j) (.ok (.int (i / 2 ^ j.toNat)) h)
def andF : Hs → Val → Val → R Val := onII fun h i j => .ok (.int (Builtin.bitAnd i j)) h
def orF : Hs → Val → Val → R Val := onII fun h i j => .ok (.int (Builtin.bitOr i j)) h
def xorF : Hs → Val → Val → R Val := onII fun h i j => .ok (.int (Builtin.bitXor i j)) h
def negF : Hs → Val → R Val := onI fun h i => .ok (.int (-i)) h

/-- xs + ys, lists of any kind -/
def rCatG (K : PySem.W.Frag) : R2 := fun x y H Q => ∃ l b xs zs, x = .ref l ∧ y = .ref b ∧ SqL K H l xs ∧ SqL K H b zs ∧ xs.length + zs.length ≤ sizeLine ∧ ∀ p, H p = none → Q (.ref p) (upd H p (.lst (xs ++ zs)))
theorem op_catG {X : Cx} : OpR X (binaryOp .Add) (rCatG X.K) := by
  intro pins s σ H x y v u Q I rx ry h
  obtain ⟨l, b, xs, zs, rfl, rfl, hH, hB, hz, q⟩ := h
  cases rx
  cases ry
  obtain ⟨its, r, ⟨⟨c1, d1, da1, sl1⟩, n, e, ec, ed, edd⟩, z⟩ := I.list hH
  obtain ⟨its2, r2, ⟨⟨c2, d2, da2, sl2⟩, n2, e2, ec2, ed2, edd2⟩, z2⟩ := I.list hB
  dsimp only at ec ed edd ec2 ed2 edd2
  subst ec ed edd ec2 ed2 edd2
  have hl := r.length
  have hl2 := r2.length
  refine concat_meets ⟨_, e, rfl⟩ ⟨_, e2, rfl⟩ noFill_list_add seq_list_add PySem.F.slot_list_add PySem.F.entry_list_add (PySem.F.args_list_add_2 _ _) (list_addW l b its.toArray its2.toArray n n2 none none sl1 sl2 (by simp only [List.size_toArray]; omega)) ⟨e, e2, ?_⟩
  have ea : its.toArray ++ its2.toArray = (its ++ its2).toArray := by simp
  rw [ea]
  exact ⟨.ref _, _, I.lnew (t' := s.toks) (r.append r2) (by rw [List.length_append]; omega), rfl, q _ I.fresh⟩
def rAddStr : R2 := fun x y H Q => ∃ i j, x = .str i ∧ y = .str j ∧ i.length + j.length ≤ sizeLine ∧ Q (.str (i ++ j)) H

section
variable {X : Cx} {a b : Expr} {x y : EM} {pos : Pos} {K : PySem.W.Frag} {mg : Str → Option Value}
theorem p2_I0 {g : Int → Int → Int} : P2 K mg (rI0 fun i j => .int (g i j)) (onII fun h i j => .ok (.int (g i j)) h) := p2_II fun _ _ _ _ _ _ _ i j _ a o => ⟨i, j, rfl, rfl, o.sameV a rfl⟩
theorem p2_IC {g : Int → Int → Int} {C : Int → Int → Prop} [DecidableRel C] : P2 K mg (rI C fun i j => .int (g i j)) (onII fun h i j => gd (C i j) (.ok (.int (g i j)) h)) :=
  p2_II fun _ _ _ _ _ _ _ i j _ a o => ⟨i, j, rfl, rfl, o.gd.1, o.gd.2.sameV a rfl⟩
theorem se_add (ha : SE X a x) (hb : SE X b y) : SE X (.BinOp a .Add b pos) (op2 addF x y) :=
  se_op (op_add.or (OpR.or (r := rAddStr) op_add_str (op_catA.or op_catG))) (p2_I0.or (P2.or
    (p2_SS fun _ _ _ _ _ _ _ i j _ a o => ⟨i, j, rfl, rfl, o.gd.1, o.gd.2.sameV a rfl⟩)
    (P2.or (p2_TT fun _ _ _ _ _ _ _ i j Q p xs p2 ys a r1 s1 z1 w1 r2 s2 z2 w2 o => by
      obtain ⟨c, o⟩ := o.gd
      have l1 := w1.length
      have l2 := w2.length
      refine ⟨p, p2, xs, ys, rfl, rfl, s1, s2, by omega, fun e => ?_, fun _ e => ?_, fun _ _ => Out.newT a o (by rw [List.length_append]; omega) (w1.append w2)⟩
      · have : i = [] := by rw [← List.length_eq_zero_iff, l1, e]; rfl
        subst this
        exact o.sameV a r2
      · have : j = [] := by rw [← List.length_eq_zero_iff, l2, e]; rfl
        subst this
        rw [List.append_nil] at o
        exact o.sameV a r1)
    (p2_LL fun _ _ _ _ _ _ _ i j Q p xs p2 ys a s1 z1 w1 s2 z2 w2 o => by
      obtain ⟨c, o⟩ := o.gd
      have l1 := w1.length
      have l2 := w2.length
      exact ⟨p, p2, xs, ys, rfl, rfl, s1, s2, by omega, Out.tmpL a o (by rw [List.length_append]; omega) (w1.append w2)⟩)))) ha hb
theorem se_sub (ha : SE X a x) (hb : SE X b y) : SE X (.BinOp a .Sub b pos) (op2 subF x y) := se_op op_sub p2_I0 ha hb
theorem se_mul (ha : SE X a x) (hb : SE X b y) : SE X (.BinOp a .Mult b pos) (op2 mulF x y) := se_op (op_mul.or op_mulW) (p2_IC.or p2_IC) ha hb
theorem se_fdiv (ha : SE X a x) (hb : SE X b y) : SE X (.BinOp a .FloorDiv b pos) (op2 fdivF x y) := se_op op_fdivW p2_IC ha hb
theorem se_mod (ha : SE X a x) (hb : SE X b y) : SE X (.BinOp a .Mod b pos) (op2 modF x y) := se_op op_mod (p2_IC (C := fun _ j => 0 < j)) ha hb
theorem se_pow (ha : SE X a x) (hb : SE X b y) : SE X (.BinOp a .Pow b pos) (op2 powF x y) := se_op op_pow p2_IC ha hb
theorem se_shl (ha : SE X a x) (hb : SE X b y) : SE X (.BinOp a .LShift b pos) (op2 shlF x y) := se_op op_shl p2_IC ha hb
theorem se_shr (ha : SE X a x) (hb : SE X b y) : SE X (.BinOp a .RShift b pos) (op2 shrF x y) := se_op op_shr (p2_IC (C := fun _ j => 0 ≤ j)) ha hb
theorem se_and (ha : SE X a x) (hb : SE X b y) : SE X (.BinOp a .BitAnd b pos) (op2 andF x y) := se_op op_and p2_I0 ha hb
theorem se_bor (ha : SE X a x) (hb : SE X b y) : SE X (.BinOp a .BitOr b pos) (op2 orF x y) := se_op op_or p2_I0 ha hb
theorem se_xor (ha : SE X a x) (hb : SE X b y) : SE X (.BinOp a .BitXor b pos) (op2 xorF x y) := se_op op_xor p2_I0 ha hb
theorem se_neg (ha : SE X a x) : SE X (.UnaryOp .USub a pos) (op1 negF x) := se_un un_neg (p1_I fun _ _ _ _ _ _ _ i _ a o => ⟨i, rfl, o.sameV a rfl⟩) ha
end
end Rg
namespace Rg
open PySem PySem.Spec PyProof.Rows L2

/-! ### data as the model's data -/
mutual
def py : Val → PyData
  | .non => .none
  | .bl b => .bool b
  | .int i => .int i
  | .str s => .str s
  | .tup xs => .tuple (pys xs)
  | .lst xs => .list (pys xs)
  | .tl xs => .list (pys xs)
  | .dct _ _ => .dict []
  | .td _ _ => .dict []
  | .ref _ => .dict []
def pys : List Val → List PyData
  | [] => []
  | x :: xs => py x :: pys xs
end
theorem pys_map : ∀ xs : List Val, pys xs = xs.map py
  | [] => rfl
  | x :: xs => by rw [pys, pys_map xs]; rfl
/-- what a changeable list holds -/
def look (h : Hs) (d : Val) : Val := match d with
  | .ref l => match h[l]? with
    | some (.lst ds) => .lst ds
    | _ => d
  | _ => d
section
variable {K : PySem.W.Frag} {mg : Str → Option Value} {W : WX} {G H : Hp} {m : List Addr} {h : Hs} {r : Sl} {s : L2.St}
mutual
theorem dp_rv (e : Ex G H) : ∀ (d : Val) (v : V), RV K G m d v → (py d).canLay0 = true → Dp K H v (py d)
  | .non, v, q, _ => by have q' : v = .non := q; subst q'; exact .non
  | .bl b, v, q, _ => by have q' : v = .bl b := q; subst q'; exact .bl _
  | .int b, v, q, _ => by have q' : v = .int b := q; subst q'; exact .int _
  | .str b, v, q, _ => by have q' : v = .str b := q; subst q'; exact .str _
  | .tup ds, v, q, c => by
    obtain ⟨a, xs, ev, t, z, q⟩ := q
    subst ev
    refine Dp.tup ?_ (dp_rvs e ds xs q c)
    rcases t with t | ⟨_, t⟩
    · exact .of (e _ _ t)
    · exact .inr t
  | .lst ds, v, q, c => by
    obtain ⟨a, xs, ev, t, z, q⟩ := q
    subst ev
    refine Dp.lst ?_ (dp_rvs e ds xs q c)
    rcases t with ⟨t, _⟩ | t
    · exact .inl (ex_rd e t)
    · exact .inr t
  | .dct _ _, _, _, c => Bool.noConfusion c
  | .ref _, _, _, c => Bool.noConfusion c
  | .tl _, _, q, _ => q.elim
  | .td _ _, _, q, _ => q.elim
theorem dp_rvs (e : Ex G H) : ∀ (ds : List Val) (xs : List V), RVs K G m ds xs → PyData.canLayAll0 (pys ds) = true → DpAll K H xs (pys ds)
  | [], xs, q, _ => by have q' : xs = [] := q; subst q'; exact .nil
  | d :: ds, xs, q, c => by
    obtain ⟨x, xs', ev, a, b⟩ := q
    have c' : (py d).canLay0 = true ∧ PyData.canLayAll0 (pys ds) = true := Bool.and_eq_true_iff.mp c
    subst ev
    exact .cons (dp_rv e d x a c'.1) (dp_rvs e ds xs' b c'.2)
end
theorem dp_rp (a : At K r h m G s H) {d : Val} {v : V} (q : RP K G m H d v) (c : (py (look h d)).canLay0 = true) : Dp K H v (py (look h d)) := by
  cases d with
  | ref l =>
    by_cases w : ∃ ds, h[l]? = some (.lst ds)
    · obtain ⟨ds, w⟩ := w
      have e : look h (.ref l) = .lst ds := by unfold look; simp only [w]
      rw [e] at c ⊢
      obtain ⟨p, xs, rfl, t, z, q⟩ := asL_ok a q (d := .ref l) (ds := ds) (by unfold asL; simp only [w])
      exact .lst t (dp_rvs a.e _ _ q c)
    · exfalso
      have e : look h (.ref l) = .ref l := by
        unfold look
        dsimp only
        split
        · rename_i ds w'; exact absurd ⟨ds, w'⟩ w
        · rfl
      rw [e] at c
      cases c
  | tl ds =>
    obtain ⟨p, xs, rfl, t, z, q⟩ := asL_ok a q (d := .tl ds) (ds := ds) rfl
    exact .lst t (dp_rvs a.e _ _ q c)
  | td ks ds => cases c
  | _ => exact dp_rv a.e _ _ (RP.rv q rfl) c
end

/-! ### == and != -/
def scV : Val → Option V
  | .non => some .non
  | .bl b => some (.bl b)
  | .int i => some (.int i)
  | .str s => some (.str s)
  | _ => none
theorem scV_ok {K : PySem.W.Frag} {G H : Hp} {m : List Addr} {d : Val} {v x : V} (q : RP K G m H d v) (e : scV d = some x) : v = x := by
  cases d <;> first | cases e | skip
  all_goals exact q
def onScal (f : Hs → V → V → R Val) (h : Hs) (a b : Val) : R Val := match scV a, scV b with
  | some x, some y => gd (scal x y = true) (f h x y)
  | _, _ => .no
def onPy (f : Hs → PyData → PyData → R Val) (h : Hs) (a b : Val) : R Val :=
  gd (SeqAt.shaped (py (look h a)) = true ∧ SeqAt.shaped (py (look h b)) = true) (f h (py (look h a)) (py (look h b)))
def eqF : Hs → Val → Val → R Val := or2 (onScal fun h x y => .ok (.bl (decide (x = y))) h) (onPy fun h x y => .ok (.bl (PyData.eqv x y)) h)
def neF : Hs → Val → Val → R Val := or2 (onScal fun h x y => .ok (.bl (!decide (x = y))) h) (onPy fun h x y => .ok (.bl (!PyData.eqv x y)) h)

section
variable {K : PySem.W.Frag} {mg : Str → Option Value} {W : WX} {G H : Hp} {m : List Addr} {h : Hs} {r : Sl} {s : L2.St}
theorem p2_scal {t : R2} {f : Hs → V → V → R Val} (p : ∀ W r h m G s H x y Q, At K r h m G s H → scal x y = true → Out K mg W (relV K) s m G H Q (f h x y) → t x y H Q) : P2 K mg t (onScal f) := by
  intro W r h m G s H a v b u Q at_ ra rb o
  unfold onScal at o
  cases e1 : scV a with
  | none => rw [e1] at o; exact o.elim
  | some x =>
    rw [e1] at o
    cases e2 : scV b with
    | none => rw [e2] at o; exact o.elim
    | some y =>
      rw [e2] at o
      rw [scV_ok ra e1, scV_ok rb e2]
      exact p W r h m G s H x y Q at_ o.gd.1 o.gd.2
theorem p2_py {t : R2} {f : Hs → PyData → PyData → R Val} (p : ∀ W r h m G s H v u x y Q, At K r h m G s H → Dp K H v x → Dp K H u y → SeqAt.shaped x = true → SeqAt.shaped y = true → Out K mg W (relV K) s m G H Q (f h x y) → t v u H Q) : P2 K mg t (onPy f) := by
  intro W r h m G s H a v b u Q at_ ra rb o
  obtain ⟨⟨c1, c2⟩, o⟩ := o.gd
  exact p W r h m G s H v u _ _ Q at_ (dp_rp at_ ra (SeqAt.canLay_of_shaped c1)) (dp_rp at_ rb (SeqAt.canLay_of_shaped c2)) c1 c2 o
end
section
variable {X : Cx} {a b : Expr} {x y : EM} {pos : Pos} {k : Nat}
theorem se_eq (hr : Room k X.A) (ha : SE X a x) (hb : SE X b y) : SE X (.Compare a [.Eq] [b] pos) (op2 eqF x y) :=
  se_cmp (op_eq.or (op_eqD hr.units)) ((p2_scal fun _ _ _ _ _ _ _ x y _ a c o => ⟨c, o.sameV a rfl⟩).or (p2_py fun _ _ _ _ _ _ _ _ _ x y _ a d1 d2 s1 s2 o => ⟨x, y, d1, d2, s1, s2, o.sameV a rfl⟩)) ha hb
theorem se_ne (hr : Room k X.A) (ha : SE X a x) (hb : SE X b y) : SE X (.Compare a [.NotEq] [b] pos) (op2 neF x y) :=
  se_cmp (op_ne.or (op_neD hr.units)) ((p2_scal fun _ _ _ _ _ _ _ x y _ a c o => ⟨c, o.sameV a rfl⟩).or (p2_py fun _ _ _ _ _ _ _ _ _ x y _ a d1 d2 s1 s2 o => ⟨x, y, d1, d2, s1, s2, o.sameV a rfl⟩)) ha hb
end

/-! ### is None -/
def isN : Val → Bool
  | .non => true
  | _ => false
theorem isN_ok {K : PySem.W.Frag} {G H : Hp} {m : List Addr} {d : Val} {v : V} (q : RP K G m H d v) : decide (v = .non) = isN d := by
  cases d with
  | non => rw [show v = .non from q]; rfl
  | bl _ => rw [show v = _ from q]; rfl
  | int _ => rw [show v = _ from q]; rfl
  | str _ => rw [show v = _ from q]; rfl
  | tup _ => obtain ⟨_, _, rfl, _⟩ := q; rfl
  | lst _ => obtain ⟨_, _, rfl, _⟩ := q; rfl
  | dct _ _ => obtain ⟨_, _, rfl, _⟩ := q; rfl
  | ref _ => obtain ⟨_, rfl, _⟩ := q; rfl
  | tl _ => obtain ⟨_, _, rfl, _⟩ := q; rfl
  | td _ _ => obtain ⟨_, _, rfl, _⟩ := q; rfl
def isF (h : Hs) (a b : Val) : R Val := match b with
  | .non => .ok (.bl (isN a)) h
  | _ => .no
def isnF (h : Hs) (a b : Val) : R Val := match b with
  | .non => .ok (.bl (!isN a)) h
  | _ => .no
section
variable {X : Cx} {a b : Expr} {x y : EM} {pos : Pos} {k : Nat}
theorem se_is (ha : SE X a x) (hb : SE X b y) : SE X (.Compare a [.Is] [b] pos) (op2 isF x y) :=
  se_cmp op_isN (fun W r h m G s H a v b u Q at_ ra rb o => by
    cases b <;> try exact o.elim
    exact ⟨rb, by rw [isN_ok ra]; exact o.sameV at_ rfl⟩) ha hb
theorem se_isn (ha : SE X a x) (hb : SE X b y) : SE X (.Compare a [.IsNot] [b] pos) (op2 isnF x y) :=
  se_cmp op_notN (fun W r h m G s H a v b u Q at_ ra rb o => by
    cases b <;> try exact o.elim
    exact ⟨rb, by rw [isN_ok ra]; exact o.sameV at_ rfl⟩) ha hb
end

/-! ### order: ints, texts, tuples of any depth -/
structure Ords where
  op : CmpOp
  ci : Int → Int → Bool
  cs : Str → Str → Bool
  cl : Nat → Nat → Bool
mutual
def pcmp (o : Ords) : PyData → PyData → Option Bool
  | .int i, .int j => some (o.ci i j)
  | .str i, .str j => some (o.cs i j)
  | .tuple xs, .tuple ys => pcmps o xs ys
  | _, _ => none
def pcmps (o : Ords) : List PyData → List PyData → Option Bool
  | [], ys => some (o.cl 0 ys.length)
  | x :: xs, [] => some (o.cl (xs.length + 1) 0)
  | x :: xs, y :: ys => match pcmps o xs ys with
    | some t => if PyData.eqv x y = true then some t else pcmp o x y
    | none => none
end
/-- how a rule for tuples looks -/
structure Ords.Ok (o : Ords) : Prop where
  i : ∀ (A : Around) (s : Shared) (a b : Int) (t u : Tok), Ob.RcOp o.op A s (.int a t) (.int b u) (o.ci a b)
  s : ∀ (A : Around) (s : Shared) (a b : Str) (t u : Tok), Ob.RcOp o.op A s (.str a t) (.str b u) (o.cs a b)
  t : ∀ {A : Around} {s : Shared} {l b : Addr} {items items2 : Array Value} {e r : Nat → Bool}, s.heap.IsTuple l items → s.heap.IsTuple b items2 → A.units < cLine →
    (∀ j (h1 : j < items.size) (h2 : j < items2.size), SeqAt.EqAt A.in1 s items[j] items2[j] (e j)) → (∀ j (h1 : j < items.size) (h2 : j < items2.size), e j = false → Ob.RcOp o.op A.in1 s items[j] items2[j] (r j)) →
    Ob.RcOp o.op A s (.ref l) (.ref b) (Ob.lexAt e r (o.cl items.size items2.size) 0 (min items.size items2.size))
  l : ∀ n m, o.cl (n + 1) (m + 1) = o.cl n m

theorem pcmps_lex (o : Ords) (ok : o.Ok) (e r : Nat → Bool) : ∀ (xs ys : List PyData) (i : Nat) (b : Bool), pcmps o xs ys = some b →
    (∀ (j : Nat) x y, xs[j]? = some x → ys[j]? = some y → e (i + j) = PyData.eqv x y) → (∀ (j : Nat) x y, xs[j]? = some x → ys[j]? = some y → PyData.eqv x y = false → pcmp o x y = some (r (i + j))) →
    Ob.lexAt e r (o.cl xs.length ys.length) i (min xs.length ys.length) = b
  | [], ys, i, b, h, _, _ => by
    have h' : o.cl 0 ys.length = b := Option.some.inj h
    simpa [Ob.lexAt_zero] using h'
  | x :: xs, [], i, b, h, _, _ => by
    have h' : o.cl (xs.length + 1) 0 = b := Option.some.inj h
    simpa [Ob.lexAt_zero] using h'
  | x :: xs, y :: ys, i, b, h, he, hr => by
    unfold pcmps at h
    cases t : pcmps o xs ys with
    | none => rw [t] at h; cases h
    | some t' =>
      rw [t] at h
      have hmin : min (x :: xs).length (y :: ys).length = min xs.length ys.length + 1 := by simp only [List.length_cons]; omega
      have hcl : o.cl (x :: xs).length (y :: ys).length = o.cl xs.length ys.length := by simp only [List.length_cons]; exact ok.l _ _
      rw [hmin, hcl, Ob.lexAt_succ, show e i = PyData.eqv x y from he 0 x y rfl rfl]
      by_cases c : PyData.eqv x y = true
      · rw [if_pos c]
        have h2 : some t' = some b := by simpa [c] using h
        refine pcmps_lex o ok e r xs ys (i + 1) b (by rw [t, h2]) (fun j x' y' e1 e2 => ?_) fun j x' y' e1 e2 e3 => ?_
        · rw [← he (j + 1) x' y' (by simpa using e1) (by simpa using e2)]; congr 1; omega
        · rw [hr (j + 1) x' y' (by simpa using e1) (by simpa using e2) e3]; congr 2; omega
      · have c' : PyData.eqv x y = false := by simpa using c
        rw [if_neg c]
        have h2 : pcmp o x y = some b := by simpa [c'] using h
        have h3 := hr 0 x y rfl rfl c'
        rw [h2] at h3
        exact (Option.some.inj h3).symm
theorem pcmps_each (o : Ords) : ∀ (xs ys : List PyData) (b : Bool), pcmps o xs ys = some b → ∀ (j : Nat) x y, xs[j]? = some x → ys[j]? = some y → PyData.eqv x y = false → ∃ c, pcmp o x y = some c
  | [], _, _, _, j, x, y, e, _, _ => by simp at e
  | _ :: _, [], _, _, j, x, y, _, e, _ => by simp at e
  | x :: xs, y :: ys, b, h, j, x', y', e1, e2, e3 => by
    unfold pcmps at h
    cases t : pcmps o xs ys with
    | none => rw [t] at h; cases h
    | some t' =>
      rw [t] at h
      cases j with
      | zero =>
        have a1 : x = x' := by simpa using e1
        have a2 : y = y' := by simpa using e2
        subst a1 a2
        have h2 : pcmp o x y = some b := by simpa [e3] using h
        exact ⟨b, h2⟩
      | succ j => exact pcmps_each o xs ys t' t j x' y' (by simpa using e1) (by simpa using e2) e3

theorem readsAll_get {h : Heap} : ∀ (xs : List PyData) (vs : List Value) (as : List Addr), ReadsAll h vs xs as → ∀ (j : Nat) u, vs[j]? = some u → ∃ x bs, xs[j]? = some x ∧ Reads h u x bs
  | [], _, _, r, j, u, e => by cases r; simp at e
  | x :: xs, _, _, r, j, u, e => by
    cases r with
    | cons r1 r2 =>
      cases j with
      | zero =>
        simp only [List.getElem?_cons_zero, Option.some.injEq] at e
        subst e
        exact ⟨x, _, rfl, r1⟩
      | succ j =>
        obtain ⟨y, bs, e1, r3⟩ := readsAll_get xs _ _ r2 j u (by simpa using e)
        exact ⟨y, bs, by simpa using e1, r3⟩
theorem readsAll_len {h : Heap} : ∀ (xs : List PyData) (vs : List Value) (as : List Addr), ReadsAll h vs xs as → vs.length = xs.length
  | [], _, _, r => by cases r; rfl
  | x :: xs, _, _, r => by
    cases r with
    | cons r1 r2 => simp [readsAll_len xs _ _ r2]
theorem depth_mem : ∀ {xs : List PyData} {j : Nat} {x : PyData}, xs[j]? = some x → x.depth ≤ PyData.depthAll xs
  | [], _, _, e => by simp at e
  | x :: xs, 0, y, e => by
    have e' : x = y := by simpa using e
    subst e'; exact Nat.le_max_left _ _
  | x :: xs, j + 1, y, e => Nat.le_trans (depth_mem (xs := xs) (j := j) (by simpa using e)) (Nat.le_max_right _ _)
theorem lay_mem : ∀ {xs : List PyData} {j : Nat} {x : PyData}, PyData.canLayAll0 xs = true → xs[j]? = some x → x.canLay0 = true
  | [], _, _, _, e => by simp at e
  | x :: xs, 0, y, c, e => by
    have e' : x = y := by simpa using e
    subst e'; exact (Bool.and_eq_true_iff.mp c).1
  | x :: xs, j + 1, y, c, e => lay_mem (xs := xs) (j := j) (Bool.and_eq_true_iff.mp c).2 (by simpa using e)
theorem get_toList {a : Array Value} {j : Nat} (h : j < a.size) : a.toList[j]? = some a[j] := by
  rw [Array.getElem?_toList]; simp [h]

theorem rc_reads (o : Ords) (ok : o.Ok) {s : Shared} : ∀ (n : Nat) (da db : PyData) (A : Around) (u v : Value) (as bs : List Addr) (b : Bool), da.depth ≤ n → Reads s.heap u da as → Reads s.heap v db bs → da.canLay0 = true → db.canLay0 = true →
    A.units + n + 1 < cLine → pcmp o da db = some b → Ob.RcOp o.op A s u v b := by
  intro n
  induction n with
  | zero =>
    intro da db A u v as bs b hd ra rb la lb hu hc
    cases da <;> cases db <;> first | (cases hc; done) | skip
    · cases ra; cases rb; cases hc; exact ok.i _ _ _ _ _ _
    · cases ra; cases rb; cases hc; exact ok.s _ _ _ _ _ _
    · rename_i xs ys
      have : xs.length = 0 ∨ True := .inr trivial
      exact absurd hd (by show ¬ (PyData.depthAll xs + 1 ≤ 0); omega)
  | succ n ih =>
    intro da db A u v as bs b hd ra rb la lb hu hc
    cases da <;> cases db <;> first | (cases hc; done) | skip
    · cases ra; cases rb; cases hc; exact ok.i _ _ _ _ _ _
    · cases ra; cases rb; cases hc; exact ok.s _ _ _ _ _ _
    · rename_i xs ys
      have hd' : PyData.depthAll xs ≤ n := by have h : PyData.depthAll xs + 1 ≤ n + 1 := hd; omega
      cases ra with
      | tuple h1 h2 h3 h4 =>
        cases rb with
        | tuple k1 k2 k3 k4 =>
          rename_i vo vn va w wo wn wa
          have l1 := readsAll_len _ _ _ h4
          have l2 := readsAll_len _ _ _ k4
          simp only [Array.length_toList] at l1 l2
          have E : ∀ j x y, xs[j]? = some x → ys[j]? = some y → (PyData.eqv (xs.getD j .none) (ys.getD j .none)) = PyData.eqv x y := fun j x y e1 e2 => by
            rw [List.getD_eq_getElem?_getD, List.getD_eq_getElem?_getD, e1, e2]; rfl
          have R := ok.t (A := A) (s := s) (e := fun j => PyData.eqv (xs.getD j .none) (ys.getD j .none)) (r := fun j => (pcmp o (xs.getD j .none) (ys.getD j .none)).getD false) ⟨_, h1, h2, _, h3⟩ ⟨_, k1, k2, _, k3⟩ (by omega) (fun j j1 j2 => ?_) (fun j j1 j2 je => ?_)
          · have q : Ob.lexAt _ _ _ 0 _ = b := pcmps_lex o ok (fun j => PyData.eqv (xs.getD j .none) (ys.getD j .none)) (fun j => (pcmp o (xs.getD j .none) (ys.getD j .none)).getD false) xs ys 0 b hc
              (fun j x y e1 e2 => by rw [Nat.zero_add]; exact E j x y e1 e2) (fun j x y e1 e2 e3 => by
                obtain ⟨c, hc'⟩ := pcmps_each o xs ys b hc j x y e1 e2 e3
                rw [Nat.zero_add, List.getD_eq_getElem?_getD, List.getD_eq_getElem?_getD, e1, e2, hc']
                show _ = some ((pcmp o x y).getD false)
                rw [hc']; rfl)
            rw [l1, l2] at R
            rw [← q]
            exact R
          · obtain ⟨x, cs, e1, r1⟩ := readsAll_get _ _ _ h4 j _ (get_toList j1)
            obtain ⟨y, ds, e2, r2⟩ := readsAll_get _ _ _ k4 j _ (get_toList j2)
            rw [E j x y e1 e2]
            have dm := depth_mem e1
            exact SeqAt.eqAt_reads x y A.in1 s _ _ _ _ r1 r2 (lay_mem la e1) (lay_mem lb e2) (by show A.units + 1 + min x.depth y.depth < cLine; omega)
          · obtain ⟨x, cs, e1, r1⟩ := readsAll_get _ _ _ h4 j _ (get_toList j1)
            obtain ⟨y, ds, e2, r2⟩ := readsAll_get _ _ _ k4 j _ (get_toList j2)
            rw [E j x y e1 e2] at je
            obtain ⟨c, hc'⟩ := pcmps_each o xs ys b hc j x y e1 e2 je
            have e3 : (pcmp o (xs.getD j .none) (ys.getD j .none)).getD false = c := by
              rw [List.getD_eq_getElem?_getD, List.getD_eq_getElem?_getD, e1, e2]
              show (pcmp o x y).getD false = c
              rw [hc']; rfl
            rw [e3]
            exact ih x y A.in1 _ _ _ _ c (by have := depth_mem e1; omega) r1 r2 (lay_mem la e1) (lay_mem lb e2) (by show A.units + 1 + n + 1 < cLine; omega) hc'
def oLt : Ords := ⟨.Lt, fun i j => decide (i < j), fun i j => decide (i.cps.toList < j.cps.toList), fun n m => decide (n < m)⟩
def oLe : Ords := ⟨.LtE, fun i j => decide (i ≤ j), fun i j => !decide (j.cps.toList < i.cps.toList), fun n m => decide (n ≤ m)⟩
def oGt : Ords := ⟨.Gt, fun i j => decide (j < i), fun i j => decide (j.cps.toList < i.cps.toList), fun n m => decide (n > m)⟩
def oGe : Ords := ⟨.GtE, fun i j => decide (j ≤ i), fun i j => !decide (i.cps.toList < j.cps.toList), fun n m => decide (n ≥ m)⟩
theorem oLt_ok : oLt.Ok := ⟨fun _ _ a b t u => Ob.RcOp.lt_int a b t u, fun _ _ _ _ _ _ _ _ _ _ h => PyProof.Rows.lt_str h, fun a b c d e => Ob.RcOp.tuples_lt a b c d e, fun n m => by simp [oLt]⟩
theorem oLe_ok : oLe.Ok := ⟨fun _ _ a b t u => Ob.RcOp.le_int a b t u, fun _ _ _ _ _ _ _ _ _ _ h => PySem.P.le_str h, fun a b c d e => Ob.RcOp.tuples_le a b c d e, fun n m => by simp [oLe]⟩
theorem oGt_ok : oGt.Ok := ⟨fun _ _ a b t u => Ob.RcOp.gt_int a b t u, fun _ _ _ _ _ _ _ _ _ _ h => PySem.P.gt_str h, fun a b c d e => Ob.RcOp.tuples_gt a b c d e, fun n m => by simp [oGt]⟩
theorem oGe_ok : oGe.Ok := ⟨fun _ _ a b t u => Ob.RcOp.ge_int a b t u, fun _ _ _ _ _ _ _ _ _ _ h => PySem.P.ge_str h, fun a b c d e => Ob.RcOp.tuples_ge a b c d e, fun n m => by simp [oGe]⟩
def rCmp (K : PySem.W.Frag) (o : Ords) : R2 := fun x y H Q => ∃ d e b, Dp K H x d ∧ Dp K H y e ∧ SeqAt.shaped d = true ∧ SeqAt.shaped e = true ∧ pcmp o d e = some b ∧ Q (.bl b) H
theorem op_cmpD {X : Cx} (o : Ords) (ok : o.Ok) (ho : ∀ (x y : Value), compareOp o.op x y = richCompare o.op x y) (hu : X.A.units + 70 < cLine) : OpR X (compareOp o.op) (rCmp X.K o) := by
  intro pins s σ H x y v u Q I rx ry h
  obtain ⟨d, e, b, hd, he, sd, se, c, q⟩ := h
  obtain ⟨as, r1⟩ := Dp.reads I d x v hd rx
  obtain ⟨bs, r2⟩ := Dp.reads I e y u he ry
  have l := SeqAt.depth_of_shaped sd
  have z := rc_reads o ok 64 d e X.A v u as bs b l r1 r2 (SeqAt.canLay_of_shaped sd) (SeqAt.canLay_of_shaped se) (by omega) c
  rw [ho]
  exact z X.prog X.w X.xe (EP X pins σ Q) ⟨.bl b, H, I, rfl, q⟩
/-- ints first, then the rest -/
def ordF (o : Ords) : Hs → Val → Val → R Val := or2 (onII fun h i j => .ok (.bl (o.ci i j)) h) (onPy fun h x y => match pcmp o x y with
  | some b => .ok (.bl b) h
  | none => .no)
abbrev ltF := ordF oLt
abbrev leF := ordF oLe
abbrev gtF := ordF oGt
abbrev geF := ordF oGe
theorem units70 {k : Nat} {A : Around} (r : Room k A) : A.units + 70 < cLine := by have := r.un; omega
theorem units65 {k : Nat} {A : Around} (r : Room k A) : A.units + 65 < cLine := by have := r.un; omega
section
variable {X : Cx} {a b : Expr} {x y : EM} {pos : Pos} {k : Nat} {K : PySem.W.Frag} {mg : Str → Option Value}
theorem p2_IB {g : Int → Int → Bool} : P2 K mg (rI0 fun i j => .bl (g i j)) (onII fun h i j => .ok (.bl (g i j)) h) := p2_II fun _ _ _ _ _ _ _ i j _ a o => ⟨i, j, rfl, rfl, o.sameV a rfl⟩
theorem p2_cmp (o : Ords) : P2 K mg (rCmp K o) (onPy fun h x y => match pcmp o x y with
  | some b => .ok (.bl b) h
  | none => .no) := p2_py fun _ _ _ _ _ _ _ _ _ x y _ a d1 d2 s1 s2 ou => by
    cases c : pcmp o x y with
    | none => rw [c] at ou; exact ou.elim
    | some b => rw [c] at ou; exact ⟨x, y, b, d1, d2, s1, s2, c, ou.sameV a rfl⟩
theorem se_lt (hr : Room k X.A) (ha : SE X a x) (hb : SE X b y) : SE X (.Compare a [.Lt] [b] pos) (op2 ltF x y) :=
  se_cmp (op_lt.or (op_cmpD oLt oLt_ok (fun _ _ => rfl) (units70 hr))) (p2_IB.or (p2_cmp oLt)) ha hb
theorem se_le (hr : Room k X.A) (ha : SE X a x) (hb : SE X b y) : SE X (.Compare a [.LtE] [b] pos) (op2 leF x y) :=
  se_cmp (op_le.or (op_cmpD oLe oLe_ok (fun _ _ => rfl) (units70 hr))) (p2_IB.or (p2_cmp oLe)) ha hb
theorem se_gt (hr : Room k X.A) (ha : SE X a x) (hb : SE X b y) : SE X (.Compare a [.Gt] [b] pos) (op2 gtF x y) :=
  se_cmp (op_gt.or (op_cmpD oGt oGt_ok (fun _ _ => rfl) (units70 hr))) (p2_IB.or (p2_cmp oGt)) ha hb
theorem se_ge (hr : Room k X.A) (ha : SE X a x) (hb : SE X b y) : SE X (.Compare a [.GtE] [b] pos) (op2 geF x y) :=
  se_cmp (op_ge.or (op_cmpD oGe oGe_ok (fun _ _ => rfl) (units70 hr))) (p2_IB.or (p2_cmp oGe)) ha hb
end

/-! ### in, not in -/
def rInT (K : PySem.W.Frag) (neg : Bool) : R2 := fun x y H Q => ∃ d ds, Dp K H x d ∧ Dp K H y (.tuple ds) ∧ SeqAt.shaped d = true ∧ SeqAt.shaped (.tuple ds) = true ∧ Q (.bl (neg != ds.any fun z => PyData.eqv z d)) H
theorem op_inT {X : Cx} (hu : X.A.units + 65 < cLine) : OpR X (compareOp .In) (rInT X.K false) := by
  intro pins s σ H x y v u Q I rx ry h
  obtain ⟨d, ds, hd, he, sd, se, q⟩ := h
  obtain ⟨as, r1⟩ := Dp.reads I d x v hd rx
  obtain ⟨bs, r2⟩ := Dp.reads I (.tuple ds) y u he ry
  refine SeqAt.in_tuple_reads r2 r1 (SeqAt.canLay_of_shaped se) (SeqAt.canLay_of_shaped sd) (room_in_shaped sd hu) ⟨.bl _, H, I, rfl, ?_⟩
  simpa using q
theorem op_notInT {X : Cx} (hu : X.A.units + 65 < cLine) : OpR X (compareOp .NotIn) (rInT X.K true) := by
  intro pins s σ H x y v u Q I rx ry h
  obtain ⟨d, ds, hd, he, sd, se, q⟩ := h
  obtain ⟨as, r1⟩ := Dp.reads I d x v hd rx
  obtain ⟨bs, r2⟩ := Dp.reads I (.tuple ds) y u he ry
  refine SeqAt.notIn_tuple_reads r2 r1 (SeqAt.canLay_of_shaped se) (SeqAt.canLay_of_shaped sd) (room_in_shaped sd hu) ⟨.bl _, H, I, rfl, ?_⟩
  simpa using q
/-- a key as a value -/
def keyOf : Val → Option Key
  | .int i => some (.inl i)
  | .str s => some (.inr s)
  | _ => none
theorem keyOf_ok {K : PySem.W.Frag} {G H : Hp} {m : List Addr} {d : Val} {v : V} {k : Key} (q : RP K G m H d v) (e : keyOf d = some k) : v = kV k := by
  cases d <;> first | cases e | skip
  all_goals exact q
/-- the pairs of a dict -/
def asD (h : Hs) : Val → Option (List (Key × Val))
  | .ref l => match h[l]? with
    | some (.dct kvs) => some kvs
    | _ => none
  | .dct ks ds => some (ks.zip ds)
  | .td ks ds => some (ks.zip ds)
  | _ => none
section
variable {K : PySem.W.Frag} {mg : Str → Option Value} {W : WX} {G H : Hp} {m : List Addr} {h : Hs} {r : Sl} {s : L2.St}
theorem zip_fst {α β : Type} : ∀ {ks : List α} {ds : List β}, ks.length = ds.length → (ks.zip ds).map (·.1) = ks
  | [], _, _ => rfl
  | _ :: _, [], h => by simp at h
  | k :: ks, d :: ds, h => by simp [zip_fst (ks := ks) (ds := ds) (by simpa using h)]
theorem zip_snd {α β : Type} : ∀ {ks : List α} {ds : List β}, ks.length = ds.length → (ks.zip ds).map (·.2) = ds
  | [], [], _ => rfl
  | [], _ :: _, h => by simp at h
  | _ :: _, [], h => by simp at h
  | k :: ks, d :: ds, h => by simp [zip_snd (ks := ks) (ds := ds) (by simpa using h)]
theorem asD_ok (a : At K r h m G s H) {d : Val} {v : V} {kvs : List (Key × Val)} (q : RP K G m H d v) (e : asD h d = some kvs) :
    ∃ p kxs, v = .ref p ∧ Rd H p (.dK kxs) ∧ kxs.length ≤ sizeLine ∧ kxs.map (·.1) = kvs.map (·.1) ∧ RVs K G m (kvs.map (·.2)) (kxs.map (·.2)) := by
  cases d with
  | ref l =>
    obtain ⟨p, ev, i⟩ := q
    unfold asD at e
    dsimp only at e
    cases o : h[l]? with
    | none => rw [o] at e; cases e
    | some ob =>
      rw [o] at e
      cases ob with
      | lst _ => cases e
      | dct es =>
        cases e
        obtain ⟨xs, e1, z, y, w⟩ := a.h.ob l _ p o i
        exact ⟨p, xs, ev, .inl (a.e _ _ e1), z, y, w⟩
  | dct ks ds =>
    cases e
    obtain ⟨p, xs, ev, t, n, z, y, w⟩ := q
    have l1 := w.length
    have l : ks.length = ds.length := by rw [l1, ← y]; simp
    exact ⟨p, xs, ev, ex_rd a.e t, z, by rw [zip_fst l, y], by rw [zip_snd l]; exact w⟩
  | td ks ds =>
    cases e
    obtain ⟨p, xs, ev, t, n, z, y, w⟩ := q
    have l1 := w.length
    have l : ks.length = ds.length := by rw [l1, ← y]; simp
    exact ⟨p, xs, ev, .inl t, z, by rw [zip_fst l, y], by rw [zip_snd l]; exact w⟩
  | _ => cases e
/-- the value at a key -/
def dval (kvs : List (Key × Val)) (k : Key) : Option Val := (kvs.find? fun kv => decide (kv.1 = k)).map (·.2)
theorem dval_ok : ∀ {kvs : List (Key × Val)} {kxs : List (Key × V)} (k : Key), kxs.map (·.1) = kvs.map (·.1) → RVs K G m (kvs.map (·.2)) (kxs.map (·.2)) →
    (dval kvs k = none ∧ valV kxs k = none) ∨ ∃ d v, dval kvs k = some d ∧ valV kxs k = some v ∧ RV K G m d v
  | [], [], k, _, _ => .inl ⟨rfl, rfl⟩
  | [], _ :: _, k, e, _ => by simp at e
  | _ :: _, [], k, e, _ => by simp at e
  | (k1, d) :: kvs, (k2, v) :: kxs, k, e, q => by
    obtain ⟨x, xs, e1, a, b⟩ := q
    simp only [List.map_cons, List.cons.injEq] at e e1
    obtain ⟨ek, e⟩ := e
    obtain ⟨ev, e1⟩ := e1
    subst ek ev e1
    by_cases c : k2 = k
    · refine .inr ⟨d, v, ?_, valV_pos (p := (k2, v)) c, a⟩
      unfold dval
      rw [List.find?_cons_of_pos (by simpa using c)]; rfl
    · have h1 : dval ((k2, d) :: kvs) k = dval kvs k := by
        unfold dval
        rw [List.find?_cons_of_neg (by simpa using c)]
      rw [h1, valV_neg (p := (k2, v)) c]
      exact dval_ok k e b
def onKD (f : Hs → Key → List (Key × Val) → R Val) (h : Hs) (a b : Val) : R Val := match keyOf a, asD h b with
  | some k, some kvs => f h k kvs
  | _, _ => .no
def onDK (f : Hs → List (Key × Val) → Key → R Val) (h : Hs) (a b : Val) : R Val := match asD h a, keyOf b with
  | some kvs, some k => f h kvs k
  | _, _ => .no
theorem p2_KD {t : R2} {f : Hs → Key → List (Key × Val) → R Val} (p : ∀ W r h m G s H k kvs Q p kxs, At K r h m G s H → Rd H p (.dK kxs) → kxs.map (·.1) = kvs.map (·.1) → RVs K G m (kvs.map (·.2)) (kxs.map (·.2)) → Out K mg W (relV K) s m G H Q (f h k kvs) → t (kV k) (.ref p) H Q) : P2 K mg t (onKD f) := by
  intro W r h m G s H a v b u Q at_ ra rb o
  unfold onKD at o
  cases e1 : keyOf a with
  | none => rw [e1] at o; exact o.elim
  | some k =>
    rw [e1] at o
    cases e2 : asD h b with
    | none => rw [e2] at o; exact o.elim
    | some kvs =>
      rw [e2] at o
      obtain ⟨q, kxs, rfl, z1, z2, z3, z4⟩ := asD_ok at_ rb e2
      rw [keyOf_ok ra e1]
      exact p W r h m G s H k kvs Q q kxs at_ z1 z3 z4 o
theorem p2_DK {t : R2} {f : Hs → List (Key × Val) → Key → R Val} (p : ∀ W r h m G s H k kvs Q p kxs, At K r h m G s H → Rd H p (.dK kxs) → kxs.map (·.1) = kvs.map (·.1) → RVs K G m (kvs.map (·.2)) (kxs.map (·.2)) → Out K mg W (relV K) s m G H Q (f h kvs k) → t (.ref p) (kV k) H Q) : P2 K mg t (onDK f) := by
  intro W r h m G s H a v b u Q at_ ra rb o
  unfold onDK at o
  cases e2 : asD h a with
  | none => rw [e2] at o; exact o.elim
  | some kvs =>
    rw [e2] at o
    cases e1 : keyOf b with
    | none => rw [e1] at o; exact o.elim
    | some k =>
      rw [e1] at o
      obtain ⟨q, kxs, rfl, z1, z2, z3, z4⟩ := asD_ok at_ ra e2
      rw [keyOf_ok rb e1]
      exact p W r h m G s H k kvs Q q kxs at_ z1 z3 z4 o
end
def rInDk (neg : Bool) : R2 := fun x y H Q => ∃ a o, y = .ref a ∧ DGet H a x o ∧ Q (.bl (neg != o.isSome)) H
theorem op_inDk {X : Cx} (hu : X.A.units + 1 < cLine) : OpR X (compareOp .In) (rInDk false) := by
  intro pins s σ H x y v u Q I rx ry h
  obtain ⟨a, ov, rfl, g, q⟩ := h
  cases ry
  exact d_in hu I g rx fun s3 I3 => ⟨.bl ov.isSome, H, I3, rfl, by simpa using q⟩
theorem op_notInDk {X : Cx} (hu : X.A.units + 1 < cLine) : OpR X (compareOp .NotIn) (rInDk true) := by
  intro pins s σ H x y v u Q I rx ry h
  obtain ⟨a, ov, rfl, g, q⟩ := h
  cases ry
  exact d_notIn hu I g rx fun s3 I3 => ⟨.bl (!ov.isSome), H, I3, rfl, by simpa using q⟩
/-- the one sign of a text -/
def oneSign (s : Str) : Option Nat := match s.cps.toList with
  | [c] => some c
  | _ => none
theorem oneSign_ok {s : Str} {c : Nat} (h : oneSign s = some c) : s = ⟨#[c]⟩ := by
  unfold oneSign at h
  split at h
  · rename_i c' e
    cases h
    have : s.cps = #[c] := by apply Array.ext'; simpa using e
    cases s; simp at this; rw [this]
  · cases h
def inF (neg : Bool) : Hs → Val → Val → R Val :=
  or2 (onSS fun h i j => match oneSign i with
    | some c => .ok (.bl (neg != decide (c ∈ j.cps.toList))) h
    | none => .no)
  (or2 (onKD fun h k kvs => .ok (.bl (neg != (dval kvs k).isSome)) h)
    (onPy fun h x y => match y with
      | .list ds => .ok (.bl (neg != ds.any fun z => PyData.eqv z x)) h
      | .tuple ds => .ok (.bl (neg != ds.any fun z => PyData.eqv z x)) h
      | _ => .no))
section
variable {X : Cx} {a b : Expr} {x y : EM} {pos : Pos} {k : Nat} {K : PySem.W.Frag} {mg : Str → Option Value}
theorem p2_inS (neg : Bool) : P2 K mg (fun x y H Q => ∃ (c : Nat) (z : Str), x = .str ⟨#[c]⟩ ∧ y = .str z ∧ Q (.bl (neg != decide (c ∈ z.cps.toList))) H) (onSS fun h i j => match oneSign i with
    | some c => .ok (.bl (neg != decide (c ∈ j.cps.toList))) h
    | none => .no) := p2_SS fun _ _ _ _ _ _ _ i j _ a o => by
  cases e : oneSign i with
  | none => rw [e] at o; exact o.elim
  | some c => rw [e] at o; exact ⟨c, j, by rw [oneSign_ok e], rfl, o.sameV a rfl⟩
theorem p2_inDk (neg : Bool) : P2 K mg (rInDk neg) (onKD fun h k kvs => .ok (.bl (neg != (dval kvs k).isSome)) h) := p2_KD fun _ _ _ _ _ _ _ k kvs _ p kxs a z1 z3 z4 o => by
  refine ⟨p, valV kxs k, rfl, .inl ⟨kxs, k, z1, rfl, rfl⟩, ?_⟩
  rcases dval_ok k z3 z4 with ⟨e1, e2⟩ | ⟨d, v, e1, e2, _⟩
  · rw [e1] at o; rw [e2]; exact o.sameV a rfl
  · rw [e1] at o; rw [e2]; exact o.sameV a rfl
def rInD2 (K : PySem.W.Frag) (neg : Bool) : R2 := fun x y H Q => (∃ d ds, Dp K H x d ∧ Dp K H y (.list ds) ∧ SeqAt.shaped d = true ∧ SeqAt.shaped (.list ds) = true ∧ Q (.bl (neg != ds.any fun z => PyData.eqv z d)) H) ∨ rInT K neg x y H Q
theorem op_inL {X : Cx} (hu : X.A.units + 65 < cLine) : OpR X (compareOp .In) (fun x y H Q => ∃ d ds, Dp X.K H x d ∧ Dp X.K H y (.list ds) ∧ SeqAt.shaped d = true ∧ SeqAt.shaped (.list ds) = true ∧ Q (.bl (false != ds.any fun z => PyData.eqv z d)) H) := by
  intro pins s σ H x y v u Q I rx ry h
  obtain ⟨d, ds, hd, he, sd, se, q⟩ := h
  exact op_inD hu pins s σ H x y v u Q I rx ry ⟨d, ds, hd, he, sd, se, by simpa using q⟩
theorem op_notInL {X : Cx} (hu : X.A.units + 65 < cLine) : OpR X (compareOp .NotIn) (fun x y H Q => ∃ d ds, Dp X.K H x d ∧ Dp X.K H y (.list ds) ∧ SeqAt.shaped d = true ∧ SeqAt.shaped (.list ds) = true ∧ Q (.bl (true != ds.any fun z => PyData.eqv z d)) H) := by
  intro pins s σ H x y v u Q I rx ry h
  obtain ⟨d, ds, hd, he, sd, se, q⟩ := h
  exact op_notInD hu pins s σ H x y v u Q I rx ry ⟨d, ds, hd, he, sd, se, by simpa using q⟩
theorem p2_inD (neg : Bool) : P2 K mg (rInD2 K neg) (onPy fun h x y => match y with
      | .list ds => .ok (.bl (neg != ds.any fun z => PyData.eqv z x)) h
      | .tuple ds => .ok (.bl (neg != ds.any fun z => PyData.eqv z x)) h
      | _ => .no) := p2_py fun _ _ _ _ _ _ _ _ _ x y _ a d1 d2 s1 s2 ou => by
  cases y <;> try exact ou.elim
  · exact .inl ⟨x, _, d1, d2, s1, s2, ou.sameV a rfl⟩
  · exact .inr ⟨x, _, d1, d2, s1, s2, ou.sameV a rfl⟩
theorem op_inSg {X : Cx} : OpR X (compareOp .In) (fun x y H Q => ∃ (c : Nat) (z : Str), x = .str ⟨#[c]⟩ ∧ y = .str z ∧ Q (.bl (false != decide (c ∈ z.cps.toList))) H) := by
  intro pins s σ H x y v u Q I rx ry h
  obtain ⟨c, z, e1, e2, q⟩ := h
  exact op_in_sign pins s σ H x y v u Q I rx ry ⟨c, z, e1, e2, by simpa using q⟩
theorem op_notInSg {X : Cx} : OpR X (compareOp .NotIn) (fun x y H Q => ∃ (c : Nat) (z : Str), x = .str ⟨#[c]⟩ ∧ y = .str z ∧ Q (.bl (true != decide (c ∈ z.cps.toList))) H) := by
  intro pins s σ H x y v u Q I rx ry h
  obtain ⟨c, z, e1, e2, q⟩ := h
  exact op_notIn_sign pins s σ H x y v u Q I rx ry ⟨c, z, e1, e2, by simpa using q⟩
theorem se_in (hr : Room k X.A) (ha : SE X a x) (hb : SE X b y) (hm : behindInMarks .In b = false := by rfl) : SE X (.Compare a [.In] [b] pos) (op2 (inF false) x y) :=
  se_cmp (op_inSg.or ((op_inDk (hu_of hr)).or (OpR.or (op_inL (units65 hr)) (op_inT (units65 hr))))) ((p2_inS false).or ((p2_inDk false).or (p2_inD false))) ha hb hm
theorem se_nin (hr : Room k X.A) (ha : SE X a x) (hb : SE X b y) (hm : behindInMarks .NotIn b = false := by rfl) : SE X (.Compare a [.NotIn] [b] pos) (op2 (inF true) x y) :=
  se_cmp (op_notInSg.or ((op_notInDk (hu_of hr)).or (OpR.or (op_notInL (units65 hr)) (op_notInT (units65 hr))))) ((p2_inS true).or ((p2_inDk true).or (p2_inD true))) ha hb hm
end
end Rg
namespace Rg
open PySem PySem.Spec PyProof.Rows L2

/-! ### a[i] -/
def ixD : R2 := fun x y H Q => ∃ a v, x = .ref a ∧ DGet H a y (some v) ∧ Q v H
theorem ix_dict {X : Cx} (hu : X.A.units + 1 < cLine) : IxR X ixD := by
  intro value slice pins s σ H x y v u Q I rx ry h hs
  obtain ⟨a, w, rfl, g, q⟩ := h
  cases rx
  exact tail_any (dict_typeIs I g) PySem.F.slot_dict_getitem.lookup (d_getItem hu I g ry fun w' s3 I3 rw' => ⟨w, H, I3, rw', q⟩) hs
def optR (o : Option Val) (h : Hs) : R Val := match o with
  | some d => .ok d h
  | none => .no
def ixF : Hs → Val → Val → R Val :=
  or2 (onTI fun h ds i => optR (atI ds i) h) (or2 (onLI fun h ds i => optR (atI ds i) h)
    (or2 (onDK fun h kvs k => optR (dval kvs k) h) (onSI fun h z i => gd (z.length ≤ sizeLine) (match atI z.cps.toList i with
      | some c => .ok (.str ⟨#[c]⟩) h
      | none => .no))))
section
variable {K : PySem.W.Frag} {mg : Str → Option Value} {W : WX} {G H : Hp} {m : List Addr} {h : Hs} {r : Sl} {s : L2.St}
theorem atI_rv {ds : List Val} {xs : List V} {i : Int} {d : Val} (q : RVs K G m ds xs) (e : atI ds i = some d) : ∃ v, atI xs i = some v ∧ RV K G m d v := by
  unfold atI at e ⊢
  rw [← q.length]
  cases z : ixN ds.length i with
  | none => rw [z] at e; cases e
  | some j =>
    rw [z] at e
    exact RVs.get (i := j) q e
end
section
variable {X : Cx} {a b : Expr} {x y : EM} {pos : Pos} {k : Nat} {K : PySem.W.Frag} {mg : Str → Option Value}
theorem se_ixA (hr : Room k X.A) (ha : SE X a x) (hb : SE X b y) (hs : PlainIx b := by exact fun _ _ => rfl) : SE X (.Subscript a b pos) (op2 ixF x y) :=
  se_ix (ix_tup.or (ix_list.or ((ix_dict (hu_of hr)).or ix_str))) (P2.or
    (p2_TI fun _ _ _ _ _ _ _ ds i Q p xs a s1 z1 w1 o => by
      cases e : atI ds i with
      | none => rw [e] at o; exact o.elim
      | some d =>
        rw [e] at o
        obtain ⟨v, e1, e2⟩ := atI_rv w1 e
        exact ⟨p, xs, i, v, rfl, rfl, s1, e1, o.sameV a e2⟩)
    (P2.or (p2_LI fun _ _ _ _ _ _ _ ds i Q p xs a s1 z1 w1 o => by
      cases e : atI ds i with
      | none => rw [e] at o; exact o.elim
      | some d =>
        rw [e] at o
        obtain ⟨v, e1, e2⟩ := atI_rv w1 e
        exact ⟨p, xs, i, v, rfl, rfl, s1, e1, o.sameV a e2⟩)
    (P2.or (p2_DK fun _ _ _ _ _ _ _ k kvs Q p kxs a z1 z3 z4 o => by
      rcases dval_ok k z3 z4 with ⟨e1, _⟩ | ⟨d, v, e1, e2, e3⟩
      · rw [e1] at o; exact o.elim
      · rw [e1] at o
        exact ⟨p, v, rfl, .inl ⟨kxs, k, z1, rfl, e2.symm⟩, o.sameV a e3⟩)
    (p2_SI fun _ _ _ _ _ _ _ z i Q a o => by
      obtain ⟨c, o⟩ := o.gd
      cases e : atI z.cps.toList i with
      | none => rw [e] at o; exact o.elim
      | some d => rw [e] at o; exact ⟨z, i, d, rfl, rfl, c, e, o.sameV a rfl⟩)))) ha hb hs
end

/-! ### arguments and displays -/
structure SA (X : Cx) (es : List Expr) (x : AM) : Prop where
  run : ∀ W, Takes X W → PA X es (tA X.K X.mg W x)
def aNil : AM := fun _ h => .ok [] h
def aCons (x : EM) (xs : AM) : AM := fun r h => (x r h).bind fun d h1 => gd (isTmp d = false) ((xs r h1).bind fun ds h2 => .ok (d :: ds) h2)
theorem _root_.L2.PA.imp {X : Cx} {es : List Expr} {t t' : TA} (p : PA X es t) (i : ∀ s H Q, t' s H Q → t s H Q) : PA X es t' := ⟨fun pos pins s σ H Q I q => p.run pos pins s σ H Q I (i _ _ _ q)⟩
def tupM (xs : AM) : EM := fun r h => (xs r h).bind fun ds h1 => gd (ds.length ≤ sizeLine) (.ok (.tup ds) h1)
def lstM (xs : AM) : EM := fun r h => (xs r h).bind fun ds h1 => gd (ds.length ≤ sizeLine) (.ok (.tl ds) h1)
def dctM : EM := fun _ h => .ok (.td [] []) h
section
variable {X : Cx} {e : Expr} {es : List Expr} {x : EM} {xs : AM} {pos : Pos}
theorem sa_nil : SA X [] aNil := ⟨fun W _ => pa_nil.imp fun s H Q ⟨r, h, m, G, a, o⟩ => o.same (v := []) a (rfl : ([] : List V) = [])⟩
theorem sa_cons (he : SE X e x) (hes : SA X es xs) (hs : starEach (e :: es) X.env = (false, eval e X.env) :: starEach es X.env := by rfl) : SA X (e :: es) (aCons x xs) :=
  ⟨fun W tk => (pa_cons (he.run W tk) (hes.run W tk) hs).imp fun s H Q ⟨r, h, m, G, a, o⟩ => by
    refine step mono_A a o fun d h1 m1 G1 H1 v a1 k1 ⟨rl, _⟩ o1 => ?_
    obtain ⟨c, o1⟩ := o1.gd
    refine step mono_A a1 o1 fun ds h2 m2 G2 H2 vs a2 k2 rl2 o2 => ?_
    exact o2.same a2 ⟨v, vs, rfl, RV.stay (k2.sty a1.e a1.h) (RP.rv rl c), rl2⟩⟩
theorem se_tup {z} (hes : SA X es xs) : SE X (.Tuple es z pos) (tupM xs) := ⟨fun W tk => (pe_tup (hes.run W tk)).imp fun s H Q ⟨r, h, m, G, a, o⟩ => by
  refine step mono_V a o fun ds h1 m1 G1 H1 vs a1 k1 rl o1 => ?_
  obtain ⟨c, o1⟩ := o1.gd
  have l := RVs.length rl
  exact ⟨by omega, Out.newT a1 o1 (by omega) rl⟩⟩
theorem se_lst (hes : SA X es xs) : SE X (.List es pos) (lstM xs) := ⟨fun W tk => (pe_lst (hes.run W tk)).imp fun s H Q ⟨r, h, m, G, a, o⟩ => by
  refine step mono_V a o fun ds h1 m1 G1 H1 vs a1 k1 rl o1 => ?_
  obtain ⟨c, o1⟩ := o1.gd
  have l := RVs.length rl
  exact ⟨by omega, Out.tmpL a1 o1 (by omega) rl⟩⟩
theorem se_dct : SE X (.Dict [] [] pos) dctM := ⟨fun W tk => pe_dnewK.imp fun s H Q ⟨r, h, m, G, a, o⟩ => fun p hp => by
  have k : Kp m G H m G (upd H p (.dK [])) := kp_tmp (o := .dK []) a.e hp
  exact o m G _ (.ref p) k a.h ⟨⟨p, [], rfl, upd_same, Ex.none a.e hp, Nat.zero_le _, rfl, (rfl : ([] : List V) = [])⟩, fun b e => by cases e; exact hp⟩⟩
end

/-! ### a temporary is frozen, is made a changeable object -/
def fzV : Val → Val
  | .tl ds => .lst ds
  | .td ks ds => .dct ks ds
  | d => d
def fzE (x : EM) : EM := fun r h => (x r h).bind fun d h1 => .ok (fzV d) h1
def mtR (d : Val) (h : Hs) : R Val := match d with
  | .tl ds => .ok (.ref h.length) (h ++ [.lst ds])
  | .td ks ds => .ok (.ref h.length) (h ++ [.dct (ks.zip ds)])
  | d => .ok d h
def mtE (x : EM) : EM := fun r h => (x r h).bind mtR
section
variable {K : PySem.W.Frag} {mg : Str → Option Value} {W : WX} {G G1 H H1 : Hp} {m m1 : List Addr} {h h1 : Hs} {r : Sl} {s : L2.St}
/-- what was made on the way is spoken of -/
theorem Kp.more {a : Addr} {o : HO} (k : Kp m G H m1 G1 H1) (h1 : H1 a = some o) (g1 : G1 a = none) (h0 : H a = none) : Kp m G H m1 (upd G1 a o) H1 := by
  refine ⟨k.h, fun b x q n => ?_, fun b q z => ?_, k.pf, k.n, fun b x q => ?_⟩
  · have := k.g b x q n
    rw [upd_ne (ne_of_none this g1)]; exact this
  · have : b ≠ a := fun w => by rw [w] at z; exact z h0
    rw [upd_ne this]; exact k.p b q z
  · by_cases w : b = a
    · subst w; rw [upd_same] at q; rw [h1]; exact q
    · rw [upd_ne w] at q; exact k.e b x q
theorem Kp.cell {a : Addr} {o : HO} (k : Kp m G H m1 G1 H1) (h1 : H1 a = some o) (g1 : G1 a = none) (h0 : H a = none) : Kp m G H (m1 ++ [a]) (upd G1 a o) H1 := by
  have k' := k.more h1 g1 h0
  refine ⟨k'.h, k'.g, k'.p, k.pf.trans (List.prefix_append _ _), fun b i => ?_, k'.e⟩
  rcases List.mem_append.mp i with i | i
  · exact k.n b i
  · have : b = a := by simpa using i
    subst this; exact .inr h0
theorem sty_cell {a : Addr} {o : HO} (rh : RH K h m G) (gn : G a = none) : Sty m G (m ++ [a]) (upd G a o) :=
  ⟨fun b x q _ => by rw [upd_ne (ne_of_none q gn)]; exact q, rh.mu, List.prefix_append _ _, fun b q i => by
    rcases List.mem_append.mp i with i | i
    · exact i
    · have : b = a := by simpa using i
      subst this; exact absurd gn q⟩
theorem RH.cell {a : Addr} {ho : HO} {ob : Ob} (rh : RH K h m G) (gn : G a = none) (mu : isMut ho) (ro : RO K (upd G a ho) (m ++ [a]) a ob) : RH K (h ++ [ob]) (m ++ [a]) (upd G a ho) := by
  have na : a ∉ m := fun i => rh.some i gn
  have ne : ∀ b ∈ m, b ≠ a := fun b i w => by subst w; exact na i
  refine ⟨by simp [rh.len], ?_, fun b i => ?_, fun l o b e1 e2 => ?_⟩
  · refine List.nodup_append.mpr ⟨rh.nd, by simp, fun x i y j => ?_⟩
    have : y = a := by simpa using j
    rw [this]; exact ne x i
  · rcases List.mem_append.mp i with i | i
    · obtain ⟨u, e, mu⟩ := rh.mu b i
      exact ⟨u, by rw [upd_ne (ne b i)]; exact e, mu⟩
    · have : b = a := by simpa using i
      subst this; exact ⟨ho, upd_same, mu⟩
  · by_cases c : l < h.length
    · rw [List.getElem?_append_left c] at e1
      rw [List.getElem?_append_left (by rw [← rh.len]; exact c)] at e2
      exact RO.stay (sty_cell rh gn) (upd_ne (ne b (List.mem_of_getElem? e2))) (rh.ob l o b e1 e2)
    · have e3 : l = h.length := by
        have := (List.getElem?_eq_some_iff.mp e1).1
        simp at this; omega
      subst e3
      rw [List.getElem?_append_right (Nat.le_refl _)] at e1
      rw [rh.len, List.getElem?_append_right (Nat.le_refl _)] at e2
      simp at e1 e2
      subst e1 e2
      exact ro
theorem out_fz {Q : VK} {d : Val} {h' : Hs} (a : At K r h m G s H) (o : Out K mg W (relV K) s m G H Q (.ok (fzV d) h')) : Out K mg W (relV K) s m G H Q (.ok d h') := by
  intro m' G' H' v k rh ⟨rl, fr⟩
  cases d with
  | tl ds =>
    obtain ⟨p, xs, rfl, e1, e2, z, q⟩ := rl
    have st : Sty m' G' m' (upd G' p (.lst xs)) := sty_new rh e2
    exact o m' (upd G' p (.lst xs)) H' _ (k.more e1 e2 (fr p rfl)) (rh.new e2) ⟨⟨p, xs, rfl, .inl ⟨.inl upd_same, fun i => rh.some i e2⟩, z, RVs.stay st q⟩, trivial⟩
  | td ks ds =>
    obtain ⟨p, xs, rfl, e1, e2, z, y, q⟩ := rl
    have st : Sty m' G' m' (upd G' p (.dK xs)) := sty_new rh e2
    exact o m' (upd G' p (.dK xs)) H' _ (k.more e1 e2 (fr p rfl)) (rh.new e2) ⟨⟨p, xs, rfl, .inl upd_same, fun i => rh.some i e2, z, y, RVs.stay st q⟩, trivial⟩
  | _ => exact o m' G' H' v k rh ⟨rl, fr⟩
theorem out_mt {Q : VK} {d : Val} {h' : Hs} (a : At K r h m G s H) (o : Out K mg W (relV K) s m G H Q (mtR d h')) : Out K mg W (relV K) s m G H Q (.ok d h') := by
  intro m' G' H' v k rh ⟨rl, fr⟩
  have nth : ∀ p : Addr, (m' ++ [p])[h'.length]? = some p := fun p => by
    rw [rh.len, List.getElem?_append_right (Nat.le_refl _)]; simp
  cases d with
  | tl ds =>
    obtain ⟨p, xs, rfl, e1, e2, z, q⟩ := rl
    have st : Sty m' G' (m' ++ [p]) (upd G' p (.lst xs)) := sty_cell rh e2
    exact o _ (upd G' p (.lst xs)) H' _ (k.cell e1 e2 (fr p rfl)) (rh.cell e2 trivial ⟨xs, upd_same, z, RVs.stay st q⟩) ⟨⟨p, rfl, nth p⟩, trivial⟩
  | td ks ds =>
    obtain ⟨p, xs, rfl, e1, e2, z, y, q⟩ := rl
    have st : Sty m' G' (m' ++ [p]) (upd G' p (.dK xs)) := sty_cell rh e2
    have l1 := q.length
    have l : ks.length = ds.length := by rw [l1, ← y]; simp
    exact o _ (upd G' p (.dK xs)) H' _ (k.cell e1 e2 (fr p rfl)) (rh.cell e2 trivial ⟨xs, upd_same, z, by rw [zip_fst l, y], by rw [zip_snd l]; exact RVs.stay st q⟩) ⟨⟨p, rfl, nth p⟩, trivial⟩
  | _ => exact o m' G' H' v k rh ⟨rl, fr⟩
end
section
variable {X : Cx} {e : Expr} {x : EM}
theorem se_fz (he : SE X e x) : SE X e (fzE x) := ⟨fun W tk => (he.run W tk).imp fun s H Q ⟨r, h, m, G, a, o⟩ => by
  refine ⟨r, h, m, G, a, ?_⟩
  unfold fzE at o
  cases e1 : x r h with
  | no => rw [e1] at o; exact o
  | rz y h' => rw [e1] at o; exact o
  | ok d h' => rw [e1] at o; exact out_fz a o⟩
theorem se_mt (he : SE X e x) : SE X e (mtE x) := ⟨fun W tk => (he.run W tk).imp fun s H Q ⟨r, h, m, G, a, o⟩ => by
  refine ⟨r, h, m, G, a, ?_⟩
  unfold mtE at o
  cases e1 : x r h with
  | no => rw [e1] at o; exact o
  | rz y h' => rw [e1] at o; exact o
  | ok d h' => rw [e1] at o; exact out_mt a o⟩
end

/-! ### slices -/
def cutD (xs : List Val) (lo hi : Option Int) : List Val := (xs.drop (HT.sIx xs.length 0 lo)).take (HT.sIx xs.length xs.length hi - HT.sIx xs.length 0 lo)
def sliceF (h : Hs) (d : Val) (lo hi : Option Int) : R Val := match asT d with
  | some ds => .ok (.tup (cutD ds lo hi)) h
  | none => match asL h d with
    | some ds => .ok (.tl (cutD ds lo hi)) h
    | none => match d with
      | .str z => gd (z.length ≤ sizeLine) (.ok (.str (cutS z lo hi)) h)
      | _ => .no
/-- a bound left out, or told -/
abbrev OM := Sl → Hs → R (Option Int)
def oNo : OM := fun _ h => .ok none h
def oSo (x : EM) : OM := fun r h => (x r h).bind fun d h1 => match d with
  | .int i => .ok (some i) h1
  | _ => .no
def relO (m' : List Addr) (G' H H' : Hp) (d v : Option Int) : Prop := d = v
theorem mono_O : Mono relO := fun _ _ _ _ _ _ _ _ q => q
structure SO (X : Cx) (e : Option Expr) (x : OM) : Prop where
  run : ∀ W, Takes X W → PO X e (tM X.K X.mg W relO x)
def slM (x : EM) (lo hi : OM) : EM := fun r h => (x r h).bind fun d h1 => (lo r h1).bind fun l h2 => (hi r h2).bind fun u h3 => sliceF h3 d l u
section
variable {X : Cx} {e : Expr} {lo hi : Option Expr} {x : EM} {l u : OM} {pos p2 : Pos}
theorem so_no : SO X none oNo := ⟨fun W tk => ⟨fun pins s σ H Q I ⟨r, h, m, G, a, o⟩ => po_none.run pins s σ H Q I (o.same (v := none) a rfl)⟩⟩
theorem so_so (he : SE X e x) : SO X (some e) (oSo x) := ⟨fun W tk => ⟨fun pins s σ H Q I ⟨r, h, m, G, a, o⟩ => (po_some (he.run W tk)).run pins s σ H Q I (by
  refine step mono_O a o fun d h1 m1 G1 H1 v a1 k1 ⟨rl, _⟩ o1 => ?_
  cases d <;> try exact o1.elim
  exact ⟨_, rl, o1.same (v := some _) a1 rfl⟩)⟩⟩
theorem se_slice (he : SE X e x) (hl : SO X lo l) (hh : SO X hi u) : SE X (.Subscript e (.Slice lo hi none p2) pos) (slM x l u) :=
  ⟨fun W tk => (pe_slice (sl_tupA.or (sl_list.or sl_str)) (he.run W tk) (hl.run W tk) (hh.run W tk)).imp fun s H Q ⟨r, h, m, G, a, o⟩ => by
    refine step mono_V a o fun d h1 m1 G1 H1 v a1 k1 ⟨rl, _⟩ o1 => ?_
    refine step mono_V a1 o1 fun lv h2 m2 G2 H2 lv' a2 k2 el o2 => ?_
    refine step mono_V a2 o2 fun uv h3 m3 G3 H3 uv' a3 k3 eu o3 => ?_
    have el' : lv = lv' := el
    have eu' : uv = uv' := eu
    subst el' eu'
    have rl3 := RP.stay k3 a2.e a2.h (RP.stay k2 a1.e a1.h rl)
    unfold sliceF at o3
    cases e1 : asT d with
    | some ds =>
      rw [e1] at o3
      dsimp only at o3
      obtain ⟨p, xs, rfl, s1, z1, w1⟩ := asT_ok a3 rl3 e1
      have dt : d = .tup ds := by cases d <;> first | cases e1; rfl | cases e1
      refine .inl ⟨p, xs, rfl, s1, fun ⟨c1, c2⟩ => ?_, fun _ => ?_⟩
      · have : cutD ds lv uv = ds := by
          unfold cutD
          rw [w1.length, c1, c2]
          exact List.take_of_length_le (by rw [List.drop_zero, w1.length]; omega)
        rw [this] at o3
        subst dt
        exact o3.sameV a3 (RP.rv rl3 rfl)
      · exact Out.newT a3 o3 (Nat.le_trans (cutV_length _ _ _) z1) (RVs.cut lv uv w1)
    | none =>
      rw [e1] at o3
      dsimp only at o3
      cases e2 : asL h3 d with
      | some ds =>
        rw [e2] at o3
        obtain ⟨p, xs, rfl, s1, z1, w1⟩ := asL_ok a3 rl3 e2
        exact .inr (.inl ⟨p, xs, rfl, s1, Out.tmpL a3 o3 (Nat.le_trans (cutV_length _ _ _) z1) (RVs.cut lv uv w1)⟩)
      | none =>
        rw [e2] at o3
        cases d <;> try exact o3.elim
        obtain ⟨c, o3⟩ := o3.gd
        exact .inr (.inr ⟨_, rl3, c, o3.sameV a3 rfl⟩)⟩
end
end Rg
namespace Rg
open PySem PySem.Spec PyProof.Rows L2

/-! ### tests -/
structure ST (X : Cx) (e : Expr) (x : EM) : Prop where
  run : ∀ W, Takes X W → PT X e (tB (tE X.K X.mg W x))
theorem _root_.L2.PT.imp {X : Cx} {e : Expr} {t t' : TT} (p : PT X e t) (i : ∀ s H Q, t' s H Q → t s H Q) : PT X e t' := ⟨fun pins s σ H Q I q => p.run pins s σ H Q I (i _ _ _ q)⟩
theorem _root_.L2.PW.imp {X : Cx} {e : Expr} {t t' : TT} (p : PW X e t) (i : ∀ s H Q, t' s H Q → t s H Q) : PW X e t' := ⟨fun wh pins s σ H Q I q => p.run wh pins s σ H Q I (i _ _ _ q)⟩
/-- the truth of a value -/
def tru (h : Hs) (d : Val) : Option Bool := match d with
  | .bl b => some b
  | .non => some false
  | .int i => some (i != 0)
  | .str z => if z.length ≤ sizeLine then some ((z.length : Int) != 0) else none
  | d => match asQ h d with
    | some ds => some (!ds.isEmpty)
    | none => none
def truE (x : EM) : EM := fun r h => (x r h).bind fun d h1 => match tru h1 d with
  | some b => .ok (.bl b) h1
  | none => .no
def notE (x : EM) : EM := fun r h => (x r h).bind fun d h1 => match d with
  | .bl b => .ok (.bl (!b)) h1
  | _ => .no
def andE (x y : EM) : EM := fun r h => (x r h).bind fun d h1 => match d with
  | .bl true => y r h1
  | .bl false => .ok (.bl false) h1
  | _ => .no
def orE (x y : EM) : EM := fun r h => (x r h).bind fun d h1 => match d with
  | .bl false => y r h1
  | .bl true => .ok (.bl true) h1
  | _ => .no
def ifE (c x y : EM) : EM := fun r h => (c r h).bind fun d h1 => match d with
  | .bl true => x r h1
  | .bl false => y r h1
  | _ => .no
section
variable {X : Cx} {e a b c : Expr} {x y z : EM} {pos : Pos} {rest : List Expr}
theorem RP.bl {K : PySem.W.Frag} {G H : Hp} {m : List Addr} {b : Bool} {v : V} (q : RP K G m H (.bl b) v) : v = .bl b := q
/-- a value that is a truth -/
theorem st_val (he : SE X e x) (hp : ∀ whole, isTrue e X.env whole = (do let v ← whole; standAt e.pos; holding [v] (truthy v)) := by intro _; rfl) : ST X e x := ⟨fun W tk => pt_val (he.run W tk) hp⟩
theorem st_cmp1 {op : CmpOp} {t : R2} {f : Hs → Val → Val → R Val} (ho : OpR X (compareOp op) t) (p : P2 X.K X.mg t f) (ha : SE X a x) (hb : SE X b y) (hm : behindInMarks op b = false := by first | exact nomark _ | rfl) : ST X (.Compare a [op] [b] pos) (op2 f x y) :=
  ⟨fun W tk => (pt_cmpR ho (ha.run W tk) (hb.run W tk) hm).imp fun s H Q q => tE_op2 p q⟩
theorem st_tru (he : SE X e x) (hp : ∀ whole, isTrue e X.env whole = (do let v ← whole; standAt e.pos; holding [v] (truthy v)) := by intro _; rfl) : ST X e (truE x) := ⟨fun W tk => (pt_truth (he.run W tk) hp).imp fun s H Q ⟨r, h, m, G, a, o⟩ => by
  refine step mono_V a o fun d h1 m1 G1 H1 v a1 k1 ⟨rl, _⟩ o1 => ?_
  have seq : ∀ ds, asQ h1 d = some ds → tru h1 d = some (!ds.isEmpty) → ∃ k, TruV X.K v H1 k ∧ Q k H1 := fun ds e1 e2 => by
    rw [e2] at o1
    obtain ⟨p, xs, rfl, s1, z1, w1⟩ := asQ_ok a1 rl e1
    have l := w1.length
    have e3 : ds.isEmpty = xs.isEmpty := by cases ds <;> cases xs <;> simp_all
    obtain ⟨b, eb, q⟩ := o1.sameV a1 rfl
    cases eb
    rw [e3] at q
    refine ⟨_, ?_, q⟩
    rcases s1 with s1 | s1
    · exact .inl ⟨xs, s1, rfl⟩
    · exact .inr (.inl ⟨xs, s1, rfl⟩)
  cases d with
  | bl b =>
    have ev : v = .bl b := rl
    subst ev
    obtain ⟨b', eb, q⟩ := o1.sameV a1 rfl
    cases eb
    exact ⟨b, rfl, q⟩
  | non =>
    have ev : v = .non := rl
    subst ev
    obtain ⟨b', eb, q⟩ := o1.sameV a1 rfl
    cases eb
    exact ⟨_, rfl, q⟩
  | int i =>
    have ev : v = .int i := rl
    subst ev
    obtain ⟨b', eb, q⟩ := o1.sameV a1 rfl
    cases eb
    exact ⟨_, rfl, q⟩
  | str i =>
    have ev : v = .str i := rl
    subst ev
    unfold tru at o1
    by_cases c : i.length ≤ sizeLine
    · simp only [if_pos c] at o1
      obtain ⟨b', eb, q⟩ := o1.sameV a1 rfl
      cases eb
      exact ⟨_, ⟨c, rfl⟩, q⟩
    · simp only [if_neg c] at o1
      exact o1.elim
  | tup ds => exact seq ds rfl rfl
  | lst ds => exact seq ds rfl rfl
  | tl ds => exact seq ds rfl rfl
  | ref l =>
    cases e1 : asQ h1 (.ref l) with
    | none => unfold tru at o1; simp only [e1] at o1; exact o1.elim
    | some ds => exact seq ds e1 (by unfold tru; simp only [e1])
  | dct _ _ => exact o1.elim
  | td _ _ => exact o1.elim⟩
theorem st_not (hc : ST X a x) : ST X (.UnaryOp .Not a pos) (notE x) := ⟨fun W tk => (pt_not (hc.run W tk)).imp fun s H Q ⟨r, h, m, G, a, o⟩ => by
  refine step mono_V a o fun d h1 m1 G1 H1 v a1 k1 ⟨rl, _⟩ o1 => ?_
  cases d <;> try exact o1.elim
  obtain ⟨b', eb, q⟩ := o1.sameV a1 rfl
  cases eb
  exact ⟨_, rl, q⟩⟩
/-- several, and -/
structure SW (X : Cx) (op : BoolOp) (es : List Expr) (pos : Pos) (x : EM) : Prop where
  run : ∀ W, Takes X W → PW X (.BoolOp op es pos) (tB (tE X.K X.mg W x))
theorem sw_and1 (ha : ST X a x) : SW X .And [a] pos x := ⟨fun W tk => pw_and1 (ha.run W tk)⟩
theorem sw_or1 (ha : ST X a x) : SW X .Or [a] pos x := ⟨fun W tk => pw_or1 (ha.run W tk)⟩
theorem sw_and (ha : ST X a x) (hb : SW X .And (b :: rest) pos y) : SW X .And (a :: b :: rest) pos (andE x y) := ⟨fun W tk => (pw_and (ha.run W tk) (hb.run W tk)).imp fun s H Q ⟨r, h, m, G, a, o⟩ => by
  refine step mono_V a o fun d h1 m1 G1 H1 v a1 k1 rl o1 => ?_
  replace rl := rl.1
  cases d <;> try exact o1.elim
  rename_i b
  refine ⟨b, rl, ?_⟩
  cases b with
  | true => exact last a1 o1
  | false =>
    obtain ⟨b', eb, q⟩ := o1.sameV a1 rfl
    cases eb
    exact q⟩
theorem sw_or (ha : ST X a x) (hb : SW X .Or (b :: rest) pos y) : SW X .Or (a :: b :: rest) pos (orE x y) := ⟨fun W tk => (pw_or (ha.run W tk) (hb.run W tk)).imp fun s H Q ⟨r, h, m, G, a, o⟩ => by
  refine step mono_V a o fun d h1 m1 G1 H1 v a1 k1 rl o1 => ?_
  replace rl := rl.1
  cases d <;> try exact o1.elim
  rename_i b
  refine ⟨b, rl, ?_⟩
  cases b with
  | false => exact last a1 o1
  | true =>
    obtain ⟨b', eb, q⟩ := o1.sameV a1 rfl
    cases eb
    exact q⟩
theorem st_bool {op : BoolOp} {es : List Expr} (h : SW X op es pos x) : ST X (.BoolOp op es pos) x := ⟨fun W tk => (h.run W tk).pt⟩
/-- .. as values -/
theorem se_not (ha : SE X a x) : SE X (.UnaryOp .Not a pos) (notE x) := ⟨fun W tk => (pe_not (ha.run W tk)).imp fun s H Q ⟨r, h, m, G, a, o⟩ => by
  refine step mono_V a o fun d h1 m1 G1 H1 v a1 k1 ⟨rl, _⟩ o1 => ?_
  cases d <;> try exact o1.elim
  exact ⟨_, rl, o1.sameV a1 rfl⟩⟩
theorem se_one {op : BoolOp} (ha : SE X a x) : SE X (.BoolOp op [a] pos) x := ⟨fun W tk => pe_one (ha.run W tk)⟩
theorem se_andB (ha : SE X a x) (hb : SE X (.BoolOp .And (b :: rest) pos) y) : SE X (.BoolOp .And (a :: b :: rest) pos) (andE x y) := ⟨fun W tk => (pe_and (ha.run W tk) (hb.run W tk)).imp fun s H Q ⟨r, h, m, G, a, o⟩ => by
  refine step mono_V a o fun d h1 m1 G1 H1 v a1 k1 rl o1 => ?_
  replace rl := rl.1
  cases d <;> try exact o1.elim
  rename_i b
  refine ⟨b, rl, ?_⟩
  cases b with
  | true => exact last a1 o1
  | false => exact o1.sameV a1 rfl⟩
theorem se_orB (ha : SE X a x) (hb : SE X (.BoolOp .Or (b :: rest) pos) y) : SE X (.BoolOp .Or (a :: b :: rest) pos) (orE x y) := ⟨fun W tk => (pe_or (ha.run W tk) (hb.run W tk)).imp fun s H Q ⟨r, h, m, G, a, o⟩ => by
  refine step mono_V a o fun d h1 m1 G1 H1 v a1 k1 rl o1 => ?_
  replace rl := rl.1
  cases d <;> try exact o1.elim
  rename_i b
  refine ⟨b, rl, ?_⟩
  cases b with
  | false => exact last a1 o1
  | true => exact o1.sameV a1 rfl⟩
theorem se_ifE (hc : ST X c z) (ha : SE X a x) (hb : SE X b y) : SE X (.IfExp c a b pos) (ifE z x y) := ⟨fun W tk => (pe_ifExp (hc.run W tk) (ha.run W tk) (hb.run W tk)).imp fun s H Q ⟨r, h, m, G, a, o⟩ => by
  refine step mono_V a o fun d h1 m1 G1 H1 v a1 k1 rl o1 => ?_
  replace rl := rl.1
  cases d <;> try exact o1.elim
  rename_i b
  refine ⟨b, rl, ?_⟩
  cases b with
  | true => exact last a1 o1
  | false => exact last a1 o1⟩
/-- a < b < c -/
def chE (f g : Hs → Val → Val → R Val) (x y z : EM) : EM := fun r h => (x r h).bind fun a h1 => (y r h1).bind fun b h2 => gd (isTmp b = false) ((f h2 a b).bind fun t h3 => match t with
  | .bl true => (z r h3).bind fun c h4 => g h4 b c
  | .bl false => .ok (.bl false) h3
  | _ => .no)
theorem stepO {K : PySem.W.Frag} {mg : Str → Option Value} {W : WX} {G H : Hp} {m : List Addr} {h : Hs} {r : Sl} {s : L2.St} {α β γ δ : Type} {rel : List Addr → Hp → Hp → Hp → α → β → Prop} {rel2 : List Addr → Hp → Hp → Hp → γ → δ → Prop} (mo : Mono rel2) {x : R α} {k : α → Hs → R γ} {Q : δ → Hp → Prop} {Q1 : β → Hp → Prop}
    (a : At K r h m G s H) (o : Out K mg W rel2 s m G H Q (x.bind k))
    (n : ∀ d h1 m1 G1 H1 v, At K r h1 m1 G1 s H1 → Kp m G H m1 G1 H1 → rel m1 G1 H H1 d v → Out K mg W rel2 s m1 G1 H1 Q (k d h1) → Q1 v H1) : Out K mg W rel s m G H Q1 x := by
  cases e : x with
  | no => rw [e] at o; exact o
  | rz y h' => rw [e] at o; exact o
  | ok d h' =>
    rw [e] at o
    intro m' G' H' v kp rh rl
    exact n d h' m' G' H' v (a.kp kp rh) kp rl (Out.shift mo o kp a.e a.h rh)
theorem se_chain {op op' : CmpOp} {t t' : R2} {f g : Hs → Val → Val → R Val} (ho : OpR X (compareOp op) t) (ho' : OpR X (compareOp op') t') (p : P2 X.K X.mg t f) (p' : P2 X.K X.mg t' g) (ha : SE X a x) (hb : SE X b y) (hc : SE X c z)
    (hm : lastMarks [op, op'] [b, c] = false := by with_unfolding_all rfl) : SE X (.Compare a [op, op'] [b, c] pos) (chE f g x y z) := ⟨fun W tk => (pe_chain ho ho' (ha.run W tk) (hb.run W tk) (hc.run W tk) hm).imp fun s H Q ⟨r, h, m, G, a, o⟩ => by
  refine step mono_V a o fun d h1 m1 G1 H1 v a1 k1 ⟨rl, _⟩ o1 => ?_
  refine step mono_V a1 o1 fun d2 h2 m2 G2 H2 u a2 k2 ⟨rl2, _⟩ o2 => ?_
  obtain ⟨c, o2⟩ := o2.gd
  refine p W r h2 m2 G2 s H2 d v d2 u _ a2 (RP.stay k2 a1.e a1.h rl) rl2 (stepO mono_V a2 o2 fun e h3 m3 G3 H3 w a3 k3 rl3 o3 => ?_)
  replace rl3 := rl3.1
  cases e <;> try exact o3.elim
  rename_i b
  refine ⟨b, rl3, ?_⟩
  cases b with
  | true =>
    refine step mono_V a3 o3 fun d4 h4 m4 G4 H4 w4 a4 k4 ⟨rl4, _⟩ o4 => ?_
    exact p' W r h4 m4 G4 s H4 d2 u d4 w4 Q a4 (RP.stay k4 a3.e a3.h (RP.stay k3 a2.e a2.h rl2)) rl4 o4
  | false => exact o3.sameV a3 rfl⟩
theorem st_chain {op op' : CmpOp} {t t' : R2} {f g : Hs → Val → Val → R Val} (ho : OpR X (compareOp op) t) (ho' : OpR X (compareOp op') t') (p : P2 X.K X.mg t f) (p' : P2 X.K X.mg t' g) (ha : SE X a x) (hb : SE X b y) (hc : SE X c z)
    (hm : lastMarks [op, op'] [b, c] = false := by with_unfolding_all rfl) : ST X (.Compare a [op, op'] [b, c] pos) (chE f g x y z) := ⟨fun W tk => (pt_chain ho ho' (ha.run W tk) (hb.run W tk) (hc.run W tk) hm).imp fun s H Q ⟨r, h, m, G, a, o⟩ => by
  refine step mono_V a o fun d h1 m1 G1 H1 v a1 k1 ⟨rl, _⟩ o1 => ?_
  refine step mono_V a1 o1 fun d2 h2 m2 G2 H2 u a2 k2 ⟨rl2, _⟩ o2 => ?_
  obtain ⟨c, o2⟩ := o2.gd
  refine p W r h2 m2 G2 s H2 d v d2 u _ a2 (RP.stay k2 a1.e a1.h rl) rl2 (stepO mono_V a2 o2 fun e h3 m3 G3 H3 w a3 k3 rl3 o3 => ?_)
  replace rl3 := rl3.1
  cases e <;> try exact o3.elim
  rename_i b
  refine ⟨b, rl3, ?_⟩
  cases b with
  | true =>
    refine step mono_V a3 o3 fun d4 h4 m4 G4 H4 w4 a4 k4 ⟨rl4, _⟩ o4 => ?_
    exact p' W r h4 m4 G4 s H4 d2 u d4 w4 _ a4 (RP.stay k4 a3.e a3.h (RP.stay k3 a2.e a2.h rl2)) rl4 o4
  | false => exact o3.sameV a3 rfl⟩
end
end Rg
/-! sorted -/
namespace Rg
open PySem PySem.Spec PyProof.Rows L2

/-! ### an order of data that is told by lists of numbers -/
mutual
def code : PyData → List Int
  | .int i => [i]
  | .bool b => [if b then 1 else 0]
  | .none => []
  | .str s => strC s.cps.toList
  | .list xs => codes xs
  | .tuple xs => codes xs
  | .dict _ => []
def codes : List PyData → List Int
  | [] => [0]
  | x :: xs => 1 :: (code x ++ codes xs)
def strC : List Nat → List Int
  | [] => [0]
  | c :: cs => 1 :: (c : Int) :: strC cs
end
/-! numbers, texts, tuples and lists of such -/
mutual
def plain : PyData → Bool
  | .int _ => true
  | .str _ => true
  | .list xs => plains xs
  | .tuple xs => plains xs
  | _ => false
def plains : List PyData → Bool
  | [] => true
  | x :: xs => plain x && plains xs
end
abbrev lx (a b : List Int) : Bool := HT.lexLt a b
theorem lx_cons (x y : Int) (xs ys : List Int) : lx (x :: xs) (y :: ys) = if x = y then lx xs ys else decide (x < y) := rfl
theorem lx_irr : ∀ a : List Int, lx a a = false
  | [] => rfl
  | x :: xs => by rw [lx_cons, if_pos rfl]; exact lx_irr xs
theorem lx_asym : ∀ a b : List Int, lx a b = true → lx b a = false
  | [], [], _ => rfl
  | [], _ :: _, _ => rfl
  | _ :: _, [], h => by cases h
  | x :: xs, y :: ys, h => by
    rw [lx_cons] at h ⊢
    by_cases e : x = y
    · subst e
      rw [if_pos rfl] at h ⊢
      exact lx_asym xs ys h
    · rw [if_neg e] at h
      rw [if_neg (fun q => e q.symm)]
      have h' := of_decide_eq_true h
      exact decide_eq_false (by omega)
theorem lx_tr : ∀ a b c : List Int, lx b a = false → lx c b = false → lx c a = false
  | a, b, [], h1, h2 => by
    cases b with
    | nil => exact h1
    | cons y ys => cases h2
  | [], b, z :: zs, h1, h2 => rfl
  | x :: xs, [], z :: zs, h1, h2 => by cases h1
  | x :: xs, y :: ys, z :: zs, h1, h2 => by
    rw [lx_cons] at h1 h2 ⊢
    by_cases e1 : y = x
    · rw [if_pos e1] at h1
      by_cases e2 : z = y
      · rw [if_pos e2] at h2
        rw [if_pos (e2.trans e1)]
        exact lx_tr xs ys zs h1 h2
      · rw [if_neg e2] at h2
        rw [if_neg (by rw [← e1]; exact e2)]
        rw [← e1]; exact h2
    · rw [if_neg e1] at h1
      have h1' := of_decide_eq_false h1
      by_cases e2 : z = y
      · rw [if_neg (by rw [e2]; exact e1)]
        exact decide_eq_false (by omega)
      · rw [if_neg e2] at h2
        have h2' := of_decide_eq_false h2
        rw [if_neg (by omega)]
        exact decide_eq_false (by omega)
theorem swo_lx {α : Type} (k : α → List Int) : SrtO.Swo fun x y => lx (k x) (k y) := ⟨fun x y h => lx_asym _ _ h, fun x y z h1 h2 => lx_tr _ _ _ h1 h2⟩

theorem lx_cat : ∀ (a b c : List Int), lx (a ++ b) (a ++ c) = lx b c
  | [], _, _ => rfl
  | x :: xs, b, c => by
    show lx (x :: (xs ++ b)) (x :: (xs ++ c)) = _
    rw [lx_cons, if_pos rfl]; exact lx_cat xs b c
theorem strC_lt : ∀ (a b : List Nat) (r r' : List Int), a ≠ b → lx (strC a ++ r) (strC b ++ r') = decide (a < b)
  | [], [], _, _, h => absurd rfl h
  | [], y :: ys, r, r', _ => by
    have : ([] : List Nat) < y :: ys := List.nil_lt_cons y ys
    rw [decide_eq_true this]
    show lx (0 :: r) (1 :: _) = true
    rw [lx_cons, if_neg (by decide)]; rfl
  | x :: xs, [], r, r', _ => by
    have : ¬ (x :: xs) < ([] : List Nat) := List.not_lt_nil _
    rw [decide_eq_false this]
    show lx (1 :: _) (0 :: r') = false
    rw [lx_cons, if_neg (by decide)]; rfl
  | x :: xs, y :: ys, r, r', h => by
    show lx (1 :: (x : Int) :: (strC xs ++ r)) (1 :: (y : Int) :: (strC ys ++ r')) = _
    rw [lx_cons, if_pos rfl, lx_cons]
    by_cases e : x = y
    · subst e
      rw [if_pos rfl, strC_lt xs ys r r' (fun q => h (by rw [q]))]
      rw [decide_eq_decide, List.cons_lt_cons_iff]
      constructor
      · exact fun q => .inr ⟨rfl, q⟩
      · rintro (q | ⟨_, q⟩)
        · exact absurd q (Nat.lt_irrefl _)
        · exact q
    · rw [if_neg (by omega), decide_eq_decide, List.cons_lt_cons_iff]
      constructor
      · exact fun q => .inl (by omega)
      · rintro (q | ⟨q, _⟩)
        · omega
        · exact absurd q e
mutual
theorem eqv_plain : ∀ (x y : PyData), plain x = true → plain y = true → PyData.eqv x y = true → x = y
  | .int i, y, h1, h2, h => by
    cases y <;> first | (cases h2; done) | (cases h; done) | skip
    simp only [PyData.eqv, beq_iff_eq] at h
    rw [h]
  | .str i, y, h1, h2, h => by
    cases y <;> first | (cases h2; done) | (cases h; done) | skip
    simp only [PyData.eqv, beq_iff_eq] at h
    rw [h]
  | .list xs, y, h1, h2, h => by
    cases y <;> first | (cases h2; done) | (cases h; done) | skip
    rw [eqvs_plain xs _ h1 h2 h]
  | .tuple xs, y, h1, h2, h => by
    cases y <;> first | (cases h2; done) | (cases h; done) | skip
    rw [eqvs_plain xs _ h1 h2 h]
  | .none, y, h1, h2, h => by cases h1
  | .bool _, y, h1, h2, h => by cases h1
  | .dict _, y, h1, h2, h => by cases h1
theorem eqvs_plain : ∀ (xs ys : List PyData), plains xs = true → plains ys = true → PyData.eqvAll xs ys = true → xs = ys
  | [], [], _, _, _ => rfl
  | [], _ :: _, _, _, h => by cases h
  | _ :: _, [], _, _, h => by cases h
  | x :: xs, y :: ys, h1, h2, h => by
    have h1' : plain x = true ∧ plains xs = true := Bool.and_eq_true_iff.mp h1
    have h2' : plain y = true ∧ plains ys = true := Bool.and_eq_true_iff.mp h2
    have h' : PyData.eqv x y = true ∧ PyData.eqvAll xs ys = true := Bool.and_eq_true_iff.mp h
    rw [eqv_plain x y h1'.1 h2'.1 h'.1, eqvs_plain xs ys h1'.2 h2'.2 h'.2]
end
mutual
theorem pcmp_code : ∀ (x y : PyData) (b : Bool), plain x = true → plain y = true → PyData.eqv x y = false → pcmp oLt x y = some b → ∀ r r', lx (code x ++ r) (code y ++ r') = b
  | .int i, y, b, h1, h2, h, hc, r, r' => by
    cases y <;> first | (cases hc; done) | skip
    rename_i j
    have hc' : decide (i < j) = b := Option.some.inj hc
    have hn : i ≠ j := by intro e; subst e; simp [PyData.eqv] at h
    show lx (i :: r) (j :: r') = b
    rw [lx_cons, if_neg hn, hc']
  | .str i, y, b, h1, h2, h, hc, r, r' => by
    cases y <;> first | (cases hc; done) | skip
    rename_i j
    have hc' : decide (i.cps.toList < j.cps.toList) = b := Option.some.inj hc
    have hn : i.cps.toList ≠ j.cps.toList := by
      intro e
      have : i = j := by
        cases i; cases j
        have := Array.ext' e
        simp at this; rw [this]
      subst this; simp [PyData.eqv] at h
    show lx (strC i.cps.toList ++ r) (strC j.cps.toList ++ r') = b
    rw [strC_lt _ _ r r' hn, hc']
  | .tuple xs, y, b, h1, h2, h, hc, r, r' => by
    cases y <;> first | (cases hc; done) | skip
    rename_i ys
    exact pcmps_code xs ys b h1 h2 h hc r r'
  | .list xs, y, b, h1, h2, h, hc, r, r' => by cases y <;> cases hc
  | .none, y, b, h1, h2, h, hc, r, r' => by cases h1
  | .bool _, y, b, h1, h2, h, hc, r, r' => by cases h1
  | .dict _, y, b, h1, h2, h, hc, r, r' => by cases h1
theorem pcmps_code : ∀ (xs ys : List PyData) (b : Bool), plains xs = true → plains ys = true → PyData.eqvAll xs ys = false → pcmps oLt xs ys = some b → ∀ r r', lx (codes xs ++ r) (codes ys ++ r') = b
  | [], [], b, _, _, h, _, _, _ => by cases h
  | [], y :: ys, b, _, _, h, hc, r, r' => by
    have hc' : decide (0 < (y :: ys).length) = b := Option.some.inj hc
    rw [← hc']
    show lx (0 :: r) (1 :: _) = _
    rw [lx_cons, if_neg (by decide)]; simp
  | x :: xs, [], b, _, _, h, hc, r, r' => by
    have hc' : decide (xs.length + 1 < 0) = b := Option.some.inj hc
    rw [← hc']
    show lx (1 :: _) (0 :: r') = _
    rw [lx_cons, if_neg (by decide)]; simp
  | x :: xs, y :: ys, b, h1, h2, h, hc, r, r' => by
    have h1' : plain x = true ∧ plains xs = true := Bool.and_eq_true_iff.mp h1
    have h2' : plain y = true ∧ plains ys = true := Bool.and_eq_true_iff.mp h2
    unfold pcmps at hc
    cases t : pcmps oLt xs ys with
    | none => rw [t] at hc; cases hc
    | some t' =>
      rw [t] at hc
      show lx (1 :: (code x ++ codes xs) ++ r) (1 :: (code y ++ codes ys) ++ r') = b
      rw [List.cons_append, List.cons_append, lx_cons, if_pos rfl, List.append_assoc, List.append_assoc]
      by_cases c : PyData.eqv x y = true
      · have e := eqv_plain x y h1'.1 h2'.1 c
        subst e
        have h' : PyData.eqvAll xs ys = false := by
          have : (PyData.eqv x x && PyData.eqvAll xs ys) = false := h
          rw [c] at this; simpa using this
        have hc' : some t' = some b := by simpa [c] using hc
        rw [lx_cat]
        exact pcmps_code xs ys b h1'.2 h2'.2 h' (by rw [t, hc']) r r'
      · have c' : PyData.eqv x y = false := by simpa using c
        have hc' : pcmp oLt x y = some b := by simpa [c'] using hc
        exact pcmp_code x y b h1'.1 h2'.1 c' hc' _ _
end
theorem pcmps_same : ∀ (xs : List PyData) (b : Bool), PyData.eqvAll xs xs = true → pcmps oLt xs xs = some b → b = false
  | [], b, _, h => by
    have h' : decide (0 < 0) = b := Option.some.inj h
    rw [← h']; rfl
  | x :: xs, b, e, h => by
    have e' : PyData.eqv x x = true ∧ PyData.eqvAll xs xs = true := Bool.and_eq_true_iff.mp e
    unfold pcmps at h
    cases t : pcmps oLt xs xs with
    | none => rw [t] at h; cases h
    | some t' =>
      rw [t] at h
      have h' : some t' = some b := by simpa [e'.1] using h
      exact pcmps_same xs b e'.2 (by rw [t, h'])
theorem pcmp_lx {x y : PyData} {b : Bool} (h1 : plain x = true) (h2 : plain y = true) (h : pcmp oLt x y = some b) : lx (code x) (code y) = b := by
  by_cases c : PyData.eqv x y = true
  · have e := eqv_plain x y h1 h2 c
    subst e
    rw [lx_irr]
    cases x <;> first | (cases h; done) | (cases h1; done) | skip
    · have h' : decide (_ < _) = b := Option.some.inj h
      rw [← h']; simp
    · have h' : decide (_ < _) = b := Option.some.inj h
      rw [← h']; exact (decide_eq_false (List.lt_irrefl _)).symm
    · exact (pcmps_same _ b c h).symm
  · have c' : PyData.eqv x y = false := by simpa using c
    have := pcmp_code x y b h1 h2 c' h [] []
    simpa using this
end Rg
namespace Rg
open PySem PySem.Spec PyProof.Rows L2

/-! ### a plain stable sort -/
section
variable {α β : Type} (lt : α → α → Bool)
def ins (x : α) : List α → List α
  | [] => [x]
  | y :: ys => if lt y x = true then y :: ins x ys else x :: y :: ys
def isort : List α → List α
  | [] => []
  | x :: xs => ins lt x (isort xs)
end
section
variable {α β : Type} {lt : α → α → Bool}
theorem ins_perm (x : α) : ∀ l : List α, (ins lt x l).Perm (x :: l)
  | [] => List.Perm.refl _
  | y :: ys => by
    unfold ins
    split
    · exact ((ins_perm x ys).cons y).trans (List.Perm.swap x y ys)
    · exact List.Perm.refl _
theorem isort_perm : ∀ l : List α, (isort lt l).Perm l
  | [] => List.Perm.refl _
  | x :: xs => (ins_perm x _).trans ((isort_perm xs).cons x)
theorem ins_mem {x y : α} {l : List α} : y ∈ ins lt x l ↔ y = x ∨ y ∈ l := by
  rw [(ins_perm x l).mem_iff, List.mem_cons]
theorem isort_mem {y : α} {l : List α} : y ∈ isort lt l ↔ y ∈ l := (isort_perm l).mem_iff
theorem isort_length (l : List α) : (isort lt l).length = l.length := (isort_perm l).length_eq
theorem ins_srtd (O : SrtO.Swo lt) (x : α) : ∀ l : List α, SrtO.Srtd lt l → SrtO.Srtd lt (ins lt x l)
  | [], _ => List.pairwise_singleton _ _
  | y :: ys, h => by
    have h' := List.pairwise_cons.mp h
    unfold ins
    split
    · rename_i c
      refine List.pairwise_cons.mpr ⟨fun z hz => ?_, ins_srtd O x ys h'.2⟩
      rcases ins_mem.mp hz with e | hz
      · rw [e]; exact O.asym _ _ c
      · exact h'.1 z hz
    · rename_i c
      have c' : lt y x = false := by simpa using c
      refine List.pairwise_cons.mpr ⟨fun z hz => ?_, h⟩
      rcases List.mem_cons.mp hz with e | hz
      · rw [e]; exact c'
      · exact O.tr x y z c' (h'.1 z hz)
theorem isort_srtd (O : SrtO.Swo lt) : ∀ l : List α, SrtO.Srtd lt (isort lt l)
  | [] => List.Pairwise.nil
  | x :: xs => ins_srtd O x _ (isort_srtd O xs)
theorem ins_cls (O : SrtO.Swo lt) (z x : α) : ∀ l : List α, (ins lt x l).filter (SrtO.eqv lt z) = (x :: l).filter (SrtO.eqv lt z)
  | [] => rfl
  | y :: ys => by
    unfold ins
    split
    · rename_i c
      have ih := ins_cls O z x ys
      by_cases hx : SrtO.eqv lt z x = true
      · have hy : SrtO.eqv lt z y = false := by
          rcases SrtO.bcase (SrtO.eqv lt z y) with q | q
          · obtain ⟨a1, a2⟩ := SrtO.eqv_iff.mp hx
            obtain ⟨b1, b2⟩ := SrtO.eqv_iff.mp q
            have := O.tr x z y a1 b2
            rw [this] at c; cases c
          · exact q
        rw [List.filter_cons_of_neg (by rw [hy]; decide), ih, List.filter_cons_of_pos hx, List.filter_cons_of_pos hx, List.filter_cons_of_neg (by rw [hy]; decide)]
      · have hx' : SrtO.eqv lt z x = false := by simpa using hx
        rw [List.filter_cons, ih, List.filter_cons_of_neg (by rw [hx']; decide), List.filter_cons_of_neg (by rw [hx']; decide), List.filter_cons]
    · rfl
theorem isort_stb (O : SrtO.Swo lt) : ∀ l : List α, SrtO.Stb lt (isort lt l) l
  | [] => SrtO.Stb.refl _
  | x :: xs => ⟨isort_perm _, fun z => by
    have ih := (isort_stb O xs).cls z
    show (ins lt x (isort lt xs)).filter _ = _
    rw [ins_cls O, List.filter_cons, List.filter_cons, ih]⟩
theorem isort_uniq (O : SrtO.Swo lt) {out l : List α} (h1 : SrtO.Srtd lt out) (h2 : SrtO.Stb lt out l) : out = isort lt l :=
  SrtO.stb_uniq O h1 (isort_srtd O l) ⟨h2.perm.trans (isort_perm l).symm, fun x => (h2.cls x).trans ((isort_stb O l).cls x).symm⟩
theorem ins_map {lt2 : β → β → Bool} (f : α → β) (x : α) : ∀ l : List α, (∀ a ∈ l, lt2 (f a) (f x) = lt a x) → ins lt2 (f x) (l.map f) = (ins lt x l).map f
  | [], _ => rfl
  | y :: ys, h => by
    have ih := ins_map f x ys fun a ha => h a (List.mem_cons_of_mem _ ha)
    show (if lt2 (f y) (f x) = true then f y :: ins lt2 (f x) (ys.map f) else f x :: f y :: ys.map f) = (if lt y x = true then y :: ins lt x ys else x :: y :: ys).map f
    rw [h y List.mem_cons_self, ih]
    split <;> rfl
/-- a sort by what a function tells -/
theorem isort_map {lt2 : β → β → Bool} (f : α → β) : ∀ l : List α, (∀ a ∈ l, ∀ b ∈ l, lt2 (f a) (f b) = lt a b) → isort lt2 (l.map f) = (isort lt l).map f
  | [], _ => rfl
  | x :: xs, h => by
    show ins lt2 (f x) (isort lt2 (xs.map f)) = (ins lt x (isort lt xs)).map f
    rw [isort_map f xs fun a ha b hb => h a (List.mem_cons_of_mem _ ha) b (List.mem_cons_of_mem _ hb)]
    exact ins_map f x _ fun a ha => h a (List.mem_cons_of_mem _ (isort_mem.mp ha)) x List.mem_cons_self
end

/-! ### what may be sorted -/
def isI : PyData → Bool
  | .int _ => true
  | _ => false
def firstI : PyData → Bool
  | .tuple (.int _ :: _) => true
  | _ => false
theorem firstI_ok {d : PyData} (h : firstI d = true) : ∃ i r, d = .tuple (.int i :: r) := by
  unfold firstI at h
  split at h
  · exact ⟨_, _, rfl⟩
  · cases h
structure SortOk (ds : List PyData) : Prop where
  lay : PyData.canLayAll0 ds = true
  dep : PyData.depthAll ds ≤ 60
  pl : plains ds = true
  kd : (∀ d ∈ ds, isI d = true) ∨ (∀ d ∈ ds, firstI d = true)
  cp : ∀ x ∈ ds, ∀ y ∈ ds, (pcmp oLt x y).isSome = true
abbrev ltP1 {α : Type} (p q : PyData × α) : Bool := lx (code p.1) (code q.1)

section
variable {prog : Program} {w : World} {A : Around} {E : Value → Shared → Prop} {s : Shared}
theorem kat_reads {b0 : Bool} {fin : Bool} {Q : Bool → Shared → Prop} : ∀ (xs ys : List PyData) (vs ws : List Value) (as bs : List Addr) (i n : Nat) (b : Bool), ReadsAll s.heap vs xs as → ReadsAll s.heap ws ys bs → PyData.canLayAll0 xs = true → PyData.canLayAll0 ys = true →
    PyData.depthAll xs ≤ n → A.units + n + 2 < cLine → pcmps oLt xs ys = some b → (b0 = true → i = 0 → ∀ x y, xs.head? = some x → ys.head? = some y → isI x = true ∧ isI y = true) → fin = decide (xs.length < ys.length) → Q b s →
    PySem.W.KatLex prog w A b0 fin Q (vs.zip ws) i s
  | [], ys, vs, ws, as, bs, i, n, b, r1, r2, l1, l2, dp, hu, h, hi, hf, q => by
    have z := readsAll_len _ _ _ r1
    have : vs = [] := List.length_eq_zero_iff.mp z
    subst this
    have h' : decide (0 < ys.length) = b := Option.some.inj h
    rw [List.zip_nil_left]
    refine PySem.W.kat_nil ?_
    rw [hf]
    show Q (decide (0 < ys.length)) s
    rw [h']; exact q
  | x :: xs, [], vs, ws, as, bs, i, n, b, r1, r2, l1, l2, dp, hu, h, hi, hf, q => by
    have z := readsAll_len _ _ _ r2
    have : ws = [] := List.length_eq_zero_iff.mp z
    subst this
    have h' : decide (xs.length + 1 < 0) = b := Option.some.inj h
    rw [List.zip_nil_right]
    refine PySem.W.kat_nil ?_
    rw [hf]
    show Q (decide (xs.length + 1 < 0)) s
    rw [h']; exact q
  | x :: xs, y :: ys, vs, ws, as, bs, i, n, b, r1, r2, l1, l2, dp, hu, h, hi, hf, q => by
    have l1' : x.canLay0 = true ∧ PyData.canLayAll0 xs = true := Bool.and_eq_true_iff.mp l1
    have l2' : y.canLay0 = true ∧ PyData.canLayAll0 ys = true := Bool.and_eq_true_iff.mp l2
    have dp1 : x.depth ≤ n := Nat.le_trans (Nat.le_max_left _ _) dp
    have dp2 : PyData.depthAll xs ≤ n := Nat.le_trans (Nat.le_max_right _ _) dp
    cases r1 with
    | cons a1 a2 =>
      cases r2 with
      | cons c1 c2 =>
        rename_i u1 us1 as1 as2 u2 us2 bs1 bs2
        rw [List.zip_cons_cons]
        refine PySem.W.kat_cons (SeqAt.eqAt_reads x y A s u1 u2 _ _ a1 c1 l1'.1 l2'.1 (by omega) prog w _ _ ?_)
        unfold pcmps at h
        cases t : pcmps oLt xs ys with
        | none => rw [t] at h; cases h
        | some t' =>
          rw [t] at h
          refine PySem.W.kat_go (fun e1 => ?_) (fun e1 => ?_)
          · have h' : some t' = some b := by simpa [e1] using h
            refine PySem.W.kat_yes (kat_reads xs ys us1 us2 _ _ (i + 1) n b a2 c2 l1'.2 l2'.2 dp2 hu (by rw [t, h']) (fun _ z => by omega) ?_ q)
            rw [hf, decide_eq_decide]; simp
          · have h' : pcmp oLt x y = some b := by simpa [e1] using h
            refine PySem.W.kat_no ?_
            by_cases c : (b0 && i == 0) = true
            · rw [c]
              have c' : b0 = true ∧ i = 0 := by simpa using c
              obtain ⟨i1, i2⟩ := hi c'.1 c'.2 x y rfl rfl
              cases x <;> first | (cases i1; done) | skip
              cases y <;> first | (cases i2; done) | skip
              cases a1; cases c1
              have h2 : decide (_ < _) = b := Option.some.inj h'
              exact oneLt_int (by rw [h2]; exact q)
            · have c' : (b0 && i == 0) = false := by simpa using c
              rw [c']
              refine PySem.W.kat_one _ _ ?_
              have z := rc_reads oLt oLt_ok n x y A u1 u2 _ _ b dp1 a1 c1 l1'.1 l2'.1 (by omega) h'
              exact z prog w _ (PySem.W.BoolBack Q) q

theorem readsAll_mem2 {h : Heap} {xs : List PyData} {vs : List Value} {as : List Addr} (r : ReadsAll h vs xs as) {v : Value} (m : v ∈ vs) : ∃ x bs, x ∈ xs ∧ Reads h v x bs := by
  obtain ⟨j, e⟩ := List.mem_iff_getElem?.mp m
  obtain ⟨x, bs, e1, r1⟩ := readsAll_get _ _ _ r j v e
  exact ⟨x, bs, List.mem_of_getElem? e1, r1⟩
theorem lay_all {xs : List PyData} {x : PyData} (h : PyData.canLayAll0 xs = true) (m : x ∈ xs) : x.canLay0 = true := by
  obtain ⟨j, e⟩ := List.mem_iff_getElem?.mp m
  exact lay_mem h e
theorem dep_all {xs : List PyData} {x : PyData} (m : x ∈ xs) : x.depth ≤ PyData.depthAll xs := by
  obtain ⟨j, e⟩ := List.mem_iff_getElem?.mp m
  exact depth_mem e
theorem plains_mem : ∀ {xs : List PyData} {x : PyData}, plains xs = true → x ∈ xs → plain x = true
  | y :: ys, x, h, m => by
    have h' : plain y = true ∧ plains ys = true := Bool.and_eq_true_iff.mp h
    rcases List.mem_cons.mp m with e | m
    · rw [e]; exact h'.1
    · exact plains_mem h'.2 m
/-- the items' firsts -/
theorem firsts_reads {h : Heap} : ∀ (xs : List PyData) (vs : List Value) (as : List Addr), ReadsAll h vs xs as → (∀ d ∈ xs, firstI d = true) → ∃ fs : List Value, PySem.W.KatTups h vs fs ∧ fs.length = vs.length ∧ ∀ f ∈ fs, ∃ x t, f = Value.int x t
  | [], _, _, r, _ => by cases r; exact ⟨[], PySem.W.KatTups.nil, rfl, fun _ hm => by simp at hm⟩
  | x :: xs, _, _, r, hp => by
    cases r with
    | cons r1 r2 =>
      obtain ⟨fs, h1, h2, h3⟩ := firsts_reads xs _ _ r2 fun d m => hp d (List.mem_cons_of_mem _ m)
      have hx := hp x List.mem_cons_self
      unfold firstI at hx
      split at hx
      · rename_i i rest
        cases r1 with
        | tuple k1 k2 k3 k4 =>
          rename_i q0 o ob vs' n
          cases e : vs'.toList with
          | nil => rw [e] at k4; cases k4
          | cons f fr =>
            rw [e] at k4
            cases k4 with
            | cons m1 m2 =>
              cases m1 with
              | int i t =>
                refine ⟨.int i t :: fs, PySem.W.KatTups.cons k1 k2 k3 ?_ h1, by rw [List.length_cons, List.length_cons, h2], fun f hm => ?_⟩
                · have : vs'.toList[0]? = some (.int i t) := by rw [e]; rfl
                  rw [Array.getElem?_toList] at this
                  exact this
                · rcases List.mem_cons.mp hm with rfl | hm
                  · exact ⟨_, _, rfl⟩
                  · exact h3 f hm
      · cases hx
theorem ints_reads {h : Heap} : ∀ (xs : List PyData) (vs : List Value) (as : List Addr), ReadsAll h vs xs as → (∀ d ∈ xs, isI d = true) → ∃ ns, IntsAre vs ns
  | [], _, _, r, _ => by cases r; exact ⟨[], .nil⟩
  | x :: xs, _, _, r, hp => by
    cases r with
    | cons r1 r2 =>
      obtain ⟨ns, h1⟩ := ints_reads xs _ _ r2 fun d m => hp d (List.mem_cons_of_mem _ m)
      have hx := hp x List.mem_cons_self
      cases x <;> first | (cases hx; done) | skip
      cases r1
      exact ⟨_, .cons _ _ h1⟩
noncomputable abbrev ltv (h : Heap) (u v : Value) : Bool := lx (code (SeqAt.readOf h u)) (code (SeqAt.readOf h v))
theorem sortable_reads {h : Heap} {xs : List PyData} {vs : List Value} {as : List Addr} {a : Addr} {s : Shared} (r : ReadsAll h vs xs as) (ok : SortOk xs) (h2 : 2 ≤ vs.length) (hu : A.units + 64 < cLine)
    (kk : ∀ (h' : Heap), (∀ b o, b ≠ a → s.heap.get? b = some o → h'.get? b = some o) → ∀ b o, h.get? b = some o → h'.get? b = some o) : SrtO.SortableO prog w A s a vs (ltv h) := by
  intro h' keep
  have K := kk h' keep
  have r' := ReadsAll.keeps K r
  have rd : ∀ v ∈ vs, ∃ x bs, x ∈ xs ∧ Reads h' v x bs ∧ SeqAt.readOf h v = x := fun v m => by
    obtain ⟨x, bs, hx, rx⟩ := readsAll_mem2 r m
    exact ⟨x, bs, hx, Reads.keeps K rx, SeqAt.readOf_eq (lay_all ok.lay hx) rx⟩
  have lts : ∀ x ∈ xs, ∀ y ∈ xs, pcmp oLt x y = some (lx (code x) (code y)) := fun x hx y hy => by
    have := ok.cp x hx y hy
    cases z : pcmp oLt x y with
    | none => rw [z] at this; cases this
    | some b => rw [pcmp_lx (plains_mem ok.pl hx) (plains_mem ok.pl hy) z]
  rcases ok.kd with kd | kd
  · obtain ⟨ns, hI⟩ := ints_reads _ _ _ r kd
    refine ⟨oneType', fun Q E hq => ?_, ?_⟩
    · match vs, hI, h2 with
      | v1 :: v2 :: rest, hI, _ =>
        rw [keyKind_ints hI]
        exact wpAny_pure hq
      | [], _, h => exact absurd h (by decide)
      | [v], _, h => exact absurd h (by simp)
    · rintro ⟨p1, p2⟩ ⟨q1, q2⟩ hm hm'
      obtain ⟨x, bs, hx, rx, ex⟩ := rd p1 hm
      obtain ⟨y, cs, hy, ry, ey⟩ := rd q1 hm'
      have kx := kd x hx
      have ky := kd y hy
      have lt := lts x hx y hy
      show wpAny (model prog w) A (keyLt' oneType' p1 q1) (fun r s' => s' = _ ∧ r = ltv h p1 q1) (fun _ _ => False) _
      unfold ltv
      rw [ex, ey]
      cases x <;> first | (cases kx; done) | skip
      cases y <;> first | (cases ky; done) | skip
      cases rx
      cases ry
      rw [keyLt'_oneType]
      have lt' : decide (_ < _) = _ := Option.some.inj lt
      exact oneLt_int ⟨rfl, lt'⟩
  · obtain ⟨fs, h1, h2', h3⟩ := firsts_reads _ _ _ r' kd
    refine ⟨tuples' true, fun Q E hq => ?_, ?_⟩
    · refine PySem.W.kat_kind (T := .type "int") h1 (by omega) (fun f hm => ?_) (by rfl) ?_
      · obtain ⟨x, t, rfl⟩ := h3 f hm
        exact PySem.W.Looks.now
      · have e : (Value.type "int" != Value.type "tuple") = true := by first | decide +kernel | rfl | decide
        rw [e]
        exact hq
    · rintro ⟨p1, p2⟩ ⟨q1, q2⟩ hm hm'
      obtain ⟨x, bs, hx, rx, ex⟩ := rd p1 hm
      obtain ⟨y, cs, hy, ry, ey⟩ := rd q1 hm'
      have kx := kd x hx
      have ky := kd y hy
      have lt := lts x hx y hy
      have lx' := lay_all ok.lay hx
      have ly' := lay_all ok.lay hy
      have dx := dep_all hx
      have dm := ok.dep
      show wpAny (model prog w) A (keyLt' (tuples' true) p1 q1) (fun r s' => s' = _ ∧ r = ltv h p1 q1) (fun _ _ => False) _
      unfold ltv
      rw [ex, ey]
      obtain ⟨i1, r1, rfl⟩ := firstI_ok kx
      obtain ⟨i2, r2, rfl⟩ := firstI_ok ky
      cases rx with
      | tuple k1 k2 k3 k4 =>
        cases ry with
        | tuple m1 m2 m3 m4 =>
          refine PySem.W.kat_lt k1 k3 m1 m3 ?_
          have z1 := readsAll_len _ _ _ k4
          have z2 := readsAll_len _ _ _ m4
          have hd : PyData.depthAll (PyData.int i1 :: r1) ≤ 60 := by
            have : PyData.depthAll (PyData.int i1 :: r1) + 1 ≤ PyData.depthAll xs := dx
            omega
          refine kat_reads (PyData.int i1 :: r1) (PyData.int i2 :: r2) _ _ _ _ 0 60 _ k4 m4 lx' ly' hd (by omega) lt (fun _ _ x y e1 e2 => ?_) ?_ ⟨rfl, rfl⟩
          · have e1' : PyData.int i1 = x := Option.some.inj e1
            have e2' : PyData.int i2 = y := Option.some.inj e2
            rw [← e1', ← e2']; exact ⟨rfl, rfl⟩
          · simp only [Array.length_toList] at z1 z2
            rw [z1, z2]
end

/-- sorted(xs) -/
def rSortD (K : PySem.W.Frag) : List V → Hp → VK → Prop := fun vs H Q => ∃ (a : Addr) (xs : List V) (ds : List PyData), vs = [V.ref a] ∧ SqL K H a xs ∧ DpAll K H xs ds ∧ SortOk ds ∧
  ∀ p, H p = none → Q (.ref p) (upd H p (.lst ((isort ltP1 (ds.zip xs)).map (·.2))))
theorem dpAll_len {K : PySem.W.Frag} {H : Hp} : ∀ {xs : List V} {ds : List PyData}, DpAll K H xs ds → xs.length = ds.length
  | _, _, .nil => rfl
  | _, _, .cons _ t => by simp [dpAll_len t]
/-- three lists, item by item -/
theorem zip3 {α β γ : Type} : ∀ {xs : List α} {ys : List β} {zs : List γ}, xs.length = ys.length → xs.length = zs.length → ∃ ts : List (α × β × γ), ts.map (·.1) = xs ∧ ts.map (·.2.1) = ys ∧ ts.map (·.2.2) = zs
  | [], [], [], _, _ => ⟨[], rfl, rfl, rfl⟩
  | x :: xs, y :: ys, z :: zs, h1, h2 => by
    obtain ⟨ts, a, b, c⟩ := zip3 (xs := xs) (ys := ys) (zs := zs) (by simpa using h1) (by simpa using h2)
    exact ⟨(x, y, z) :: ts, by simp [a], by simp [b], by simp [c]⟩
  | [], _ :: _, _, h, _ => by simp at h
  | [], [], _ :: _, _, h => by simp at h
  | _ :: _, [], _, h, _ => by simp at h
  | _ :: _, _ :: _, [], _, h => by simp at h
theorem vals_of_mem {α : Type} {f : α → V} {g : α → Value} : ∀ {l : List α}, (∀ a ∈ l, RelV (f a) (g a)) → Vals (l.map f) (l.map g)
  | [], _ => .nil
  | a :: l, h => .cons (h a List.mem_cons_self) (vals_of_mem fun b m => h b (List.mem_cons_of_mem _ m))
theorem vals_mem {α : Type} {f : α → V} {g : α → Value} : ∀ {l : List α}, Vals (l.map f) (l.map g) → ∀ a ∈ l, RelV (f a) (g a)
  | a :: l, h, b, m => by
    cases h with
    | cons r t =>
      rcases List.mem_cons.mp m with e | m
      · rw [e]; exact r
      · exact vals_mem t b m
theorem cr_sortD {X : Cx} (hu : X.A.units + 70 < cLine) : CallR X (.builtin "sorted") (rSortD X.K) := by
  intro pins s σ H vs us Q I r h
  obtain ⟨a, xs, ds, rfl, hs, hd, ok, q⟩ := h
  obtain ⟨its, rv, hl, hz⟩ := I.list hs
  obtain ⟨u, rfl, ru⟩ := vals1 r
  obtain rfl : u = Value.ref a := ru
  obtain ⟨as, rd⟩ := Dp.readsAll I ds xs its hd rv
  have hlen := rv.length
  refine SrtO.sorted_ord (swo_lx fun u => code (SeqAt.readOf s.heap u)) hl.isList (by rw [← hlen]; exact hz) (fun h2 h₁ a' ha kk => ?_) fun out h1 h2 => ?_
  · exact sortable_reads (s := { s with heap := h₁ }) rd ok h2 (by show X.A.units + 1 + 1 + 64 < cLine; omega) fun h' k b o e => k b o (kk b o e).1 (kk b o e).2
  · have hout := isort_uniq (swo_lx fun u => code (SeqAt.readOf s.heap u)) h1 h2
    obtain ⟨ts, t1, t2, t3⟩ := zip3 (xs := ds) (ys := xs) (zs := its) (dpAll_len hd).symm (by rw [← dpAll_len hd, hlen])
    have rdo : ∀ t ∈ ts, SeqAt.readOf s.heap t.2.2 = t.1 := by
      have e := SeqAt.readsAll_map ds its as ok.lay rd
      rw [← t3, ← t1, List.map_map] at e
      intro t m
      exact List.map_inj_left.mp e t m
    have o1 : out = (isort (fun p q : PyData × V × Value => lx (code p.1) (code q.1)) ts).map (·.2.2) := by
      rw [hout, ← t3]
      exact isort_map (lt := fun p q : PyData × V × Value => lx (code p.1) (code q.1)) (lt2 := ltv s.heap) (fun t : PyData × V × Value => t.2.2) ts fun x mx y my => by
        show lx (code (SeqAt.readOf s.heap x.2.2)) (code (SeqAt.readOf s.heap y.2.2)) = lx (code x.1) (code y.1)
        rw [rdo x mx, rdo y my]
    have o2 : isort ltP1 (ds.zip xs) = (isort (fun p q : PyData × V × Value => lx (code p.1) (code q.1)) ts).map (fun t => (t.1, t.2.1)) := by
      have e : ds.zip xs = ts.map fun t => (t.1, t.2.1) := by
        rw [← t1, ← t2, List.zip_map']
      rw [e]
      exact isort_map (lt := fun p q : PyData × V × Value => lx (code p.1) (code q.1)) (lt2 := ltP1) (fun t : PyData × V × Value => (t.1, t.2.1)) ts fun x mx y my => rfl
    have rel : ∀ t ∈ ts, RelV t.2.1 t.2.2 := vals_mem (f := fun t : PyData × V × Value => t.2.1) (g := fun t => t.2.2) (by rw [t2, t3]; exact rv)
    obtain ⟨n, hn⟩ := sortedAll_at s.heap its out.toArray
    refine ⟨.ref (s.heap.objs.size + 1), upd H (s.heap.objs.size + 1) (.lst ((isort ltP1 (ds.zip xs)).map (·.2))), I.laid (t' := s.toks) (fun b o e => sortedAll_old e) (Nat.le_succ _) ⟨?_, out, n, ?_, hn⟩, rfl, q _ (I.hok.fresh (Nat.le_succ _))⟩
    · rw [List.length_map, isort_length, List.length_zip]
      omega
    · rw [o1, o2, List.map_map]
      exact vals_of_mem (f := fun t : PyData × V × Value => t.2.1) (g := fun t => t.2.2) fun t m => rel t (isort_mem.mp m)
end Rg
namespace Rg
open PySem PySem.Spec PyProof.Rows L2

/-! ### changing a cell -/
section
variable {K : PySem.W.Frag} {mg : Str → Option Value} {W : WX} {G H : Hp} {m : List Addr} {h : Hs} {r : Sl} {s : L2.St}
theorem kp_set {a : Addr} {o : HO} (e : Ex G H) (rh : RH K h m G) (i : a ∈ m) : Kp m G H m (upd G a o) (upd H a o) := by
  refine ⟨fun b x q n => ?_, fun b x q n => ?_, fun b q z => ?_, List.prefix_refl m, fun _ q => .inl q, fun b x q => ?_⟩
  · rw [upd_ne (fun w => by subst w; exact n i)]; exact q
  · rw [upd_ne (fun w => by subst w; exact n i)]; exact q
  · rw [upd_ne (fun w => by subst w; exact rh.some i q)]; exact q
  · by_cases w : b = a
    · subst w; rw [upd_same] at q ⊢; exact q
    · rw [upd_ne w] at q ⊢; exact e b x q
theorem sty_set {a : Addr} {o : HO} (rh : RH K h m G) (i : a ∈ m) : Sty m G m (upd G a o) :=
  ⟨fun b x q n => by rw [upd_ne (fun w => by subst w; exact n i)]; exact q, rh.mu, List.prefix_refl m, fun _ _ i => i⟩
theorem RH.set {a : Addr} {ho : HO} {ob : Ob} {l : Nat} (rh : RH K h m G) (e : m[l]? = Option.some a) (mu : isMut ho) (ro : RO K (upd G a ho) m a ob) : RH K (h.set l ob) m (upd G a ho) := by
  have i : a ∈ m := List.mem_of_getElem? e
  refine ⟨by simp [rh.len], rh.nd, fun b j => ?_, fun l' o b e1 e2 => ?_⟩
  · by_cases w : b = a
    · subst w; exact ⟨ho, upd_same, mu⟩
    · obtain ⟨u, e, mu⟩ := rh.mu b j
      exact ⟨u, by rw [upd_ne w]; exact e, mu⟩
  · by_cases w : l' = l
    · subst w
      rw [e] at e2; cases e2
      have : l' < h.length := by rw [rh.len]; exact (List.getElem?_eq_some_iff.mp e).1
      rw [List.getElem?_set_self this] at e1
      cases e1
      exact ro
    · rw [List.getElem?_set_ne (Ne.symm w)] at e1
      have wb : b ≠ a := fun z => by
        subst z
        exact w (nd_ix rh.nd e2 e)
      exact RO.stay (sty_set rh i) (upd_ne wb) (rh.ob l' o b e1 e2)
/-- a list's cell gets other items -/
theorem Out.setL {Q : VK} {d : Val} {v : V} {l : Nat} {p : Addr} {ds : List Val} {xs : List V} (a : At K r h m G s H) (e : m[l]? = some p) (o : Out K mg W (relV K) s m G H Q (.ok d (h.set l (.lst ds)))) (z : xs.length ≤ sizeLine) (q : RVs K G m ds xs) (qd : RV K G m d v) :
    Q v (upd H p (.lst xs)) := by
  have i : p ∈ m := List.mem_of_getElem? e
  have st : Sty m G m (upd G p (.lst xs)) := sty_set a.h i
  exact o m (upd G p (.lst xs)) _ v (kp_set a.e a.h i) (a.h.set e trivial ⟨xs, upd_same, z, RVs.stay st q⟩) ⟨(RV.stay st qd).rp, (RV.stay st qd).fsh⟩
theorem Out.setD {Q : VK} {d : Val} {v : V} {l : Nat} {p : Addr} {kvs : List (Key × Val)} {xs : List (Key × V)} (a : At K r h m G s H) (e : m[l]? = some p) (o : Out K mg W (relV K) s m G H Q (.ok d (h.set l (.dct kvs)))) (z : xs.length ≤ sizeLine)
    (ek : xs.map (·.1) = kvs.map (·.1)) (q : RVs K G m (kvs.map (·.2)) (xs.map (·.2))) (qd : RV K G m d v) : Q v (upd H p (.dK xs)) := by
  have i : p ∈ m := List.mem_of_getElem? e
  have st : Sty m G m (upd G p (.dK xs)) := sty_set a.h i
  exact o m (upd G p (.dK xs)) _ v (kp_set a.e a.h i) (a.h.set e trivial ⟨xs, upd_same, z, ek, RVs.stay st q⟩) ⟨(RV.stay st qd).rp, (RV.stay st qd).fsh⟩
/-- a list's cell -/
def cellL (h : Hs) : Val → Option (Nat × List Val)
  | .ref l => match h[l]? with
    | some (.lst ds) => some (l, ds)
    | _ => none
  | _ => none
theorem cellL_ok {d : Val} {v : V} {l : Nat} {ds : List Val} (a : At K r h m G s H) (q : RP K G m H d v) (e : cellL h d = some (l, ds)) :
    ∃ p xs, d = .ref l ∧ h[l]? = some (.lst ds) ∧ v = .ref p ∧ m[l]? = some p ∧ H p = some (.lst xs) ∧ xs.length ≤ sizeLine ∧ RVs K G m ds xs := by
  cases d <;> try (cases e; done)
  rename_i l'
  unfold cellL at e
  dsimp only at e
  cases o : h[l']? with
  | none => rw [o] at e; cases e
  | some ob =>
    rw [o] at e
    cases ob with
    | dct _ => cases e
    | lst es =>
      cases e
      obtain ⟨p, rfl, i⟩ := q
      obtain ⟨xs, e1, z, w⟩ := a.h.ob _ _ p o i
      exact ⟨p, xs, rfl, o, rfl, i, a.e _ _ e1, z, w⟩
def cellD (h : Hs) : Val → Option (Nat × List (Key × Val))
  | .ref l => match h[l]? with
    | some (.dct ds) => some (l, ds)
    | _ => none
  | _ => none
theorem cellD_ok {d : Val} {v : V} {l : Nat} {ds : List (Key × Val)} (a : At K r h m G s H) (q : RP K G m H d v) (e : cellD h d = some (l, ds)) :
    ∃ p xs, d = .ref l ∧ h[l]? = some (.dct ds) ∧ v = .ref p ∧ m[l]? = some p ∧ H p = some (.dK xs) ∧ xs.length ≤ sizeLine ∧ xs.map (·.1) = ds.map (·.1) ∧ RVs K G m (ds.map (·.2)) (xs.map (·.2)) := by
  cases d <;> try (cases e; done)
  rename_i l'
  unfold cellD at e
  dsimp only at e
  cases o : h[l']? with
  | none => rw [o] at e; cases e
  | some ob =>
    rw [o] at e
    cases ob with
    | lst _ => cases e
    | dct es =>
      cases e
      obtain ⟨p, rfl, i⟩ := q
      obtain ⟨xs, e1, z, y, w⟩ := a.h.ob _ _ p o i
      exact ⟨p, xs, rfl, o, rfl, i, a.e _ _ e1, z, y, w⟩
end

/-! ### calls of what is built in -/
section
variable {X : Cx} {n : Str} {e e2 : Expr} {x y : EM} {p pos : Pos} {id T : String} {t : List V → Hp → VK → Prop}
theorem se_callB {f : Hs → Val → R Val} (hc : CallR X (.builtin id) t) (pr : P1 X.K X.mg (fun v H Q => t [v] H Q) f) (hg : Gl X n) (hm : X.mg n = none) (hv : bootBuiltins n = some (.builtin id)) (he : SE X e x)
    (hn : n ≠ "__name__" := by decide) (hdb : (n == ("__debug__" : Str)) = false := by decide) (hs : starEach [e] X.env = (false, eval e X.env) :: starEach [] X.env := by rfl) (hpl : (backTo pos (starEach [] X.env)).any (·.1) = false := by rfl) :
    SE X (.Call (.Name n p) [e] [] pos) (op1 f x) := ⟨fun W tk => (pe_callB hc hg hm hv (pa_cons (he.run W tk) pa_nil hs) hn hdb hs hpl).imp fun _ _ _ q => tE_op1 pr q⟩
theorem se_callT {f : Hs → Val → R Val} (hc : CallR X (.type T) t) (pr : P1 X.K X.mg (fun v H Q => t [v] H Q) f) (hg : Gl X n) (hm : X.mg n = none) (hv : bootBuiltins n = some (.type T)) (he : SE X e x)
    (hn : n ≠ "__name__" := by decide) (hdb : (n == ("__debug__" : Str)) = false := by decide) (hs : starEach [e] X.env = (false, eval e X.env) :: starEach [] X.env := by rfl) (hpl : (backTo pos (starEach [] X.env)).any (·.1) = false := by rfl) :
    SE X (.Call (.Name n p) [e] [] pos) (op1 f x) := ⟨fun W tk => (pe_callTy hc hg hm hv (pa_cons (he.run W tk) pa_nil hs) hn hdb hs hpl).imp fun _ _ _ q => tE_op1 pr q⟩
theorem se_callB2 {f : Hs → Val → Val → R Val} (hc : CallR X (.builtin id) t) (pr : P2 X.K X.mg (fun v u H Q => t [v, u] H Q) f) (hg : Gl X n) (hm : X.mg n = none) (hv : bootBuiltins n = some (.builtin id)) (he : SE X e x) (he2 : SE X e2 y)
    (hn : n ≠ "__name__" := by decide) (hdb : (n == ("__debug__" : Str)) = false := by decide) (hs : starEach [e, e2] X.env = (false, eval e X.env) :: starEach [e2] X.env := by rfl) (hs2 : starEach [e2] X.env = (false, eval e2 X.env) :: starEach [] X.env := by rfl)
    (hpl : (backTo pos (starEach [e2] X.env)).any (·.1) = false := by rfl) :
    SE X (.Call (.Name n p) [e, e2] [] pos) (op2 f x y) := ⟨fun W tk => (pe_callB hc hg hm hv (pa_cons (he.run W tk) (pa_cons (he2.run W tk) pa_nil hs2) hs) hn hdb hs hpl).imp fun _ _ _ q => tE_op2 (t := fun v u H Q => t [v, u] H Q) pr q⟩
end
def asI : Val → Option Int
  | .int i => some i
  | _ => none
def asB : Val → Option Bool
  | .bl i => some i
  | _ => none
def asS : Val → Option Str
  | .str i => some i
  | _ => none
def allOf {α : Type} (f : Val → Option α) : List Val → Option (List α)
  | [] => some []
  | d :: ds => match f d, allOf f ds with
    | some a, some as => some (a :: as)
    | _, _ => none
theorem allOf_map {α : Type} {f : Val → Option α} {c : α → Val} (hf : ∀ d a, f d = some a → d = c a) : ∀ {ds : List Val} {as : List α}, allOf f ds = some as → ds = as.map c
  | [], as, h => by cases h; rfl
  | d :: ds, as, h => by
    unfold allOf at h
    cases e1 : f d with
    | none => rw [e1] at h; cases h
    | some a =>
      rw [e1] at h
      cases e2 : allOf f ds with
      | none => rw [e2] at h; cases h
      | some as' =>
        rw [e2] at h
        cases h
        rw [hf d a e1, allOf_map hf e2]; rfl
theorem allOf_of {α : Type} {f : Val → Option α} {c : α → Val} (hf : ∀ a, f (c a) = some a) : ∀ (as : List α), allOf f (as.map c) = some as
  | [] => rfl
  | a :: as => by
    show (match f (c a), allOf f (as.map c) with
      | some a, some as => some (a :: as)
      | _, _ => none) = _
    rw [hf, allOf_of hf as]
theorem asI_ok {d : Val} {a : Int} (h : asI d = some a) : d = .int a := by cases d <;> first | cases h; rfl | cases h
theorem asB_ok {d : Val} {a : Bool} (h : asB d = some a) : d = .bl a := by cases d <;> first | cases h; rfl | cases h
theorem asS_ok {d : Val} {a : Str} (h : asS d = some a) : d = .str a := by cases d <;> first | cases h; rfl | cases h
def onIs (f : Hs → List Int → R Val) (h : Hs) (ds : List Val) : R Val := match allOf asI ds with
  | some ns => f h ns
  | none => .no
def onBs (f : Hs → List Bool → R Val) (h : Hs) (ds : List Val) : R Val := match allOf asB ds with
  | some ns => f h ns
  | none => .no
def onSs (f : Hs → List Str → R Val) (h : Hs) (ds : List Val) : R Val := match allOf asS ds with
  | some ns => f h ns
  | none => .no
def absF : Hs → Val → R Val := onI fun h i => .ok (.int (if i < 0 then -i else i)) h
def lenF : Hs → Val → R Val := or1 (onQ fun h ds => .ok (.int ds.length) h) (onS fun h z => gd (z.length ≤ sizeLine) (.ok (.int z.length) h))
def sumF : Hs → Val → R Val := onL (onIs fun h ns => .ok (.int ns.sum) h)
def allF : Hs → Val → R Val := onL (onBs fun h ns => .ok (.bl (ns.all id)) h)
def anyF : Hs → Val → R Val := onL (onBs fun h ns => .ok (.bl (ns.any id)) h)
def tupleF : Hs → Val → R Val := or1 (onT fun h ds => .ok (.tup ds) h) (onL fun h ds => .ok (.tup ds) h)
def listF : Hs → Val → R Val := onQ fun h ds => .ok (.tl ds) h
def min2F : Hs → Val → Val → R Val := onII fun h i j => .ok (.int (if j < i then j else i)) h
def max2F : Hs → Val → Val → R Val := onII fun h i j => .ok (.int (if j > i then j else i)) h
def strF : Hs → Val → R Val := onI fun h i => gd (i.natAbs.log2 < 1920) (.ok (.str (toString i)) h)
def intF : Hs → Val → R Val := or1 (onI fun h i => .ok (.int i) h) (or1 (fun h d => match d with
  | .bl k => .ok (.int (if k then 1 else 0)) h
  | _ => .no) (onS fun h z => match PySem.intText? z with
    | some n => gd (z.length ≤ 640) (.ok (.int n) h)
    | none => .no))
open Classical in
noncomputable def sortF : Hs → Val → R Val := onL fun h ds => gd (SortOk (pys ds)) (.ok (.tl (isort (fun a b => lx (code (py a)) (code (py b))) ds)) h)
section
variable {X : Cx} {e e2 : Expr} {x y : EM} {p pos : Pos} {k : Nat} {K : PySem.W.Frag} {mg : Str → Option Value}
theorem se_abs (hg : Gl X "abs") (hm : X.mg "abs" = none) (he : SE X e x) (hs : starEach [e] X.env = (false, eval e X.env) :: starEach [] X.env := by rfl) (hpl : (backTo pos (starEach [] X.env)).any (·.1) = false := by rfl) : SE X (.Call (.Name "abs" p) [e] [] pos) (op1 absF x) :=
  se_callB call_abs (p1_I fun _ _ _ _ _ _ _ i _ a o => ⟨i, rfl, o.sameV a rfl⟩) hg hm (by decide +kernel) he (by decide) (by decide) hs hpl
theorem se_len (hg : Gl X "len") (hm : X.mg "len" = none) (he : SE X e x) (hs : starEach [e] X.env = (false, eval e X.env) :: starEach [] X.env := by rfl) (hpl : (backTo pos (starEach [] X.env)).any (·.1) = false := by rfl) : SE X (.Call (.Name "len" p) [e] [] pos) (op1 lenF x) :=
  se_callB (call_len_seq.or call_len_str) (P1.or (p1_Q fun _ _ _ _ _ _ _ ds Q p xs a s1 z1 w1 o => ⟨p, xs, rfl, s1, by rw [← w1.length]; exact o.sameV a rfl⟩)
    (p1_S fun _ _ _ _ _ _ _ i _ a o => ⟨i, rfl, o.gd.1, o.gd.2.sameV a rfl⟩)) hg hm PySem.boot_len he (by decide) (by decide) hs hpl
theorem se_sum (hc : X.calm = true) (hg : Gl X "sum") (hm : X.mg "sum" = none) (he : SE X e x) (hs : starEach [e] X.env = (false, eval e X.env) :: starEach [] X.env := by rfl) (hpl : (backTo pos (starEach [] X.env)).any (·.1) = false := by rfl) : SE X (.Call (.Name "sum" p) [e] [] pos) (op1 sumF x) :=
  se_callB (cr_sum hc) (p1_L fun _ _ _ _ _ _ _ ds Q p xs a s1 z1 w1 o => by
    unfold onIs at o
    cases e : allOf asI ds with
    | none => rw [e] at o; exact o.elim
    | some ns =>
      rw [e] at o
      have e2 := allOf_map (c := Val.int) (fun d a => asI_ok) e
      subst e2
      have e3 := w1.ints
      subst e3
      exact ⟨p, ns, rfl, s1, o.sameV a rfl⟩) hg hm (by decide +kernel) he (by decide) (by decide) hs hpl
theorem se_all (hc : X.calm = true) (hg : Gl X "all") (hm : X.mg "all" = none) (he : SE X e x) (hs : starEach [e] X.env = (false, eval e X.env) :: starEach [] X.env := by rfl) (hpl : (backTo pos (starEach [] X.env)).any (·.1) = false := by rfl) : SE X (.Call (.Name "all" p) [e] [] pos) (op1 allF x) :=
  se_callB (cr_all hc) (p1_L fun _ _ _ _ _ _ _ ds Q p xs a s1 z1 w1 o => by
    unfold onBs at o
    cases e : allOf asB ds with
    | none => rw [e] at o; exact o.elim
    | some ns =>
      rw [e] at o
      have e2 := allOf_map (c := Val.bl) (fun d a => asB_ok) e
      subst e2
      have e3 := w1.bls
      subst e3
      exact ⟨p, ns, rfl, s1, o.sameV a rfl⟩) hg hm (by decide +kernel) he (by decide) (by decide) hs hpl
theorem se_any (hc : X.calm = true) (hg : Gl X "any") (hm : X.mg "any" = none) (he : SE X e x) (hs : starEach [e] X.env = (false, eval e X.env) :: starEach [] X.env := by rfl) (hpl : (backTo pos (starEach [] X.env)).any (·.1) = false := by rfl) : SE X (.Call (.Name "any" p) [e] [] pos) (op1 anyF x) :=
  se_callB (cr_any hc) (p1_L fun _ _ _ _ _ _ _ ds Q p xs a s1 z1 w1 o => by
    unfold onBs at o
    cases e : allOf asB ds with
    | none => rw [e] at o; exact o.elim
    | some ns =>
      rw [e] at o
      have e2 := allOf_map (c := Val.bl) (fun d a => asB_ok) e
      subst e2
      have e3 := w1.bls
      subst e3
      exact ⟨p, ns, rfl, s1, o.sameV a rfl⟩) hg hm (by decide +kernel) he (by decide) (by decide) hs hpl
theorem se_tuple (hg : Gl X "tuple") (hm : X.mg "tuple" = none) (he : SE X e x) (hs : starEach [e] X.env = (false, eval e X.env) :: starEach [] X.env := by rfl) (hpl : (backTo pos (starEach [] X.env)).any (·.1) = false := by rfl) : SE X (.Call (.Name "tuple" p) [e] [] pos) (op1 tupleF x) :=
  se_callT (T := "tuple") (call_tuple_of.or call_tuple_of) (P1.or (p1_T fun _ _ _ _ _ _ _ ds Q p xs a r1 s1 z1 w1 o => ⟨p, xs, rfl, .inr ⟨s1, o.sameV a r1⟩⟩)
    (p1_L fun _ _ _ _ _ _ _ ds Q p xs a s1 z1 w1 o => ⟨p, xs, rfl, .inl ⟨s1, Out.newT a o z1 w1⟩⟩)) hg hm (by decide +kernel) he (by decide) (by decide) hs hpl
theorem se_list (hg : Gl X "list") (hm : X.mg "list" = none) (he : SE X e x) (hs : starEach [e] X.env = (false, eval e X.env) :: starEach [] X.env := by rfl) (hpl : (backTo pos (starEach [] X.env)).any (·.1) = false := by rfl) : SE X (.Call (.Name "list" p) [e] [] pos) (op1 listF x) :=
  se_callT (T := "list") call_list_of (p1_Q fun _ _ _ _ _ _ _ ds Q p xs a s1 z1 w1 o => ⟨p, xs, rfl, s1, Out.tmpL a o z1 w1⟩) hg hm (by decide +kernel) he (by decide) (by decide) hs hpl
theorem se_str1 (hg : Gl X "str") (hm : X.mg "str" = none) (he : SE X e x) (hs : starEach [e] X.env = (false, eval e X.env) :: starEach [] X.env := by rfl) (hpl : (backTo pos (starEach [] X.env)).any (·.1) = false := by rfl) : SE X (.Call (.Name "str" p) [e] [] pos) (op1 strF x) :=
  se_callT (T := "str") call_str_int (p1_I fun _ _ _ _ _ _ _ i _ a o => ⟨i, rfl, o.gd.1, o.gd.2.sameV a rfl⟩) hg hm (by decide +kernel) he (by decide) (by decide) hs hpl
theorem se_int1 (hg : Gl X "int") (hm : X.mg "int" = none) (he : SE X e x) (hs : starEach [e] X.env = (false, eval e X.env) :: starEach [] X.env := by rfl) (hpl : (backTo pos (starEach [] X.env)).any (·.1) = false := by rfl) : SE X (.Call (.Name "int" p) [e] [] pos) (op1 intF x) :=
  se_callT (T := "int") (call_int1.or (call_int1.or call_int_str)) (P1.or (p1_I fun _ _ _ _ _ _ _ i _ a o => .inl ⟨i, rfl, o.sameV a rfl⟩) (P1.or (fun _ _ _ _ _ _ _ d v Q a ra o => by
      cases d <;> try exact o.elim
      have e : v = V.bl _ := ra
      subst e
      exact .inr ⟨_, rfl, o.sameV a rfl⟩)
    (p1_S fun _ _ _ _ _ _ _ i _ a o => by
      cases e : PySem.intText? i with
      | none => rw [e] at o; exact o.elim
      | some n => rw [e] at o; exact ⟨i, n, rfl, e, o.gd.1, o.gd.2.sameV a rfl⟩))) hg hm (by decide +kernel) he (by decide) (by decide) hs hpl
theorem se_min2 (hc : X.calm = true) (hg : Gl X "min") (hm : X.mg "min" = none) (he : SE X e x) (he2 : SE X e2 y) (hs : starEach [e, e2] X.env = (false, eval e X.env) :: starEach [e2] X.env := by rfl) (hs2 : starEach [e2] X.env = (false, eval e2 X.env) :: starEach [] X.env := by rfl)
    (hpl : (backTo pos (starEach [e2] X.env)).any (·.1) = false := by rfl) : SE X (.Call (.Name "min" p) [e, e2] [] pos) (op2 min2F x y) :=
  se_callB2 (call_min2 hc) (p2_II fun _ _ _ _ _ _ _ i j _ a o => ⟨i, j, rfl, o.sameV a rfl⟩) hg hm (by decide +kernel) he he2 (by decide) (by decide) hs hs2 hpl
theorem se_max2 (hc : X.calm = true) (hg : Gl X "max") (hm : X.mg "max" = none) (he : SE X e x) (he2 : SE X e2 y) (hs : starEach [e, e2] X.env = (false, eval e X.env) :: starEach [e2] X.env := by rfl) (hs2 : starEach [e2] X.env = (false, eval e2 X.env) :: starEach [] X.env := by rfl)
    (hpl : (backTo pos (starEach [e2] X.env)).any (·.1) = false := by rfl) : SE X (.Call (.Name "max" p) [e, e2] [] pos) (op2 max2F x y) :=
  se_callB2 (call_max2 hc) (p2_II fun _ _ _ _ _ _ _ i j _ a o => ⟨i, j, rfl, o.sameV a rfl⟩) hg hm (by decide +kernel) he he2 (by decide) (by decide) hs hs2 hpl
theorem rvs_sort {G : Hp} {m : List Addr} {ds : List Val} {xs : List V} (w : RVs K G m ds xs) : RVs K G m (isort (fun a b => lx (code (py a)) (code (py b))) ds) ((isort ltP1 ((pys ds).zip xs)).map (·.2)) := by
  have hl := w.length
  have e1 : isort (fun a b => lx (code (py a)) (code (py b))) ds = (isort (fun p q : Val × V => lx (code (py p.1)) (code (py q.1))) (ds.zip xs)).map (·.1) := by
    have := isort_map (lt := fun p q : Val × V => lx (code (py p.1)) (code (py q.1))) (lt2 := fun a b => lx (code (py a)) (code (py b))) (fun t : Val × V => t.1) (ds.zip xs) fun x mx y my => rfl
    rw [← this, List.map_fst_zip (by omega)]
  have e2 : isort ltP1 ((pys ds).zip xs) = (isort (fun p q : Val × V => lx (code (py p.1)) (code (py q.1))) (ds.zip xs)).map (fun t => (py t.1, t.2)) := by
    have := isort_map (lt := fun p q : Val × V => lx (code (py p.1)) (code (py q.1))) (lt2 := ltP1) (fun t : Val × V => (py t.1, t.2)) (ds.zip xs) fun x mx y my => rfl
    rw [← this]
    congr 1
    rw [pys_map, List.zip_map_left]
    rfl
  have all : ∀ t ∈ ds.zip xs, RV K G m t.1 t.2 := by
    intro t ht
    obtain ⟨i, hi⟩ := List.mem_iff_getElem?.mp ht
    obtain ⟨h1, h2⟩ := List.getElem?_zip_eq_some.mp hi
    obtain ⟨x, h3, h4⟩ := w.get h1
    rw [h2] at h3; cases h3; exact h4
  have gen : ∀ l : List (Val × V), (∀ t ∈ l, RV K G m t.1 t.2) → RVs K G m (l.map (·.1)) (l.map (·.2)) := by
    intro l
    induction l with
    | nil => intro _; exact rfl
    | cons t l ih => intro h; exact ⟨t.2, l.map (·.2), rfl, h t List.mem_cons_self, ih fun u hu => h u (List.mem_cons_of_mem _ hu)⟩
  rw [e1, e2, List.map_map]
  exact gen _ fun t ht => all t (isort_mem.mp ht)
open Classical in
theorem se_sorted (hr : Room k X.A) (hg : Gl X "sorted") (hm : X.mg "sorted" = none) (he : SE X e x) (hs : starEach [e] X.env = (false, eval e X.env) :: starEach [] X.env := by rfl) (hpl : (backTo pos (starEach [] X.env)).any (·.1) = false := by rfl) : SE X (.Call (.Name "sorted" p) [e] [] pos) (op1 sortF x) :=
  se_callB (cr_sortD (units70 hr)) (p1_L fun W r h m G s H ds Q p xs a s1 z1 w1 o => by
    obtain ⟨ok, o⟩ := o.gd
    have z2 : ((isort ltP1 ((pys ds).zip xs)).map (·.2)).length ≤ sizeLine := by
      rw [List.length_map, isort_length, List.length_zip]; omega
    exact ⟨p, xs, pys ds, rfl, s1, dp_rvs a.e ds xs w1 ok.lay, ok, Out.tmpL a o z2 (rvs_sort w1)⟩) hg hm (by decide +kernel) he (by decide) (by decide) hs hpl
end
end Rg
namespace Rg
open PySem PySem.Spec PyProof.Rows L2

/-! ### targets -/
inductive Pt where
  | nm (i : Nat)
  | tp (ps : List Pt)
mutual
def Pt.sl : Pt → List Nat
  | .nm i => [i]
  | .tp ps => Pt.sls ps
def Pt.sls : List Pt → List Nat
  | [] => []
  | p :: ps => p.sl ++ Pt.sls ps
end
mutual
def asgP (h : Hs) : Pt → Val → Sl → Option Sl
  | .nm i, d, r => if isTmp d = true then none else some (r.set i (some d))
  | .tp ps, d, r => match asQ h d with
    | some ds => asgPs h ps ds r
    | none => none
def asgPs (h : Hs) : List Pt → List Val → Sl → Option Sl
  | [], [], r => some r
  | p :: ps, d :: ds, r => match asgP h p d r with
    | some r1 => asgPs h ps ds r1
    | none => none
  | _, _, _ => none
end
/-- slots forgotten -/
def wipeS (r : Sl) : List Nat → Sl
  | [] => r
  | v :: vs => (wipeS r vs).set v none

theorem wipe_get (s : L2.St) (j : Nat) : ∀ vs : List Nat, (wipe s vs)[j]? = if j ∈ vs ∧ j < s.length then some none else s[j]?
  | [] => by simp [wipe]
  | v :: vs => by
    unfold wipe
    by_cases e : v = j
    · subst e
      by_cases c : v < s.length
      · rw [List.getElem?_set_self (by rw [wipe_length]; exact c), if_pos ⟨List.mem_cons_self, c⟩]
      · rw [if_neg (fun z => c z.2)]
        rw [List.getElem?_eq_none (by rw [List.length_set, wipe_length]; omega), List.getElem?_eq_none (by omega)]
    · rw [List.getElem?_set_ne e, wipe_get s j vs]
      have : (j ∈ v :: vs) ↔ j ∈ vs := by rw [List.mem_cons]; exact ⟨fun z => z.resolve_left (fun q => e q.symm), .inr⟩
      simp only [this]
theorem wipe_eq {s s' : L2.St} {vs : List Nat} (hl : s'.length = s.length) (h : ∀ j, j ∉ vs → s'[j]? = s[j]?) : wipe s' vs = wipe s vs := by
  apply List.ext_getElem?
  intro j
  rw [wipe_get, wipe_get, hl]
  by_cases c : j ∈ vs ∧ j < s.length
  · rw [if_pos c, if_pos c]
  · rw [if_neg c, if_neg c]
    by_cases d : j ∈ vs
    · have : ¬ j < s.length := fun z => c ⟨d, z⟩
      rw [List.getElem?_eq_none (by omega), List.getElem?_eq_none (by omega)]
    · exact h j d
section
variable {K : PySem.W.Frag} {mg : Str → Option Value} {W : WX} {G H : Hp} {m : List Addr} {h : Hs} {r : Sl} {s : L2.St}
theorem RS.set (q : RS K G m r s) (i : Nat) {d : Val} {v : V} (w : RV K G m d v) : RS K G m (r.set i (some d)) (s.set i (some v)) := by
  refine ⟨by simp [q.1], fun j e he => ?_⟩
  by_cases c : i = j
  · subst c
    have hi : i < r.length := by
      have := (List.getElem?_eq_some_iff.mp he).1
      simpa using this
    rw [List.getElem?_set_self hi] at he
    cases he
    exact ⟨v, List.getElem?_set_self (by rw [← q.1]; exact hi), w⟩
  · rw [List.getElem?_set_ne c] at he ⊢
    exact q.2 j e he
theorem RS.wipe (q : RS K G m r s) : ∀ vs : List Nat, RS K G m (wipeS r vs) (L2.wipe s vs)
  | [] => q
  | v :: vs => by
    have ih := RS.wipe q vs
    refine ⟨by unfold wipeS L2.wipe; simp [ih.1], fun j e he => ?_⟩
    unfold wipeS at he
    unfold L2.wipe
    by_cases c : v = j
    · subst c
      have hi : v < (wipeS r vs).length := by
        have := (List.getElem?_eq_some_iff.mp he).1
        simpa using this
      rw [List.getElem?_set_self hi] at he
      cases he
    · rw [List.getElem?_set_ne c] at he ⊢
      exact ih.2 j e he
end
def gP (K : PySem.W.Frag) (p : Pt) : TG := fun x s H Q => ∃ r h m G d r', At K r h m G s H ∧ RV K G m d x ∧ asgP h p d r = some r' ∧ ∀ s', RS K G m r' s' → s'.length = s.length → (∀ j, j ∉ p.sl → s'[j]? = s[j]?) → Q s' H
def gPs (K : PySem.W.Frag) (p : List Pt) : TGs := fun xs s H Q => ∃ r h m G ds r', At K r h m G s H ∧ RVs K G m ds xs ∧ asgPs h p ds r = some r' ∧ ∀ s', RS K G m r' s' → s'.length = s.length → (∀ j, j ∉ Pt.sls p → s'[j]? = s[j]?) → Q s' H
section
variable {X : Cx} {tg : Expr} {pos : Pos} {t t' : TG} {u u' : TGs}
theorem _root_.L2.PG.imp (h : PG X tg t) (i : ∀ v s H Q, t' v s H Q → t v s H Q) : PG X tg t' := ⟨fun pins s σ H v u Q I r w => h.run pins s σ H v u Q I r (i _ _ _ _ w)⟩
theorem _root_.L2.PGs.imp {ts : List Expr} (h : PGs X ts u) (i : ∀ v s H Q, u' v s H Q → u v s H Q) : PGs X ts u' := ⟨fun pins s σ H v w Q I r z => h.run pins s σ H v w Q I r (i _ _ _ _ z)⟩
theorem _root_.L2.PG.or (h : PG X tg t) (h' : PG X tg t') : PG X tg (fun v s H Q => t v s H Q ∨ t' v s H Q) := ⟨fun pins s σ H v u Q I r w => w.elim (h.run pins s σ H v u Q I r) (h'.run pins s σ H v u Q I r)⟩
structure SG (X : Cx) (tg : Expr) (p : Pt) : Prop where
  run : PG X tg (gP X.K p)
structure SGs (X : Cx) (ts : List Expr) (p : List Pt) : Prop where
  run : PGs X ts (gPs X.K p)
theorem sg_name (i : Nat) {x : Str} (hN : X.N.Nodup) (hi : X.N[i]? = some x := by rfl) (hx : Loc X.env.scope x := by first | exact Or.inl rfl | exact Or.inr rfl) (hf : X.fn x = true ∨ X.env.scope.names.lookup x = some .local := by first | exact .inl rfl | exact .inr rfl) : SG X (.Name x pos) (.nm i) :=
  ⟨(pg_name hN hi hx hf).imp fun v s H Q ⟨r, h, m, G, d, r', a, q, e, n⟩ => by
    unfold asgP at e
    split at e
    · cases e
    · cases e
      refine n _ (RS.set a.s i q) (by simp) fun j hj => ?_
      have : i ≠ j := fun z => hj (by subst z; exact List.mem_singleton.mpr rfl)
      exact List.getElem?_set_ne this⟩
theorem sgs_nil : SGs X [] [] := ⟨pgs_nil.imp fun v s H Q ⟨r, h, m, G, ds, r', a, q, e, n⟩ => by
  cases ds with
  | cons _ _ => cases e
  | nil =>
    cases e
    exact ⟨q, n s a.s rfl fun _ _ => rfl⟩⟩
theorem sgs_cons {e : Expr} {es : List Expr} {p : Pt} {ps : List Pt} (h1 : SG X e p) (h2 : SGs X es ps) (hs : (assignEach (e :: es) X.env).map (·.2) = assign e X.env :: (assignEach es X.env).map (·.2) := by rfl) : SGs X (e :: es) (p :: ps) :=
  ⟨(pgs_cons h1.run h2.run hs).imp fun v s H Q ⟨r, h, m, G, ds, r', a, q, e, n⟩ => by
    cases ds with
    | nil => cases e
    | cons d ds =>
      obtain ⟨x, xs, ev, q1, q2⟩ := q
      unfold asgPs at e
      cases e1 : asgP h p d r with
      | none => rw [e1] at e; cases e
      | some r1 =>
        rw [e1] at e
        refine ⟨x, xs, ev, r, h, m, G, d, r1, a, q1, e1, fun s1 rs1 l1 k1 => ?_⟩
        refine ⟨r1, h, m, G, ds, r', ⟨rs1, a.h, a.e⟩, q2, e, fun s2 rs2 l2 k2 => ?_⟩
        refine n s2 rs2 (l2.trans l1) fun j hj => ?_
        have hj' : j ∉ p.sl ++ Pt.sls ps := hj
        rw [k2 j fun z => hj' (List.mem_append_right _ z), k1 j fun z => hj' (List.mem_append_left _ z)]⟩
theorem sg_tup {es : List Expr} {k : Nat} {ps : List Pt} (hc : X.calm = true) (h : SGs X es ps) (hl : es.length = ps.length := by rfl) (hn : (assignEach es X.env).length = es.length := by rfl) (hst : (assignEach es X.env).findIdx? (·.1) = none := by rfl) : SG X (.Tuple es k pos) (.tp ps) := by
  have len : ∀ (h : Hs) (ps : List Pt) (ds : List Val) (r r' : Sl), asgPs h ps ds r = some r' → ps.length = ds.length := by
    intro h ps
    induction ps with
    | nil => intro ds r r' e; cases ds with
      | nil => rfl
      | cons _ _ => cases e
    | cons p ps ih => intro ds r r' e; cases ds with
      | nil => cases e
      | cons d ds =>
        unfold asgPs at e
        cases e1 : asgP h p d r with
        | none => rw [e1] at e; cases e
        | some r1 => rw [e1] at e; simp [ih ds r1 r' e]
  exact ⟨((pg_tup (n := es.length) hc h.run hn hst).or (pg_lst (n := es.length) hc h.run hn hst)).imp fun v s H Q ⟨r, h, m, G, d, r', a, q, e, n⟩ => by
    unfold asgP at e
    cases e1 : asQ h d with
    | none => rw [e1] at e; cases e
    | some ds =>
      rw [e1] at e
      obtain ⟨p, xs, rfl, s1, z1, w1⟩ := asQ_ok a q.rp e1
      have l := len h ps ds r r' e
      have lx := w1.length
      rcases s1 with s1 | s1
      · exact .inr ⟨p, xs, rfl, s1, by omega, r, h, m, G, ds, r', a, w1, e, n⟩
      · exact .inl ⟨p, xs, rfl, s1, by omega, r, h, m, G, ds, r', a, w1, e, n⟩⟩
end

/-! ### what is walked -/
/-- n: how many turns at most; at_: the i-th item, none behind the last -/
structure ItV where
  n : Nat
  at_ : Hs → Nat → Option (Option Val)
abbrev IM := Sl → Hs → R ItV
def itL (ds : List Val) : ItV := ⟨ds.length, fun _ i => some ds[i]?⟩
def itC (l : Nat) (n : Nat) : ItV := ⟨n, fun h i => match h[l]? with
  | some (.lst ds) => some ds[i]?
  | _ => none⟩
structure ItOk (K : PySem.W.Frag) (m : List Addr) (G H : Hp) (it : ItV) (J : It) : Prop where
  n : it.n ≤ sizeLine
  ok : ∀ h' m' G' H', Kp m G H m' G' H' → RH K h' m' G' → ∀ i, (it.at_ h' i = some none → J.stop i H') ∧
    ∀ d, it.at_ h' i = some (some d) → J.go i H' ∧ ∀ x H'', J.yld i H' x H'' → ∃ G'', Kp m' G' H' m' G'' H'' ∧ RH K h' m' G'' ∧ RV K G'' m' d x
def relI (K : PySem.W.Frag) (m' : List Addr) (G' H H' : Hp) (it : ItV) (J : It) : Prop := ItOk K m' G' H' it J
theorem mono_I {K : PySem.W.Frag} : Mono (relI K) := fun _ _ _ _ _ _ _ _ q => q
def tI (K : PySem.W.Frag) (mg : Str → Option Value) (W : WX) (x : IM) : TI := tM K mg W (relI K) x
structure SI (X : Cx) (tg e : Expr) (x : IM) : Prop where
  run : ∀ W, Takes X W → PI X tg e (tI X.K X.mg W x)
theorem _root_.L2.PI.imp {X : Cx} {tg e : Expr} {t t' : TI} (h : PI X tg e t) (i : ∀ s H R, t' s H R → t s H R) : PI X tg e t' := ⟨fun pins s σ H R I q => h.run pins s σ H R I (i _ _ _ q)⟩
section
variable {K : PySem.W.Frag} {G H : Hp} {m : List Addr} {h : Hs}
theorem itL_list {p : Addr} {xs : List V} {ds : List Val} (rh : RH K h m G) (e : Ex G H) (rv : RV K G m (.lst ds) (.ref p)) (z : xs.length ≤ sizeLine) (s1 : SqL K H p xs) (w : RVs K G m ds xs) (st : ∀ m' G' H', Kp m G H m' G' H' → SqL K H' p xs) : ItOk K m G H (itL ds) (Itl K p) := by
  refine ⟨by show ds.length ≤ sizeLine; rw [w.length]; exact z, fun h' m' G' H' k rh' i => ⟨fun e1 => ⟨xs, st _ _ _ k, ?_⟩, fun d e1 => ?_⟩⟩
  · have : ds[i]? = none := Option.some.inj e1
    rw [← w.length]; exact List.getElem?_eq_none_iff.mp this
  · have e2 : ds[i]? = some d := Option.some.inj e1
    obtain ⟨x, e3, q⟩ := w.get e2
    have s2 := st _ _ _ k
    refine ⟨⟨xs, x, s2, e3⟩, fun x' H'' y => ?_⟩
    obtain ⟨rfl, y⟩ := y
    have : x' = x := Option.some.inj ((y xs s2).symm.trans e3)
    subst this
    exact ⟨G', Kp.refl k.e, rh', RV.stay (k.sty e rh) q⟩
theorem itL_tup {p : Addr} {xs : List V} {ds : List Val} (rh : RH K h m G) (e : Ex G H) (z : xs.length ≤ sizeLine) (w : RVs K G m ds xs) (st : ∀ m' G' H', Kp m G H m' G' H' → SqT K H' p xs) : ItOk K m G H (itL ds) (Itt K p) := by
  refine ⟨by show ds.length ≤ sizeLine; rw [w.length]; exact z, fun h' m' G' H' k rh' i => ⟨fun e1 => ⟨xs, st _ _ _ k, ?_⟩, fun d e1 => ?_⟩⟩
  · have : ds[i]? = none := Option.some.inj e1
    rw [← w.length]; exact List.getElem?_eq_none_iff.mp this
  · have e2 : ds[i]? = some d := Option.some.inj e1
    obtain ⟨x, e3, q⟩ := w.get e2
    have s2 := st _ _ _ k
    refine ⟨⟨xs, x, s2, e3⟩, fun x' H'' y => ?_⟩
    obtain ⟨rfl, y⟩ := y
    have : x' = x := Option.some.inj ((y xs s2).symm.trans e3)
    subst this
    exact ⟨G', Kp.refl k.e, rh', RV.stay (k.sty e rh) q⟩
theorem itC_list {p : Addr} {xs : List V} {l n : Nat} (rh : RH K h m G) (z : n ≤ sizeLine) (i0 : m[l]? = some p) : ItOk K m G H (itC l n) (Itl K p) := by
  refine ⟨z, fun h' m' G' H' k rh' i => ?_⟩
  have i1 : m'[l]? = some p := prefix_get k.pf i0
  show ((match h'[l]? with | some (.lst ds) => some ds[i]? | _ => none) = some none → _) ∧ ∀ d, (match h'[l]? with | some (.lst ds) => some ds[i]? | _ => none) = some (some d) → _
  cases o : h'[l]? with
  | none => exact ⟨fun e => (by cases e), fun d e => (by cases e)⟩
  | some ob =>
    cases ob with
    | dct _ => exact ⟨fun e => (by cases e), fun d e => (by cases e)⟩
    | lst ds =>
      obtain ⟨xs', e1, z1, w⟩ := rh'.ob l _ p o i1
      have s2 : SqL K H' p xs' := .inl (.inl (k.e _ _ e1))
      refine ⟨fun e2 => ⟨xs', s2, ?_⟩, fun d e2 => ?_⟩
      · have : ds[i]? = none := Option.some.inj e2
        rw [← w.length]; exact List.getElem?_eq_none_iff.mp this
      · have e3 : ds[i]? = some d := Option.some.inj e2
        obtain ⟨x, e4, q⟩ := w.get e3
        refine ⟨⟨xs', x, s2, e4⟩, fun x' H'' y => ?_⟩
        obtain ⟨rfl, y⟩ := y
        have : x' = x := Option.some.inj ((y xs' s2).symm.trans e4)
        subst this
        exact ⟨G', Kp.refl k.e, rh', q⟩
end
/-- any list, any tuple -/
theorem pi_seq {X : Cx} {tg l : Expr} {tl : TE} (hl : PE X l tl) : PI X tg l (fun s H R => tl s H fun x H1 => (∃ a, x = .ref a ∧ (∃ xs, SqL X.K H1 a xs) ∧ R (Itl X.K a) H1) ∨ (∃ a, x = .ref a ∧ (∃ xs, SqT X.K H1 a xs) ∧ R (Itt X.K a) H1) ∨ ∃ z, x = .str z ∧ R (Its z) H1) := by
  constructor
  intro pins s σ H R I hw
  refine thn (hl.run pins s σ H _ I hw) ?_
  rintro v s1 ⟨x, H1, I1, r1, q1⟩
  have fresh : FpOk X pins H1 s1.heap.objs.size := I1.fpOk (Nat.le_refl _) (I1.hok.fresh (Nat.le_refl _))
  have kept : ∀ ob : Obj, Inv X pins σ H1 { s1 with heap := s1.heap.push ob } := fun ob => I1.kept (t' := s1.toks) fun b o e => Heap.get?_push_of_some _ e
  rcases q1 with ⟨a, rfl, ⟨xs, hq⟩, q⟩ | ⟨a, rfl, ⟨xs, hq⟩, q⟩ | ⟨z, rfl, q⟩
  · cases r1
    obtain ⟨its, rv, p, hz⟩ := I1.list hq
    exact wpAny_pyIter_list p.isList ⟨_, [s1.heap.objs.size], _, _, H1, rfl, kept _, turn_list a _, ⟨_, Heap.get?_push_size _ rfl, rfl, rfl⟩, fun b hb => by rw [List.mem_singleton.mp hb]; exact fresh, q⟩
  · cases r1
    obtain ⟨its, rv, p, hz⟩ := I1.tuple hq
    exact wpAny_pyIter_tuple (show s1.heap.IsTuple a its.toArray from p) ⟨_, [s1.heap.objs.size], _, _, H1, rfl, kept _, turn_tuple a _, ⟨_, Heap.get?_push_size _ rfl, rfl, rfl⟩, fun b hb => by rw [List.mem_singleton.mp hb]; exact fresh, q⟩
  · obtain ⟨t, rfl⟩ := r1
    cases ha : z.cps.all (· < 128)
    · exact wpAny_pyIter_wide ha (pi_one (tk := s1.toks) I1 _ (turn_str _ z t "str_iterator" (.inr rfl)) ⟨_, Heap.get?_push_size _ rfl, rfl, rfl⟩ q)
    · exact wpAny_pyIter_ascii ha (pi_one (tk := s1.toks) I1 _ (turn_str _ z t "str_ascii_iterator" (.inl rfl)) ⟨_, Heap.get?_push_size _ rfl, rfl, rfl⟩ q)
/-- a text, sign by sign -/
def itS (z : Str) : ItV := ⟨z.cps.size, fun _ i => some ((z.cps[i]?).map fun c => .str ⟨#[c]⟩)⟩
theorem itS_ok {K : PySem.W.Frag} {m : List Addr} {G H : Hp} {z : Str} (c : z.cps.size ≤ sizeLine) : ItOk K m G H (itS z) (Its z) := by
  refine ⟨c, fun h' m' G' H' k rh i => ?_⟩
  show (some ((z.cps[i]?).map fun c => Val.str ⟨#[c]⟩) = some none → _) ∧ ∀ d, some ((z.cps[i]?).map fun c => Val.str ⟨#[c]⟩) = some (some d) → _
  cases e : z.cps[i]? with
  | none => exact ⟨fun _ => (show z.cps.size ≤ i by simpa using e), fun d h => (by cases h)⟩
  | some u =>
    refine ⟨fun h => (by cases h), fun d h => ?_⟩
    cases h
    refine ⟨(Array.getElem?_eq_some_iff.mp e).1, fun x H'' y => ?_⟩
    obtain ⟨rfl, u', e2, rfl⟩ := y
    rw [e] at e2; cases e2
    exact ⟨G', Kp.refl k.e, rh, rfl⟩
def seqI (x : EM) : IM := fun r h => (x r h).bind fun d h1 => match d with
  | .ref l => match h1[l]? with
    | some (.lst ds) => .ok (itC l ds.length) h1
    | _ => .no
  | .str z => gd (z.cps.size ≤ sizeLine) (.ok (itS z) h1)
  | d => match asQ h1 d with
    | some ds => .ok (itL ds) h1
    | none => .no
section
variable {X : Cx} {tg e : Expr} {x : EM} {K : PySem.W.Frag} {mg : Str → Option Value} {W : WX} {G H : Hp} {m : List Addr} {h : Hs} {r : Sl} {s : L2.St}
theorem kpSqL {p : Addr} {xs : List V} (rh : RH K h m G) (e : Ex G H) (n : p ∉ m) (q : SqL K H p xs) : ∀ m' G' H', Kp m G H m' G' H' → SqL K H' p xs := fun m' G' H' k => by
  rcases q with (q | ⟨o, q⟩) | q
  · exact .inl (.inl (k.h _ _ q n))
  · exact .inl (.inr ⟨o, k.h _ _ q n⟩)
  · exact .inr q
theorem kpSqT {p : Addr} {xs : List V} (rh : RH K h m G) (e : Ex G H) (q : SqT K H p xs) : ∀ m' G' H', Kp m G H m' G' H' → SqT K H' p xs := fun m' G' H' k => by
  have nin : ∀ o, H p = some o → ¬ isMut o → p ∉ m := fun o h1 h2 i => by
    obtain ⟨o', e1, mu⟩ := rh.mu p i
    have := e _ _ e1
    rw [h1] at this; cases this; exact h2 mu
  rcases q with (q | ⟨o, q⟩) | q
  · exact .inl (.inl (k.h _ _ q (nin _ q fun z => z)))
  · exact .inl (.inr ⟨o, k.h _ _ q (nin _ q fun z => z)⟩)
  · exact .inr q
theorem si_seq (he : SE X e x) : SI X tg e (seqI x) := ⟨fun W tk => (pi_seq (he.run W tk)).imp fun s H R ⟨r, h, m, G, a, o⟩ => by
  refine step mono_I a o fun d h1 m1 G1 H1 v a1 k1 rl o1 => ?_
  replace rl := rl.1
  have tmp : ∀ ds, d = .lst ds ∨ d = .tl ds → Out X.K X.mg W (relI X.K) s m1 G1 H1 R (.ok (itL ds) h1) → (∃ a, v = .ref a ∧ (∃ xs, SqL X.K H1 a xs) ∧ R (Itl X.K a) H1) := fun ds ed o2 => by
    rcases ed with rfl | rfl
    · obtain ⟨p, xs, rfl, t, z, w⟩ := rl
      obtain ⟨_, _, ev, s1, _, _⟩ := asL_ok a1 (d := .lst ds) (v := .ref p) ⟨p, xs, rfl, t, z, w⟩ rfl
      have st : ∀ m' G' H', Kp m1 G1 H1 m' G' H' → SqL X.K H' p xs := by
        rcases t with ⟨t, n⟩ | t
        · exact kpSqL a1.h a1.e n (.inl (ex_rd a1.e t))
        · exact fun _ _ _ _ => .inr t
      have s2 := st _ _ _ (Kp.refl a1.e)
      exact ⟨p, rfl, ⟨xs, s2⟩, o2.same a1 (itL_list a1.h a1.e ⟨p, xs, rfl, t, z, w⟩ z s2 w st)⟩
    · obtain ⟨p, xs, rfl, e1, e2, z, w⟩ := rl
      have s2 : SqL X.K H1 p xs := .inl (.inl e1)
      have n : p ∉ m1 := fun i => a1.h.some i e2
      refine ⟨p, rfl, ⟨xs, s2⟩, o2.same a1 ?_⟩
      have st := kpSqL a1.h a1.e n s2
      refine ⟨by show ds.length ≤ sizeLine; rw [w.length]; exact z, fun h' m' G' H' k rh' i => ⟨fun e1 => ⟨xs, st _ _ _ k, ?_⟩, fun d e1 => ?_⟩⟩
      · have : ds[i]? = none := Option.some.inj e1
        rw [← w.length]; exact List.getElem?_eq_none_iff.mp this
      · have e2 : ds[i]? = some d := Option.some.inj e1
        obtain ⟨x, e3, q⟩ := w.get e2
        have s2 := st _ _ _ k
        refine ⟨⟨xs, x, s2, e3⟩, fun x' H'' y => ?_⟩
        obtain ⟨rfl, y⟩ := y
        have : x' = x := Option.some.inj ((y xs s2).symm.trans e3)
        subst this
        exact ⟨G', Kp.refl k.e, rh', RV.stay (k.sty a1.e a1.h) q⟩
  cases d with
  | ref l =>
    dsimp only at o1
    obtain ⟨p, rfl, i0⟩ := rl
    cases e1 : h1[l]? with
    | none => rw [e1] at o1; exact o1.elim
    | some ob =>
      rw [e1] at o1
      cases ob with
      | dct _ => exact o1.elim
      | lst ds =>
        obtain ⟨xs, e2, z, w⟩ := a1.h.ob l _ p e1 i0
        exact .inl ⟨p, rfl, ⟨xs, .inl (.inl (a1.e _ _ e2))⟩, o1.same a1 (itC_list (xs := xs) a1.h (by rw [w.length]; exact z) i0)⟩
  | tup ds =>
    obtain ⟨p, xs, rfl, s1, z, w⟩ := asT_ok a1 (d := .tup ds) rl rfl
    exact .inr (.inl ⟨p, rfl, ⟨xs, s1⟩, o1.same a1 (itL_tup a1.h a1.e z w (kpSqT a1.h a1.e s1))⟩)
  | str z =>
    obtain ⟨c, o2⟩ := o1.gd
    exact .inr (.inr ⟨z, rl, o2.same a1 (itS_ok c)⟩)
  | lst ds => exact .inl (tmp ds (.inl rfl) o1)
  | tl ds => exact .inl (tmp ds (.inr rfl) o1)
  | _ => exact o1.elim⟩
/-- ranges -/
def itR (lo : Int) (n : Nat) : ItV := ⟨n, fun _ i => some (if i < n then some (.int (lo + i)) else none)⟩
def rng1 (x : EM) : IM := fun r h => (x r h).bind fun d h1 => match d with
  | .int j => gd (j ≤ sizeLine ∧ -(2 ^ 62) ≤ j) (.ok (itR 0 j.toNat) h1)
  | _ => .no
def rng2 (x y : EM) : IM := fun r h => (x r h).bind fun d h1 => (y r h1).bind fun e h2 => match d, e with
  | .int i, .int j => gd ((-(2 ^ 62) ≤ i ∧ i < 2 ^ 62 ∧ -(2 ^ 62) ≤ j ∧ j < 2 ^ 62) ∧ j - i ≤ sizeLine) (.ok (itR i (j - i).toNat) h2)
  | _, _ => .no
theorem itR_ok {lo : Int} {n : Nat} (a : At K r h m G s H) (z : n ≤ sizeLine) : ItOk K m G H (itR lo n) (Itr lo n) := by
  refine ⟨z, fun h' m' G' H' k rh' i => ?_⟩
  show (some (if i < n then some (Val.int (lo + i)) else none) = some none → _) ∧ ∀ d, some (if i < n then some (Val.int (lo + i)) else none) = some (some d) → _
  by_cases c : i < n
  · rw [if_pos c]
    refine ⟨fun e => (by cases e), fun d e => ?_⟩
    cases e
    refine ⟨c, fun x H'' y => ?_⟩
    obtain ⟨rfl, rfl⟩ := y
    exact ⟨G', Kp.refl k.e, rh', rfl⟩
  · rw [if_neg c]
    exact ⟨fun _ => Nat.le_of_not_lt c, fun d e => (by cases e)⟩
theorem line62 : (sizeLine : Int) < 2 ^ 62 := by rw [sizeLine_eq]; decide
theorem si_rng1 {p pos : Pos} (hg : Gl X "range") (hm : X.mg "range" = none) (he : SE X e x) (hs : starEach [e] X.env = [(false, eval e X.env)] := by rfl) (hs2 : starEach [e] X.env = (false, eval e X.env) :: starEach [] X.env := by rfl) : SI X tg (.Call (.Name "range" p) [e] [] pos) (rng1 x) :=
  ⟨fun W tk => (pi_range1 hg hm (pa_cons (he.run W tk) pa_nil hs2) hs).imp fun s H R ⟨r, h, m, G, a, o⟩ => by
    refine step mono_I a o fun d h1 m1 G1 H1 v a1 k1 rl o1 => ?_
    replace rl := rl.1
    cases d <;> try exact o1.elim
    obtain ⟨⟨c1, c2⟩, o1⟩ := o1.gd
    have ev : v = V.int _ := rl
    subst ev
    have := line62
    exact ⟨_, rfl, c2, by omega, o1.same a1 (itR_ok a1 (by omega))⟩⟩
theorem si_rng2 {e2 : Expr} {y : EM} {p pos : Pos} (hg : Gl X "range") (hm : X.mg "range" = none) (he : SE X e x) (he2 : SE X e2 y) (hs : starEach [e, e2] X.env = [(false, eval e X.env), (false, eval e2 X.env)] := by rfl) (hs2 : starEach [e2] X.env = [(false, eval e2 X.env)] := by rfl)
    (hs3 : starEach [e, e2] X.env = (false, eval e X.env) :: starEach [e2] X.env := by rfl) (hs4 : starEach [e2] X.env = (false, eval e2 X.env) :: starEach [] X.env := by rfl) : SI X tg (.Call (.Name "range" p) [e, e2] [] pos) (rng2 x y) :=
  ⟨fun W tk => (pi_range2 hg hm (pa_cons (he.run W tk) (pa_cons (he2.run W tk) pa_nil hs4) hs3) hs hs2).imp fun s H R ⟨r, h, m, G, a, o⟩ => by
    refine step mono_I a o fun d h1 m1 G1 H1 v a1 k1 rl o1 => ?_
    replace rl := rl.1
    refine step mono_I a1 o1 fun d2 h2 m2 G2 H2 v2 a2 k2 rl2 o2 => ?_
    replace rl2 := rl2.1
    cases d <;> try exact o2.elim
    cases d2 <;> try exact o2.elim
    obtain ⟨⟨c1, c2⟩, o2⟩ := o2.gd
    have ev : v = V.int _ := rl
    have ev2 : v2 = V.int _ := rl2
    subst ev ev2
    exact ⟨_, _, rfl, c1, o2.same a2 (itR_ok a2 (by omega))⟩⟩
end
end Rg
namespace Rg
open PySem PySem.Spec PyProof.Rows L2

/-! ### comprehensions -/
def lcG (it : ItV) (p : Pt) (t e : EM) (vs : List Nat) : Nat → Nat → Sl → Hs → R (List Val)
  | n, i, r, h => match it.at_ h i with
    | none => .no
    | some none => .ok [] h
    | some (some d) => match n with
      | 0 => .no
      | n + 1 => match asgP h p d (wipeS r vs) with
        | none => .no
        | some r1 => match t r1 h with
          | .ok (.bl true) h1 => match e r1 h1 with
            | .ok d2 h2 => gd (isTmp d2 = false) ((lcG it p t e vs n (i + 1) r h2).bind fun ds h3 => .ok (d2 :: ds) h3)
            | _ => .no
          | .ok (.bl false) h1 => lcG it p t e vs n (i + 1) r h1
          | _ => .no
def lcM (im : IM) (p : Pt) (t e : EM) (vs : List Nat) : EM := fun r h => (im r h).bind fun it h1 => (lcG it p t e vs it.n 0 r h1).bind fun ds h2 => .ok (.tl ds) h2
/-- the tests of a clause -/
structure STs (X : Cx) (ifs : List Expr) (x : EM) : Prop where
  run : ∀ W, Takes X W → PTs X ifs (tB (tE X.K X.mg W x))
theorem _root_.L2.PTs.imp {X : Cx} {ifs : List Expr} {t t' : TT} (p : PTs X ifs t) (i : ∀ s H Q, t' s H Q → t s H Q) : PTs X ifs t' := ⟨fun pins s σ H Q I q => p.run pins s σ H Q I (i _ _ _ q)⟩
section
variable {X : Cx} {c : Expr} {x : EM}
theorem sts_nil : STs X [] (cM (.bl true)) := ⟨fun W tk => pts_nil.imp fun s H Q ⟨r, h, m, G, a, o⟩ => by
  obtain ⟨b, e, q⟩ := o.sameV a (rfl : RV X.K G m (.bl true) (.bl true))
  cases e; exact q⟩
theorem sts_one (h : ST X c x) : STs X [c] x := ⟨fun W tk => pts_one (h.run W tk)⟩
end
section
variable {K : PySem.W.Frag} {mg : Str → Option Value} {W : WX} {G G2 H H4 : Hp} {m m2 : List Addr} {h : Hs} {r : Sl} {s : L2.St}
theorem Kp.over {D : Addr} {o : HO} (k : Kp m G H m2 G2 H4) (h0 : H D = none) (g : G2 D = none) : Kp m G H m2 G2 (upd H4 D o) :=
  ⟨fun a x q n => by rw [upd_ne (ne_of_none q h0)]; exact k.h a x q n, k.g, k.p, k.pf, k.n, fun a x q => by rw [upd_ne (ne_of_none q g)]; exact k.e a x q⟩
theorem At.over {D : Addr} {o : HO} (a : At K r h m G s H) (g : G D = none) : At K r h m G s (upd H D o) :=
  ⟨a.s, a.h, fun b x q => by rw [upd_ne (ne_of_none q g)]; exact a.e b x q⟩
end
theorem takesF {X : Cx} : Takes X (fun _ _ _ _ => False) := takes0
theorem lc_imp {X : Cx} {im : IM} {p : Pt} {t e : EM} {vs : List Nat} {W : WX} (hp : ∀ j ∈ p.sl, j ∈ vs) :
    ∀ (s : L2.St) (H : Hp) (Q : VK), tE X.K X.mg W (lcM im p t e vs) s H Q → tLc (tI X.K X.mg W im) (gP X.K p) (tB (tE X.K X.mg (fun _ _ _ _ => False) t)) (tE X.K X.mg (fun _ _ _ _ => False) e) vs s H Q := by
  rintro s H Q ⟨r, h, m, G, a, o⟩
  refine step mono_V a o ?_
  intro it h1 m1 G1 H1 J a1 k1 rl o1 D hD
  have g1 : G1 D = none := Ex.none a1.e hD
  have h0 : H D = none := k1.fresh a.h a1.h hD
  -- W: n turns are left at most
  refine ⟨fun i n H' => ∃ h' m' G' accD acc, At X.K r h' m' G' s H' ∧ Kp m1 G1 H1 m' G' H' ∧ G' D = none ∧ H' D = some (.lst acc) ∧ RVs X.K G' m' accD acc ∧ acc.length ≤ i ∧ i + n = it.n ∧
    Out X.K X.mg W (relV X.K) s m1 G1 H1 Q ((lcG it p t e vs n i r h').bind fun ds h2 => .ok (.tl (accD ++ ds)) h2), ⟨it.n, h1, m1, G1, [], [], a1.over g1, (Kp.refl a1.e).over hD g1, g1, upd_same, rfl, Nat.zero_le _, Nat.zero_add _, o1⟩, ?_⟩
  rintro i n H' ⟨h', m', G', accD, acc, a', k', gD, hD', q', l', n', o'⟩
  obtain ⟨stop, go⟩ := rl.ok h' m' G' H' k' a'.h i
  unfold lcG at o'
  cases ei : it.at_ h' i with
  | none => rw [ei] at o'; exact o'.elim
  | some od =>
    cases od with
    | none =>
      rw [ei] at o'
      refine .inl ⟨stop ei, ?_⟩
      have o2 : Out X.K X.mg W (relV X.K) s m1 G1 H1 Q (.ok (.tl (accD ++ [])) h') := o'
      rw [List.append_nil] at o2
      have nz := rl.n
      exact o2 m' G' H' (.ref D) k' a'.h ⟨⟨D, acc, rfl, hD', gD, by omega, q'⟩, fun b e => by cases e; exact hD⟩
    | some d =>
      rw [ei] at o'
      obtain ⟨hgo, hy⟩ := go d ei
      cases n with
      | zero => exact o'.elim
      | succ n =>
        refine .inr ⟨hgo, fun H' => ∃ h' m' G' accD acc, At X.K r h' m' G' s H' ∧ Kp m1 G1 H1 m' G' H' ∧ G' D = none ∧ H' D = some (.lst acc) ∧ RVs X.K G' m' accD acc ∧ acc.length ≤ i + 1 ∧ i + 1 + n = it.n ∧
          Out X.K X.mg W (relV X.K) s m1 G1 H1 Q ((lcG it p t e vs n (i + 1) r h').bind fun ds h2 => .ok (.tl (accD ++ ds)) h2), fun H5 w5 => ⟨n, Nat.lt_succ_self n, w5⟩, fun x H'' y => ?_⟩
        obtain ⟨G'', k2, rh2, rv2⟩ := hy x H'' y
        have a2 := a'.kp k2 rh2
        have gD2 : G'' D = none := k2.p D gD (by rw [hD']; exact fun z => nomatch z)
        have nD : D ∉ m' := fun z => a'.h.some z gD
        have hD2 : H'' D = some (.lst acc) := k2.h D _ hD' nD
        have q2 := RVs.stay (k2.sty a'.e a'.h) q'
        have k12 := k'.trans k2 a1.e a1.h
        dsimp only at o'
        cases ea : asgP h' p d (wipeS r vs) with
        | none => rw [ea] at o'; exact o'.elim
        | some r1 =>
          rw [ea] at o'
          dsimp only at o'
          refine ⟨wipeS r vs, h', m', G'', d, r1, ⟨RS.wipe a2.s vs, a2.h, a2.e⟩, rv2, ea, fun s1 rs1 l1 c1 => ?_⟩
          have wq : wipe s1 vs = wipe s vs := by
            have h1 : wipe s1 vs = wipe (wipe s vs) vs := wipe_eq l1 fun j hj => c1 j fun z => hj (hp j z)
            have h2 : wipe (wipe s vs) vs = wipe s vs := by
              apply wipe_eq (wipe_length s vs)
              intro j hj
              rw [wipe_get, if_neg (fun z => hj z.1)]
            rw [h1, h2]
          refine ⟨wq, ?_⟩
          -- the test
          refine ⟨r1, h', m', G'', ⟨rs1, a2.h, a2.e⟩, ?_⟩
          cases et : t r1 h' with
          | no => rw [et] at o'; exact o'.elim
          | rz _ _ => rw [et] at o'; exact o'.elim
          | ok tv h3 =>
            rw [et] at o'
            intro m3 G3 H3 v3 k3 rh3 ⟨rv3, _⟩
            have a3 : At X.K r1 h3 m3 G3 s1 H3 := At.kp ⟨rs1, a2.h, a2.e⟩ k3 rh3
            have a3r : At X.K r h3 m3 G3 s H3 := a2.kp k3 rh3
            have gD3 : G3 D = none := k3.p D gD2 (by rw [hD2]; exact fun z => nomatch z)
            have hD3 : H3 D = some (.lst acc) := k3.h D _ hD2 nD
            have q3 := RVs.stay (k3.sty a2.e a2.h) q2
            have k13 := k12.trans k3 a1.e a1.h
            cases tv with
            | bl b =>
              have ev : v3 = .bl b := rv3
              subst ev
              refine ⟨b, rfl, ?_⟩
              cases b with
              | false =>
                rw [if_neg Bool.false_ne_true]
                exact ⟨h3, m3, G3, accD, acc, a3r, k13, gD3, hD3, q3, by omega, by omega, o'⟩
              | true =>
                rw [if_pos rfl]
                dsimp only at o'
                refine ⟨r1, h3, m3, G3, a3, ?_⟩
                cases ee : e r1 h3 with
                | no => rw [ee] at o'; exact o'.elim
                | rz _ _ => rw [ee] at o'; exact o'.elim
                | ok d4 h4 =>
                  rw [ee] at o'
                  dsimp only at o'
                  intro m4 G4 H4 v4 k4 rh4 ⟨rp4, _⟩
                  have a4r := a3r.kp k4 rh4
                  have gD4 : G4 D = none := k4.p D gD3 (by rw [hD3]; exact fun z => nomatch z)
                  have nD3 : D ∉ m3 := fun z => a3r.h.some z gD3
                  have hD4 : H4 D = some (.lst acc) := k4.h D _ hD3 nD3
                  have q4 := RVs.stay (k4.sty a3r.e a3r.h) q3
                  have k14 := k13.trans k4 a1.e a1.h
                  have nz := rl.n
                  by_cases ct : isTmp d4 = false
                  · rw [gd_pos ct] at o'
                    refine ⟨acc, hD4, by omega, h4, m4, G4, accD ++ [d4], acc ++ [v4], a4r.over gD4, k14.over hD gD4, gD4, upd_same, q4.append ⟨v4, [], rfl, RP.rv rp4 ct, rfl⟩, by rw [List.length_append]; simp; omega, by omega, ?_⟩
                    have e5 : (((lcG it p t e vs n (i + 1) r h4).bind fun ds h3 => R.ok (d4 :: ds) h3).bind fun ds h2 => R.ok (Val.tl (accD ++ ds)) h2) = ((lcG it p t e vs n (i + 1) r h4).bind fun ds h2 => R.ok (Val.tl (accD ++ [d4] ++ ds)) h2) := by
                      cases lcG it p t e vs n (i + 1) r h4 <;> simp [R.bind]
                    rw [← e5]; exact o'
                  · rw [gd_neg ct] at o'; exact o'.elim
            | _ => exact o'.elim
theorem se_lc {X : Cx} {elt tg iter : Expr} {ifs : List Expr} {scope : Scope} {own : List (Str × Nat)} {pos : Pos} {im : IM} {p : Pt} {t e : EM} (hc : X.calm = true) (hN : X.N.Nodup) (hi : SI X tg iter im) (ok : BlkOk X.N X.env.scope scope own) (hp : ∀ j ∈ p.sl, j ∈ own.map (·.2))
    (hg : ∀ (s : Shared) (H : Hp) (C : Addr) (cl : List (Str × Addr)) (fp : List Addr), SG (X.blk s H scope (compEnvC scope cl C X.env) fp) tg p) (ht : ∀ (s : Shared) (H : Hp) (C : Addr) (cl : List (Str × Addr)) (fp : List Addr), STs (X.blk s H scope (compEnvC scope cl C X.env) fp) ifs t)
    (he : ∀ (s : Shared) (H : Hp) (C : Addr) (cl : List (Str × Addr)) (fp : List Addr), SE (X.blk s H scope (compEnvC scope cl C X.env) fp) elt e) (hs : ∀ x, foldedSetIterable iter X.env x = pure x := by intro _; rfl) :
    SE X (.ListComp elt [⟨tg, iter, ifs, 0⟩] scope pos) (lcM im p t e (own.map (·.2))) := ⟨fun W tk =>
  (pe_lc hc hN (hi.run W tk) ok (fun s H C cl fp => (hg s H C cl fp).run) (fun s H C cl fp => (ht s H C cl fp).run _ takesF) (fun s H C cl fp => (he s H C cl fp).run _ takesF) hs).imp (lc_imp hp)⟩
end Rg
namespace Rg
open PySem PySem.Spec PyProof.Rows L2

/-! ### statements -/
section
variable (K : PySem.W.Frag) (mg : Str → Option Value) (W : WX)
def OutS (m : List Addr) (G H : Hp) (D : Ends) : SR → Prop
  | .nx r' h' => ∀ m' G' H' s', Kp m G H m' G' H' → RH K h' m' G' → RS K G' m' r' s' → D.nx s' H'
  | .bk r' h' => ∀ m' G' H' s', Kp m G H m' G' H' → RH K h' m' G' → RS K G' m' r' s' → D.bk s' H'
  | .ct r' h' => ∀ m' G' H' s', Kp m G H m' G' H' → RH K h' m' G' → RS K G' m' r' s' → D.ct s' H'
  | .rt d h' => ∀ m' G' H' v, Kp m G H m' G' H' → RH K h' m' G' → RP K G' m' H' d v → Fsh H d v → D.rt v H'
  | .rz e r' h' => ∀ m' G' H' s' c dd, Kp m G H m' G' H' → RH K h' m' G' → RS K G' m' r' s' → RX K mg G' m' H' e c dd → W c dd s' H'
  | .no => False
def tS (x : SM) : TS := fun D s H => ∃ r h m G, At K r h m G s H ∧ OutS K mg W m G H D (x r h)
end
structure SS (X : Cx) (st : Stmt) (x : SM) : Prop where
  run : ∀ W, Takes X W → PS X st (tS X.K X.mg W x)
structure SSs (X : Cx) (st : List Stmt) (x : SM) : Prop where
  run : ∀ W, Takes X W → PSs X st (tS X.K X.mg W x)
theorem _root_.L2.PS.imp {X : Cx} {st : Stmt} {t t' : TS} (p : PS X st t) (i : ∀ D s H, t' D s H → t D s H) : PS X st t' := ⟨fun pins s σ H D I q => p.run pins s σ H D I (i _ _ _ q)⟩
theorem _root_.L2.PSs.imp {X : Cx} {st : List Stmt} {t t' : TS} (p : PSs X st t) (i : ∀ D s H, t' D s H → t D s H) : PSs X st t' := ⟨fun pins s σ H D I q => p.run pins s σ H D I (i _ _ _ q)⟩

section
variable {K : PySem.W.Frag} {mg : Str → Option Value} {W : WX} {G G1 H H1 : Hp} {m m1 : List Addr} {h h1 : Hs} {r : Sl} {s : L2.St} {D : Ends}
theorem OutS.shift {x : SR} (o : OutS K mg W m G H D x) (k : Kp m G H m1 G1 H1) (e : Ex G H) (rh : RH K h m G) (rh1 : RH K h1 m1 G1) : OutS K mg W m1 G1 H1 D x := by
  cases x with
  | no => exact o
  | nx r' h' => exact fun m' G' H' s' k' rh' rs => o m' G' H' s' (k.trans k' e rh) rh' rs
  | bk r' h' => exact fun m' G' H' s' k' rh' rs => o m' G' H' s' (k.trans k' e rh) rh' rs
  | ct r' h' => exact fun m' G' H' s' k' rh' rs => o m' G' H' s' (k.trans k' e rh) rh' rs
  | rt d h' => exact fun m' G' H' v k' rh' rp f => o m' G' H' v (k.trans k' e rh) rh' rp (Fsh.back (fun a q => k.fresh rh rh1 q) f)
  | rz x r' h' => exact fun m' G' H' s' c dd k' rh' rs rx => o m' G' H' s' c dd (k.trans k' e rh) rh' rs rx

/-- an expression within a statement -/
def R.thenS {α : Type} (x : R α) (r : Sl) (k : α → Hs → SR) : SR :=
  match x with
  | .ok a h => k a h
  | .rz e h => .rz e r h
  | .no => .no
theorem stepS {α β : Type} {rel : List Addr → Hp → Hp → Hp → α → β → Prop} {x : Sl → Hs → R α} {k : α → Hs → SR} {Q1 : β → Hp → Prop} (a : At K r h m G s H) (o : OutS K mg W m G H D ((x r h).thenS r k))
    (n : ∀ d h1 m1 G1 H1 v, At K r h1 m1 G1 s H1 → Kp m G H m1 G1 H1 → rel m1 G1 H H1 d v → OutS K mg W m1 G1 H1 D (k d h1) → Q1 v H1) : tM K mg W rel x s H Q1 := by
  refine ⟨r, h, m, G, a, ?_⟩
  cases e : x r h with
  | no => rw [e] at o; exact o
  | rz y h' =>
    rw [e] at o
    exact fun m' G' H' c dd kp rh rx => o m' G' H' s c dd kp rh (a.kp kp rh).s rx
  | ok d h' =>
    rw [e] at o
    intro m' G' H' v kp rh rl
    exact n d h' m' G' H' v (a.kp kp rh) kp rl (o.shift kp a.e a.h rh)
theorem OutS.nx (a : At K r h m G s H) (o : OutS K mg W m G H D (.nx r h)) : D.nx s H := o m G H s (Kp.refl a.e) a.h a.s
end

def seqS (x y : SM) : SM := fun r h => match x r h with
  | .nx r1 h1 => y r1 h1
  | z => z
def skipS : SM := fun r h => .nx r h
def brkS : SM := fun r h => .bk r h
def contS : SM := fun r h => .ct r h
def dropS (x : EM) : SM := fun r h => (x r h).thenS r fun _ h1 => .nx r h1
def retS (x : EM) : SM := fun r h => (x r h).thenS r fun d h1 => .rt d h1
def retN : SM := fun _ h => .rt .non h
def ifS (c : EM) (x y : SM) : SM := fun r h => (c r h).thenS r fun d h1 => match d with
  | .bl true => x r h1
  | .bl false => y r h1
  | _ => .no
/-- name = e -/
def setS (i : Nat) (x : EM) : SM := fun r h => (x r h).thenS r fun d h1 => if isTmp d = true then .no else .nx (r.set i (some d)) h1
/-- targets = e -/
def asgS (p : Pt) (x : EM) : SM := fun r h => (x r h).thenS r fun d h1 => if isTmp d = true then .no else match asgP h1 p d r with
  | some r1 => .nx r1 h1
  | none => .no
/-- what all rules for loops ask of the context -/
structure XG (X : Cx) : Prop where
  calm : X.calm = true
  nd : X.N.Nodup
  own : PassesOwn (model X.prog X.w) X.A X.env X.xe

section
variable {X : Cx} {st : Stmt} {rest a b : List Stmt} {x y : SM} {e c : Expr} {z w : EM} {pos : Pos}
theorem sss_nil : SSs X [] skipS := ⟨fun W tk => pss_nil.imp fun D s H ⟨r, h, m, G, a, o⟩ => o.nx a⟩
theorem sss_one (h : SS X st x) : SSs X [st] x := ⟨fun W tk => pss_one (h.run W tk)⟩
theorem sss_cons (h1 : SS X st x) (h2 : SSs X rest y) : SSs X (st :: rest) (seqS x y) := ⟨fun W tk => (pss_cons (h1.run W tk) (h2.run W tk)).imp fun D s H ⟨r, h, m, G, a, o⟩ => by
  refine ⟨r, h, m, G, a, ?_⟩
  unfold seqS at o
  cases e : x r h with
  | nx r1 h1 =>
    rw [e] at o
    exact fun m' G' H' s' k rh rs => ⟨r1, h1, m', G', ⟨rs, rh, k.e⟩, o.shift k a.e a.h rh⟩
  | no => rw [e] at o; exact o
  | bk _ _ => rw [e] at o; exact o
  | ct _ _ => rw [e] at o; exact o
  | rt _ _ => rw [e] at o; exact o
  | rz _ _ _ => rw [e] at o; exact o⟩
theorem ss_pass : SS X (.Pass pos) skipS := ⟨fun W tk => ps_pass.imp fun D s H ⟨r, h, m, G, a, o⟩ => o.nx a⟩
theorem ss_brk : SS X (.Break pos) brkS := ⟨fun W tk => ps_break.imp fun D s H ⟨r, h, m, G, a, o⟩ => o m G H s (Kp.refl a.e) a.h a.s⟩
theorem ss_cont : SS X (.Continue pos) contS := ⟨fun W tk => ps_continue.imp fun D s H ⟨r, h, m, G, a, o⟩ => o m G H s (Kp.refl a.e) a.h a.s⟩
theorem ss_expr (he : SE X e z) (hs : swapsWith e none pos.line X.env = pure false := by rfl) : SS X (.Expr e pos) (dropS z) := ⟨fun W tk => (ps_expr (he.run W tk) hs).imp fun D s H ⟨r, h, m, G, a, o⟩ =>
  stepS a o fun d h1 m1 G1 H1 v a1 k1 rl o1 => o1.nx a1⟩
theorem ss_ret (he : SE X e z) : SS X (.Return (some e) pos) (retS z) := ⟨fun W tk => (ps_ret (he.run W tk)).imp fun D s H ⟨r, h, m, G, a, o⟩ => by
  refine ⟨r, h, m, G, a, ?_⟩
  unfold retS at o
  cases e1 : z r h with
  | no => rw [e1] at o; exact o
  | rz y h' =>
    rw [e1] at o
    exact fun m' G' H' c dd kp rh rx => o m' G' H' s c dd kp rh (a.kp kp rh).s rx
  | ok d h' =>
    rw [e1] at o
    exact fun m' G' H' v kp rh rl => o m' G' H' v kp rh rl.1 rl.2⟩
theorem ss_retN : SS X (.Return none pos) retN := ⟨fun W tk => ps_retN.imp fun D s H ⟨r, h, m, G, a, o⟩ => o m G H .non (Kp.refl a.e) a.h rfl trivial⟩
theorem ss_if (hc : ST X c z) (ha : SSs X a x) (hb : SSs X b y) : SS X (.If c a b pos) (ifS z x y) := ⟨fun W tk => (ps_if (hc.run W tk) (ha.run W tk) (hb.run W tk)).imp fun D s H ⟨r, h, m, G, a, o⟩ => by
  refine stepS a o fun d h1 m1 G1 H1 v a1 k1 rl o1 => ?_
  replace rl := rl.1
  cases d <;> try exact o1.elim
  rename_i b
  refine ⟨b, rl, ?_⟩
  cases b with
  | true => exact ⟨r, h1, m1, G1, a1, o1⟩
  | false => exact ⟨r, h1, m1, G1, a1, o1⟩⟩
theorem ss_set (i : Nat) {n : Str} {pos' : Pos} (hN : X.N.Nodup) (he : SE X e z) (hi : X.N[i]? = some n := by rfl) (hx : Loc X.env.scope n := by first | exact Or.inl rfl | exact Or.inr rfl) (hs : swapsWith e (some (.Name n pos')) pos.line X.env = pure false := by rfl) (hf : X.fn n = true ∨ X.env.scope.names.lookup n = some .local := by first | exact .inl rfl | exact .inr rfl) :
    SS X (.Assign [.Name n pos'] e pos) (setS i z) := ⟨fun W tk => (ps_set hN hi hx (he.run W tk) hs hf).imp fun D s H ⟨r, h, m, G, a, o⟩ =>
  stepS a o fun d h1 m1 G1 H1 v a1 k1 rl o1 => by
    by_cases c : isTmp d = true
    · rw [if_pos c] at o1; exact o1.elim
    · rw [if_neg c] at o1
      exact o1 m1 G1 H1 _ (Kp.refl a1.e) a1.h (RS.set a1.s i (RP.rv rl.1 (by simpa using c)))⟩
theorem ss_asg {tg : Expr} {p : Pt} (he : SE X e z) (hg : SG X tg p) (hs : swapsWithSole [tg] e pos.line X.env = pure false := by rfl) (hw : swappedStores [tg] e X.env = pure none := by rfl) (h1 : (assignEach [tg] X.env).map (·.2) = [assign tg X.env] := by rfl) : SS X (.Assign [tg] e pos) (asgS p z) :=
  ⟨fun W tk => (ps_asg (he.run W tk) hg.run hs hw h1).imp fun D s H ⟨r, h, m, G, a, o⟩ =>
  stepS a o fun d h1 m1 G1 H1 v a1 k1 rl o1 => by
    by_cases c : isTmp d = true
    · rw [if_pos c] at o1; exact o1.elim
    · rw [if_neg c] at o1
      cases e1 : asgP h1 p d r with
      | none => rw [e1] at o1; exact o1.elim
      | some r1 =>
        rw [e1] at o1
        exact ⟨r, h1, m1, G1, d, r1, a1, RP.rv rl.1 (by simpa using c), e1, fun s' rs _ _ => o1 m1 G1 H1 s' (Kp.refl a1.e) a1.h rs⟩⟩
/-- name = [.. for ..], made a cell or frozen -/
theorem ss_setLc (i : Nat) {y : Str} {py : Pos} {elt tg iter : Expr} {ifs : List Expr} {scope : Scope} {own : List (Str × Nat)} {pos spos : Pos} {im : IM} {p : Pt} {t e : EM} (cv : EM → EM) (hcv : cv = fzE ∨ cv = mtE) (hc : X.calm = true) (hN : X.N.Nodup) (hi : SI X tg iter im) (ok : BlkOk X.N X.env.scope scope own) (hp : ∀ j ∈ p.sl, j ∈ own.map (·.2))
    (hg : ∀ (s : Shared) (H : Hp) (C : Addr) (cl : List (Str × Addr)) (fp : List Addr), SG (X.blk s H scope (compEnvC scope cl C X.env) fp) tg p) (ht : ∀ (s : Shared) (H : Hp) (C : Addr) (cl : List (Str × Addr)) (fp : List Addr), STs (X.blk s H scope (compEnvC scope cl C X.env) fp) ifs t)
    (he : ∀ (s : Shared) (H : Hp) (C : Addr) (cl : List (Str × Addr)) (fp : List Addr), SE (X.blk s H scope (compEnvC scope cl C X.env) fp) elt e) (hy : X.N[i]? = some y := by rfl) (hyl : X.env.scope.names.lookup y = some .local := by rfl)
    (hsw : swapsWith (.ListComp elt [⟨tg, iter, ifs, 0⟩] scope pos) (some (.Name y py)) spos.line X.env = pure true := by exact sw_true rfl rfl rfl (by decide +kernel)) (hs : ∀ x, foldedSetIterable iter X.env x = pure x := by intro _; rfl) :
    SS X (.Assign [.Name y py] (.ListComp elt [⟨tg, iter, ifs, 0⟩] scope pos) spos) (setS i (cv (lcM im p t e (own.map (·.2))))) := ⟨fun W tk => by
  refine (ps_setLc (g := gP X.K p) (tt := tB (tE X.K X.mg (fun _ _ _ _ => False) t)) (te := tE X.K X.mg (fun _ _ _ _ => False) e) hc hN hy hyl hsw (hi.run W tk) ok (fun s H C cl fp => (hg s H C cl fp).run) (fun s H C cl fp => (ht s H C cl fp).run _ takesF) (fun s H C cl fp => (he s H C cl fp).run _ takesF) hs).imp ?_
  rintro D s H ⟨r, h, m, G, a, o⟩
  refine lc_imp hp s H _ ?_
  have q : tE X.K X.mg W (cv (lcM im p t e (own.map (·.2)))) s H (fun x H1 => D.nx (s.set i (some x)) H1) := stepS a o fun d h1 m1 G1 H1 v a1 k1 rl o1 => by
    by_cases c : isTmp d = true
    · rw [if_pos c] at o1; exact o1.elim
    · rw [if_neg c] at o1
      exact o1 m1 G1 H1 _ (Kp.refl a1.e) a1.h (RS.set a1.s i (RP.rv rl.1 (by simpa using c)))
  obtain ⟨r', h', m', G', a', o'⟩ := q
  refine ⟨r', h', m', G', a', ?_⟩
  rcases hcv with rfl | rfl
  · unfold fzE at o'
    cases e1 : lcM im p t e (own.map (·.2)) r' h' with
    | no => rw [e1] at o'; exact o'
    | rz y h' => rw [e1] at o'; exact o'
    | ok d h' => rw [e1] at o'; exact out_fz a' o'
  · unfold mtE at o'
    cases e1 : lcM im p t e (own.map (·.2)) r' h' with
    | no => rw [e1] at o'; exact o'
    | rz y h' => rw [e1] at o'; exact o'
    | ok d h' => rw [e1] at o'; exact out_mt a' o'⟩
end

/-! ### loops -/
def forG (it : ItV) (p : Pt) (b : SM) : Nat → Nat → SM
  | n, i, r, h => match it.at_ h i with
    | none => .no
    | some none => .nx r h
    | some (some d) => match n with
      | 0 => .no
      | n + 1 => match asgP h p d r with
        | none => .no
        | some r1 => match b r1 h with
          | .nx r2 h2 => forG it p b n (i + 1) r2 h2
          | .ct r2 h2 => forG it p b n (i + 1) r2 h2
          | .bk r2 h2 => .nx r2 h2
          | z => z
def forS (im : IM) (p : Pt) (b : SM) : SM := fun r h => (im r h).thenS r fun it h1 => forG it p b it.n 0 r h1
def whileN (c : EM) (b : SM) : Nat → SM
  | 0 => fun _ _ => .no
  | n + 1 => fun r h => (c r h).thenS r fun d h1 => match d with
    | .bl true => match b r h1 with
      | .nx r2 h2 => whileN c b n r2 h2
      | .ct r2 h2 => whileN c b n r2 h2
      | .bk r2 h2 => .nx r2 h2
      | z => z
    | .bl false => .nx r h1
    | _ => .no
open Classical in
noncomputable def whileS (c : EM) (b : SM) : SM := fun r h => if e : ∃ n, whileN c b n r h ≠ .no then whileN c b (Classical.choose e) r h else .no
section
variable {X : Cx} {tg iter c : Expr} {body : List Stmt} {im : IM} {p : Pt} {b : SM} {z : EM} {pos : Pos}
theorem ss_for (g : XG X) (hi : SI X tg iter im) (hg : SG X tg p) (hb : SSs X body b) (hs : ∀ x, foldedSetIterable iter X.env x = pure x := by intro _; rfl) : SS X (.For tg iter body [] pos) (forS im p b) := ⟨fun W tk => by
  refine (ps_for g.own g.calm (hi.run W tk) hg.run (hb.run W tk) hs).imp ?_
  rintro D s H ⟨r, h, m, G, a, o⟩
  refine stepS a o ?_
  intro it h1 m1 G1 H1 J a1 k1 rl o1
  refine ⟨fun i n s' H' => ∃ r' h' m' G', At X.K r' h' m' G' s' H' ∧ Kp m1 G1 H1 m' G' H' ∧ OutS X.K X.mg W m1 G1 H1 D (forG it p b n i r' h'), ⟨it.n, r, h1, m1, G1, a1, Kp.refl a1.e, o1⟩, ?_⟩
  rintro i n s' H' ⟨r', h', m', G', a', k', o'⟩
  obtain ⟨stop, go⟩ := rl.ok h' m' G' H' k' a'.h i
  unfold forG at o'
  cases ei : it.at_ h' i with
  | none => rw [ei] at o'; exact o'.elim
  | some od =>
    cases od with
    | none =>
      rw [ei] at o'
      exact .inl ⟨stop ei, (OutS.shift o' k' a1.e a1.h a'.h).nx a'⟩
    | some d =>
      rw [ei] at o'
      obtain ⟨hgo, hy⟩ := go d ei
      cases n with
      | zero => exact o'.elim
      | succ n =>
        refine .inr ⟨hgo, fun s' H' => ∃ r' h' m' G', At X.K r' h' m' G' s' H' ∧ Kp m1 G1 H1 m' G' H' ∧ OutS X.K X.mg W m1 G1 H1 D (forG it p b n (i + 1) r' h'), fun s5 H5 w5 => ⟨n, Nat.lt_succ_self n, w5⟩, fun x H'' y => ?_⟩
        obtain ⟨G'', k2, rh2, rv2⟩ := hy x H'' y
        have a2 := a'.kp k2 rh2
        have k12 := k'.trans k2 a1.e a1.h
        dsimp only at o'
        cases ea : asgP h' p d r' with
        | none => rw [ea] at o'; exact o'.elim
        | some r1 =>
          rw [ea] at o'
          dsimp only at o'
          refine ⟨r', h', m', G'', d, r1, a2, rv2, ea, fun s1 rs1 _ _ => ?_⟩
          refine ⟨r1, h', m', G'', ⟨rs1, a2.h, a2.e⟩, ?_⟩
          have again : ∀ {r2 : Sl} {h2 : Hs}, OutS X.K X.mg W m1 G1 H1 D (forG it p b n (i + 1) r2 h2) → ∀ m3 G3 H3 s3, Kp m' G'' H'' m3 G3 H3 → RH X.K h2 m3 G3 → RS X.K G3 m3 r2 s3 →
              ∃ r' h' m' G', At X.K r' h' m' G' s3 H3 ∧ Kp m1 G1 H1 m' G' H3 ∧ OutS X.K X.mg W m1 G1 H1 D (forG it p b n (i + 1) r' h') := fun {r2 h2} q m3 G3 H3 s3 k3 rh3 rs3 => ⟨r2, h2, m3, G3, ⟨rs3, rh3, k3.e⟩, k12.trans k3 a1.e a1.h, q⟩
          cases eb : b r1 h' with
          | no => rw [eb] at o'; exact o'.elim
          | nx r2 h2 => rw [eb] at o'; exact again o'
          | ct r2 h2 => rw [eb] at o'; exact again o'
          | bk r2 h2 => rw [eb] at o'; exact OutS.shift o' k12 a1.e a1.h a2.h
          | rt d2 h2 => rw [eb] at o'; exact OutS.shift o' k12 a1.e a1.h a2.h
          | rz e2 r2 h2 => rw [eb] at o'; exact OutS.shift o' k12 a1.e a1.h a2.h⟩
theorem ss_while (g : XG X) (hc : ST X c z) (hb : SSs X body b) : SS X (.While c body [] pos) (whileS z b) := ⟨fun W tk => by
  refine (ps_while g.own (hc.run W tk) (hb.run W tk)).imp ?_
  rintro D s H ⟨r, h, m, G, a, o⟩
  unfold whileS at o
  by_cases ex : ∃ n, whileN z b n r h ≠ .no
  · rw [dif_pos ex] at o
    generalize Classical.choose ex = n0 at o
    refine ⟨fun n s' H' => ∃ r' h' m' G', At X.K r' h' m' G' s' H' ∧ Kp m G H m' G' H' ∧ OutS X.K X.mg W m G H D (whileN z b n r' h'), ⟨n0, r, h, m, G, a, Kp.refl a.e, o⟩, ?_⟩
    rintro n s' H' ⟨r', h', m', G', a', k', o'⟩
    cases n with
    | zero => exact o'.elim
    | succ n =>
      unfold whileN at o'
      refine ⟨r', h', m', G', a', ?_⟩
      cases ez : z r' h' with
      | no => rw [ez] at o'; exact o'.elim
      | rz y h1 =>
        rw [ez] at o'
        have o2 := OutS.shift o' k' a.e a.h a'.h
        exact fun m' G' H' c dd kp rh rx => o2 m' G' H' _ c dd kp rh (a'.kp kp rh).s rx
      | ok d h1 =>
        rw [ez] at o'
        intro m1 G1 H1 v k1 rh1 ⟨rl, _⟩
        have a1 := a'.kp k1 rh1
        have k11 := k'.trans k1 a.e a.h
        have o2 : OutS X.K X.mg W m G H D (match (generalizing := false) d with
          | .bl true => match b r' h1 with
            | .nx r2 h2 => whileN z b n r2 h2
            | .ct r2 h2 => whileN z b n r2 h2
            | .bk r2 h2 => .nx r2 h2
            | z => z
          | .bl false => .nx r' h1
          | _ => .no) := o'
        cases d with
        | bl bb =>
          refine ⟨bb, rl, ?_⟩
          cases bb with
          | false =>
            rw [if_neg Bool.false_ne_true]
            exact (OutS.shift o2 k11 a.e a.h a1.h).nx a1
          | true =>
            rw [if_pos rfl]
            dsimp only at o2
            refine ⟨fun s' H' => ∃ r' h' m' G', At X.K r' h' m' G' s' H' ∧ Kp m G H m' G' H' ∧ OutS X.K X.mg W m G H D (whileN z b n r' h'), fun s5 H5 w5 => ⟨n, Nat.lt_succ_self n, w5⟩, r', h1, m1, G1, a1, ?_⟩
            have again : ∀ {r2 : Sl} {h2 : Hs}, OutS X.K X.mg W m G H D (whileN z b n r2 h2) → ∀ m3 G3 H3 s3, Kp m1 G1 H1 m3 G3 H3 → RH X.K h2 m3 G3 → RS X.K G3 m3 r2 s3 →
                ∃ r' h' m' G', At X.K r' h' m' G' s3 H3 ∧ Kp m G H m' G' H3 ∧ OutS X.K X.mg W m G H D (whileN z b n r' h') := fun {r2 h2} q m3 G3 H3 s3 k3 rh3 rs3 => ⟨r2, h2, m3, G3, ⟨rs3, rh3, k3.e⟩, k11.trans k3 a.e a.h, q⟩
            cases eb : b r' h1 with
            | no => rw [eb] at o2; exact o2.elim
            | nx r2 h2 => rw [eb] at o2; exact again o2
            | ct r2 h2 => rw [eb] at o2; exact again o2
            | bk r2 h2 => rw [eb] at o2; exact OutS.shift o2 k11 a.e a.h a1.h
            | rt d2 h2 => rw [eb] at o2; exact OutS.shift o2 k11 a.e a.h a1.h
            | rz e2 r2 h2 => rw [eb] at o2; exact OutS.shift o2 k11 a.e a.h a1.h
        | _ => exact o2.elim
  · rw [dif_neg ex] at o
    exact o.elim⟩
end
end Rg
namespace Rg
open PySem PySem.Spec PyProof.Rows L2

/-! ### what a function leaves behind -/
mutual
/-- all cells spoken of are below n -/
def Lt (n : Nat) : Val → Prop
  | .tup ds => Lts n ds
  | .lst ds => Lts n ds
  | .dct _ ds => Lts n ds
  | .ref l => l < n
  | .tl ds => Lts n ds
  | .td _ ds => Lts n ds
  | _ => True
def Lts (n : Nat) : List Val → Prop
  | [] => True
  | d :: ds => Lt n d ∧ Lts n ds
end
def ObLt (n : Nat) : Ob → Prop
  | .lst ds => Lts n ds
  | .dct kvs => Lts n (kvs.map (·.2))
section
variable {K : PySem.W.Frag} {mg : Str → Option Value} {W : WX} {G G1 H H1 : Hp} {m m1 : List Addr} {h h1 : Hs} {r : Sl} {s : L2.St}
mutual
theorem RV.lt : ∀ {d : Val} {v : V}, RV K G m d v → Lt m.length d
  | .non, _, _ => trivial
  | .bl _, _, _ => trivial
  | .int _, _, _ => trivial
  | .str _, _, _ => trivial
  | .tup ds, _, ⟨a, xs, e, t, z, q⟩ => by rw [Lt]; exact RVs.lt q
  | .lst ds, _, ⟨a, xs, e, t, z, q⟩ => by rw [Lt]; exact RVs.lt q
  | .dct ks ds, _, ⟨a, kvs, e, t, n, z, k, q⟩ => by rw [Lt]; exact RVs.lt q
  | .ref l, _, ⟨a, e, q⟩ => by rw [Lt]; exact (List.getElem?_eq_some_iff.mp q).1
theorem RVs.lt : ∀ {ds : List Val} {vs : List V}, RVs K G m ds vs → Lts m.length ds
  | [], _, _ => by rw [Lts]; trivial
  | d :: ds, _, ⟨v, vs, e, a, b⟩ => by rw [Lts]; exact ⟨RV.lt a, RVs.lt b⟩
end
/-- G2: G1 without what's at p, p a cell that goes -/
def del (G : Hp) (p : Option Addr) : Hp := fun a => if some a = p then none else G a
/-- p is a cell that goes -/
def Goes (m m1 : List Addr) (p : Option Addr) : Prop := ∀ a, p = some a → a ∈ m1 ∧ a ∉ m
theorem del_get {p : Option Addr} {a : Addr} {o : HO} (q : G a = some o) (n : some a ≠ p) : del G p a = some o := by
  unfold del; rw [if_neg n]; exact q
theorem del_of {p : Option Addr} {a : Addr} {o : HO} (q : del G p a = some o) : G a = some o := by
  unfold del at q
  by_cases c : some a = p
  · rw [if_pos c] at q; cases q
  · rw [if_neg c] at q; exact q
mutual
theorem RV.narrow {p : Option Addr} (mu : ∀ a ∈ m1, ∃ o, G1 a = some o ∧ isMut o) (pf : m <+: m1) (g : Goes m m1 p) : ∀ {d : Val} {v : V}, RV K G1 m1 d v → Lt m.length d → RV K (del G1 p) m d v
  | .non, _, q, _ => q
  | .bl _, _, q, _ => q
  | .int _, _, q, _ => q
  | .str _, _, q, _ => q
  | .tup ds, v, ⟨a, xs, e, t, z, q⟩, l => ⟨a, xs, e, t.imp (fun t => del_get t fun e => by
      obtain ⟨i, _⟩ := g a e.symm
      obtain ⟨o, e2, w⟩ := mu a i
      rw [e2] at t; cases t; exact w) id, z, RVs.narrow mu pf g q (by rw [Lt] at l; exact l)⟩
  | .lst ds, v, ⟨a, xs, e, t, z, q⟩, l => ⟨a, xs, e, by
      rcases t with ⟨t, n⟩ | t
      · refine .inl ⟨?_, fun i => n (pf.subset i)⟩
        have ne : some a ≠ p := fun e => n (g a e.symm).1
        rcases t with t | ⟨o, t⟩
        · exact .inl (del_get t ne)
        · exact .inr ⟨o, del_get t ne⟩
      · exact .inr t, z, RVs.narrow mu pf g q (by rw [Lt] at l; exact l)⟩
  | .dct ks ds, v, ⟨a, kvs, e, t, n, z, k, q⟩, l => ⟨a, kvs, e, by
      have ne : some a ≠ p := fun e => n (g a e.symm).1
      rcases t with t | ⟨o, t⟩
      · exact .inl (del_get t ne)
      · exact .inr ⟨o, del_get t ne⟩, fun i => n (pf.subset i), z, k, RVs.narrow mu pf g q (by rw [Lt] at l; exact l)⟩
  | .ref l, v, ⟨a, e, q⟩, lt => ⟨a, e, by
      rw [Lt] at lt
      obtain ⟨t, rfl⟩ := pf
      rw [List.getElem?_append_left lt] at q
      exact q⟩
theorem RVs.narrow {p : Option Addr} (mu : ∀ a ∈ m1, ∃ o, G1 a = some o ∧ isMut o) (pf : m <+: m1) (g : Goes m m1 p) : ∀ {ds : List Val} {vs : List V}, RVs K G1 m1 ds vs → Lts m.length ds → RVs K (del G1 p) m ds vs
  | [], _, q, _ => q
  | d :: ds, _, ⟨v, vs, e, a, b⟩, l => by
    rw [Lts] at l
    exact ⟨v, vs, e, RV.narrow mu pf g a l.1, RVs.narrow mu pf g b l.2⟩
end
theorem RO.narrow {p : Option Addr} (mu : ∀ a ∈ m1, ∃ o, G1 a = some o ∧ isMut o) (pf : m <+: m1) (g : Goes m m1 p) {a : Addr} (i : a ∈ m) {o : Ob} (q : RO K G1 m1 a o) (l : ObLt m.length o) : RO K (del G1 p) m a o := by
  have ne : some a ≠ p := fun e => (g a e.symm).2 i
  cases o with
  | lst ds =>
    obtain ⟨xs, e, z, q⟩ := q
    exact ⟨xs, del_get e ne, z, RVs.narrow mu pf g q l⟩
  | dct kvs =>
    obtain ⟨xs, e, z, y, q⟩ := q
    exact ⟨xs, del_get e ne, z, y, RVs.narrow mu pf g q l⟩
/-- the old cells speak of old cells only -/
def OldOk (h h1 : Hs) : Prop := h.length ≤ h1.length ∧ ∀ (l : Nat) (o : Ob), l < h.length → h1[l]? = some o → h[l]? = some o ∨ ObLt h.length o
theorem narrow {p : Option Addr} (k : Kp m G H m1 G1 H1) (rh : RH K h m G) (rh1 : RH K h1 m1 G1) (e : Ex G H) (ok : OldOk h h1) (g : Goes m m1 p) : Kp m G H m (del G1 p) H1 ∧ RH K (h1.take h.length) m (del G1 p) := by
  have gone : ∀ a, some a = p → H a = none := fun a e => (k.n a (g a e.symm).1).elim (fun i => absurd i (g a e.symm).2) id
  refine ⟨⟨k.h, fun a o q n => ?_, fun a q z => ?_, List.prefix_refl m, fun a i => .inl i, fun a o q => k.e a o (del_of q)⟩, ?_, rh.nd, fun a i => ?_, fun l o a e1 e2 => ?_⟩
  · exact del_get (k.g a o q n) fun e2 => by
      have := e a o q
      rw [gone a e2] at this; cases this
  · unfold del
    by_cases c : some a = p
    · rw [if_pos c]
    · rw [if_neg c]; exact k.p a q z
  · rw [List.length_take, Nat.min_eq_left ok.1]; exact rh.len
  · obtain ⟨o, e1, mu⟩ := rh1.mu a (k.pf.subset i)
    exact ⟨o, del_get e1 fun e => (g a e.symm).2 i, mu⟩
  · have i : a ∈ m := List.mem_of_getElem? e2
    have lt : l < h.length := by
      have := (List.getElem?_eq_some_iff.mp e2).1
      rw [rh.len]; exact this
    have e3 : h1[l]? = some o := by rw [List.getElem?_take_of_lt lt] at e1; exact e1
    refine RO.narrow rh1.mu k.pf g i (rh1.ob l o a e3 (prefix_get k.pf e2)) ?_
    rcases ok.2 l o lt e3 with q | q
    · have := rh.ob l o a q e2
      cases o with
      | lst ds =>
        obtain ⟨xs, e, z, q⟩ := this
        exact q.lt
      | dct kvs =>
        obtain ⟨xs, e, z, y, q⟩ := this
        exact q.lt
    · rw [rh.len] at q; exact q
end

open Classical in
noncomputable def leave (h : Hs) (d : Val) (h1 : Hs) : R Val := gd (OldOk h h1) (match d with
  | .ref l => if l < h.length then .ok d (h1.take h.length) else match h1[l]? with
    | some (.lst ds) => gd (Lts h.length ds) (.ok (.tl ds) (h1.take h.length))
    | some (.dct kvs) => gd (Lts h.length (kvs.map (·.2))) (.ok (.td (kvs.map (·.1)) (kvs.map (·.2))) (h1.take h.length))
    | none => .no
  | d => gd (Lt h.length d) (.ok d (h1.take h.length)))
open Classical in
noncomputable def leaveX (h : Hs) (e : Exn) (h1 : Hs) : R Val := gd (OldOk h h1 ∧ ∀ d, e.at_ = some d → Lt h.length d) (.rz e (h1.take h.length))
/-- the slots at the start -/
def sl0 (N : Nat) (ds : List Val) : Sl := ds.map some ++ List.replicate (N - ds.length) none
noncomputable def runF (N : Nat) (b : SM) : Fn := fun ds h => match b (sl0 N ds) h with
  | .nx _ h1 => leave h .non h1
  | .rt d h1 => leave h d h1
  | .rz e _ h1 => leaveX h e h1
  | _ => .no
/-- what a def promises -/
def OutF (K : PySem.W.Frag) (mg : Str → Option Value) (m : List Addr) (G H : Hp) (Q : VK) (E : XK) : R Val → Prop
  | .ok d h' => ∀ m' G' H' v, Kp m G H m' G' H' → RH K h' m' G' → RP K G' m' H' d v → Fsh H d v → Q v H'
  | .rz e h' => ∀ m' G' H' c dd, Kp m G H m' G' H' → RH K h' m' G' → RX K mg G' m' H' e c dd → E c dd H'
  | .no => False
def spM (K : PySem.W.Frag) (mg : Str → Option Value) (n : Nat) (f : Fn) : Sp := fun vs H Q E => vs.length = n ∧ ∃ h m G ds, RH K h m G ∧ Ex G H ∧ RVs K G m ds vs ∧ OutF K mg m G H Q E (f ds h)

section
variable {K : PySem.W.Frag} {mg : Str → Option Value} {W : WX} {G G1 H H1 : Hp} {m m1 : List Addr} {h h1 : Hs} {r : Sl} {s : L2.St} {Q : VK} {E : XK} {d : Val} {v : V}
open Classical in
theorem leave_ok (rh : RH K h m G) (e : Ex G H) (o : OutF K mg m G H Q E (leave h d h1)) (k : Kp m G H m1 G1 H1) (rh1 : RH K h1 m1 G1) (q : RP K G1 m1 H1 d v) (f : Fsh H d v) : Q v H1 := by
  unfold leave at o
  by_cases ok : OldOk h h1
  · rw [gd_pos ok] at o
    have plain : ∀ d, RV K G1 m1 d v → isTmp d = false → OutF K mg m G H Q E (gd (Lt h.length d) (.ok d (h1.take h.length))) → Q v H1 := fun d q t o => by
      by_cases c : Lt h.length d
      · rw [gd_pos c] at o
        have g : Goes m m1 none := fun a e => by cases e
        obtain ⟨k2, rh2⟩ := narrow k rh rh1 e ok g
        have q2 : RV K (del G1 none) m d v := RV.narrow rh1.mu k.pf g q (by rw [← rh.len]; exact c)
        exact o m _ H1 v k2 rh2 q2.rp q2.fsh
      · rw [gd_neg c] at o; exact o.elim
    cases d with
    | ref l =>
      dsimp only at o
      by_cases c : l < h.length
      · rw [if_pos c] at o
        exact plain (.ref l) q rfl (by rw [gd_pos (show Lt h.length (.ref l) by rw [Lt]; exact c)]; exact o)
      · rw [if_neg c] at o
        obtain ⟨a, rfl, i⟩ := q
        have lm : ¬ l < m.length := by rw [← rh.len]; exact c
        have g : Goes m m1 (some a) := fun b e => by
          cases e
          refine ⟨List.mem_of_getElem? i, fun j => ?_⟩
          obtain ⟨n, lt, e2⟩ := List.getElem_of_mem j
          have e3 : m1[n]? = some a := prefix_get k.pf (by rw [List.getElem?_eq_getElem lt, e2])
          have := nd_ix rh1.nd i e3
          omega
        have fresh : H a = none := (k.n a (List.mem_of_getElem? i)).elim (fun j => absurd j (g a rfl).2) id
        obtain ⟨k2, rh2⟩ := narrow k rh rh1 e ok g
        have gone : del G1 (some a) a = none := by unfold del; rw [if_pos rfl]
        cases e1 : h1[l]? with
        | none => rw [e1] at o; exact o.elim
        | some ob =>
          rw [e1] at o
          cases ob with
          | lst ds =>
            dsimp only at o
            by_cases c2 : Lts h.length ds
            · rw [gd_pos c2] at o
              obtain ⟨xs, e2, z, w⟩ := rh1.ob l _ a e1 i
              exact o m _ H1 _ k2 rh2 ⟨a, xs, rfl, k.e _ _ e2, gone, z, RVs.narrow rh1.mu k.pf g w (by rw [← rh.len]; exact c2)⟩ fun b e => by cases e; exact fresh
            · rw [gd_neg c2] at o; exact o.elim
          | dct kvs =>
            dsimp only at o
            by_cases c2 : Lts h.length (kvs.map (·.2))
            · rw [gd_pos c2] at o
              obtain ⟨xs, e2, z, y, w⟩ := rh1.ob l _ a e1 i
              exact o m _ H1 _ k2 rh2 ⟨a, xs, rfl, k.e _ _ e2, gone, z, y, RVs.narrow rh1.mu k.pf g w (by rw [← rh.len]; exact c2)⟩ fun b e => by cases e; exact fresh
            · rw [gd_neg c2] at o; exact o.elim
    | tl ds =>
      dsimp only at o
      by_cases c : Lt h.length (.tl ds)
      · rw [gd_pos c] at o
        rw [Lt] at c
        have g : Goes m m1 none := fun a e => by cases e
        obtain ⟨k2, rh2⟩ := narrow k rh rh1 e ok g
        obtain ⟨a, xs, rfl, e1, e2, z, w⟩ := q
        exact o m _ H1 _ k2 rh2 ⟨a, xs, rfl, e1, by unfold del; rw [if_neg (by simp)]; exact e2, z, RVs.narrow rh1.mu k.pf g w (by rw [← rh.len]; exact c)⟩ f
      · rw [gd_neg c] at o; exact o.elim
    | td ks ds =>
      dsimp only at o
      by_cases c : Lt h.length (.td ks ds)
      · rw [gd_pos c] at o
        rw [Lt] at c
        have g : Goes m m1 none := fun a e => by cases e
        obtain ⟨k2, rh2⟩ := narrow k rh rh1 e ok g
        obtain ⟨a, xs, rfl, e1, e2, z, y, w⟩ := q
        exact o m _ H1 _ k2 rh2 ⟨a, xs, rfl, e1, by unfold del; rw [if_neg (by simp)]; exact e2, z, y, RVs.narrow rh1.mu k.pf g w (by rw [← rh.len]; exact c)⟩ f
      · rw [gd_neg c] at o; exact o.elim
    | non => exact plain _ q rfl o
    | bl _ => exact plain _ q rfl o
    | int _ => exact plain _ q rfl o
    | str _ => exact plain _ q rfl o
    | tup _ => exact plain _ q rfl o
    | lst _ => exact plain _ q rfl o
    | dct _ _ => exact plain _ q rfl o
  · rw [gd_neg ok] at o; exact o.elim
open Classical in
theorem leaveX_ok {x : Exn} {c : Value} {dd : Option Addr} (rh : RH K h m G) (e : Ex G H) (o : OutF K mg m G H Q E (leaveX h x h1)) (k : Kp m G H m1 G1 H1) (rh1 : RH K h1 m1 G1) (q : RX K mg G1 m1 H1 x c dd) : E c dd H1 := by
  unfold leaveX at o
  by_cases ok : OldOk h h1 ∧ ∀ d, x.at_ = some d → Lt h.length d
  · rw [gd_pos ok] at o
    have g : Goes m m1 none := fun a e => by cases e
    obtain ⟨k2, rh2⟩ := narrow k rh rh1 e ok.1 g
    refine o m _ H1 c dd k2 rh2 ⟨q.1, q.2.1, ?_⟩
    have q3 := q.2.2
    cases ex : x.at_ with
    | none => rw [ex] at q3; exact q3
    | some d =>
      rw [ex] at q3
      obtain ⟨a, v, e1, e2, e3⟩ := q3
      exact ⟨a, v, e1, del_get e2 (by simp), RV.narrow rh1.mu k.pf g e3 (by rw [← rh.len]; exact ok.2 d ex)⟩
  · rw [gd_neg ok] at o; exact o.elim
theorem rs_start {N : List Str} {ds : List Val} {vs : List V} (q : RVs K G m ds vs) : RS K G m (sl0 N.length ds) (L2.start N vs) := by
  refine ⟨by simp [sl0, L2.start, q.length], fun i d e => ?_⟩
  unfold sl0 at e
  unfold L2.start
  have l := q.length
  by_cases c : i < ds.length
  · rw [List.getElem?_append_left (by rw [List.length_map]; exact c), List.getElem?_map] at e
    cases e1 : ds[i]? with
    | none => rw [e1] at e; cases e
    | some d' =>
      rw [e1] at e
      cases e
      obtain ⟨v, e2, r⟩ := q.get e1
      exact ⟨v, by rw [List.getElem?_append_left (by rw [List.length_map]; omega), List.getElem?_map, e2]; rfl, r⟩
  · rw [List.getElem?_append_right (by rw [List.length_map]; omega), List.getElem?_replicate] at e
    split at e <;> cases e
end

/-! ### defs and calls -/
/-- a def of this name answers as f -/
structure Df (P : Program) (w : World) (K : PySem.W.Frag) (mg : Str → Option Value) (base : Heap) (k : Nat) (x : Str) (n : Nat) (f : Fn) : Prop where
  ex : ∃ a fd ps, ps.length = n ∧ FnOk P w K mg base (L2.CX P w) k a fd ps (spM K mg n f) ∧ mg x = some (.ref a) ∧ PySem.W.keepIn K (.ref a) = true ∧ Binds K fd ps []
def callE (n : Nat) (f : Fn) (as : AM) : EM := fun r h => (as r h).bind fun ds h1 => gd (ds.length = n) (f ds h1)
theorem spM_no {K : PySem.W.Frag} {mg : Str → Option Value} {n : Nat} {vs : List V} {H : Hp} {Q : VK} {E : XK} (h : spM K mg n (fun _ _ => .no) vs H Q E) : False := by
  obtain ⟨_, _, _, _, _, _, _, _, o⟩ := h
  exact o
section
variable {P : Program} {w : World} {K : PySem.W.Frag} {mg : Str → Option Value} {base : Heap}
theorem fn_ok {x qual : Str} {st : Stmt} {f : Addr} {fd : FuncData} {N ps : List Str} {k : Nat} {b : SM} (F : Fun K x qual st f fd) (S : FnScope N ps (defScope st))
    (hb : ∀ (cdv : Value) (A : Around) (outer : List Env) (s : Shared) (H : Hp) (E : XK), Room k (A.deeper (envOfC qual (defScope st) s.heap.objs.size f cdv)) →
      SSs (cxOf (L2.CX P w) P w K mg base N qual (defScope st) f cdv A outer s H E) (defBody st) b) :
    FnOk P w K mg base (L2.CX P w) (k + 1) f fd ps (spM K mg ps.length (runF N.length b)) := by
  refine F.okX S (fun vs H Q E h => h.1) fun cdv A outer s H vs Q E hr h => ?_
  refine ⟨_, (hb cdv A outer s H E hr).run _ (takes_of rfl rfl rfl rfl), ?_⟩
  obtain ⟨_, hh, m, G, ds, rh, e, rv, o⟩ := h
  refine ⟨sl0 N.length ds, hh, m, G, ⟨rs_start rv, rh, e⟩, ?_⟩
  unfold runF at o
  cases eb : b (sl0 N.length ds) hh with
  | no => rw [eb] at o; exact o
  | bk _ _ => rw [eb] at o; exact o.elim
  | ct _ _ => rw [eb] at o; exact o.elim
  | nx r1 h1 =>
    rw [eb] at o
    exact fun m' G' H' s' k' rh' rs => leave_ok (v := .non) rh e o k' rh' rfl trivial
  | rt d h1 =>
    rw [eb] at o
    exact fun m' G' H' v k' rh' rp f => leave_ok rh e o k' rh' rp f
  | rz x r1 h1 =>
    rw [eb] at o
    exact fun m' G' H' s' c dd k' rh' rs rx => leaveX_ok rh e o k' rh' rx
end
theorem fn_is {P : Program} {w : World} {K : PySem.W.Frag} {mg : Str → Option Value} {base : Heap} {x qual : Str} {st : Stmt} {f : Addr} {fd : FuncData} {N ps : List Str} {k n nN : Nat} {b : SM} {mf : Fn} (F : Fun K x qual st f fd) (S : FnScope N ps (defScope st)) (hn : ps.length = n) (hN : N.length = nN) (hf : mf = runF nN b)
    (hb : ∀ (cdv : Value) (A : Around) (outer : List Env) (s : Shared) (H : Hp) (E : XK), Room k (A.deeper (envOfC qual (defScope st) s.heap.objs.size f cdv)) →
      SSs (cxOf (L2.CX P w) P w K mg base N qual (defScope st) f cdv A outer s H E) (defBody st) b) :
    FnOk P w K mg base (L2.CX P w) (k + 1) f fd ps (spM K mg n mf) := by
  subst hf hN hn
  exact fn_ok F S hb
section
variable {X : Cx} {x : Str} {k n : Nat} {f : Fn} {e : Expr} {es : List Expr} {as : AM} {p pos : Pos}
theorem out_spM {K : PySem.W.Frag} {mg : Str → Option Value} {W : WX} {G H : Hp} {m : List Addr} {h : Hs} {r : Sl} {s : L2.St} {Q : VK} {n : Nat} {ds : List Val} {vs : List V} (a : At K r h m G s H) (q : RVs K G m ds vs) (hn : ds.length = n) (o : Out K mg W (relV K) s m G H Q (f ds h)) :
    spM K mg n f vs H Q (WE W s) := by
  refine ⟨by rw [← q.length]; exact hn, h, m, G, ds, a.h, a.e, q, ?_⟩
  cases ef : f ds h with
  | no => rw [ef] at o; exact o
  | ok d h' => rw [ef] at o; exact fun m' G' H' v k rh rp fs => o m' G' H' v k rh ⟨rp, fs⟩
  | rz x h' => rw [ef] at o; exact o
theorem se_call (D : Df X.prog X.w X.K X.mg X.base k x n f) (hr : Room k X.A) (hg : Gl X x) (ha : SA X (e :: es) as) (hdb : (x == ("__debug__" : Str)) = false := by decide)
    (he : starEach (e :: es) X.env = (false, eval e X.env) :: starEach es X.env := by rfl) (hpl : (backTo pos (starEach es X.env)).any (·.1) = false := by rfl) :
    SE X (.Call (.Name x p) (e :: es) [] pos) (callE n f as) := ⟨fun W tk => by
  obtain ⟨a, fd, ps, _, F, hm, hk, hb⟩ := D.ex
  refine (pe_callS F hr hg hm hk hb (fun σ => passAt tk σ) (ha.run W tk) hdb he hpl).imp ?_
  rintro s H Q ⟨r, h, m, G, a, o⟩
  refine step mono_V a o fun ds h1 m1 G1 H1 vs a1 k1 rl o1 => ?_
  obtain ⟨c, o1⟩ := o1.gd
  exact out_spM a1 rl c o1⟩
end
end Rg
namespace Rg
open PySem PySem.Spec PyProof.Rows L2

/-! ### what is never come to -/
def noE : EM := fun _ _ => .no
def noS : SM := fun _ _ => .no
theorem se_never {X : Cx} {e : Expr} : SE X e noE := ⟨fun W tk => ⟨fun pins s σ H Q I ⟨r, h, m, G, a, o⟩ => o.elim⟩⟩
theorem ss_never {X : Cx} {st : Stmt} : SS X st noS := ⟨fun W tk => ⟨fun pins s σ H D I ⟨r, h, m, G, a, o⟩ => o.elim⟩⟩

/-! ### methods of what is built in -/
/-- of that type -/
def isTy (T : String) (h : Hs) (d : Val) : Bool :=
  if T = "list" then (asL h d).isSome else if T = "str" then (asS d).isSome else if T = "int" then (asI d).isSome else if T = "dict" then (cellD h d).isSome else false
def mt0 (T : String) (f : Hs → Val → R Val) (x : EM) : EM := fun r h => (x r h).bind fun a h1 => gd (isTy T h1 a = true) (f h1 a)
def mt1 (T : String) (f : Hs → Val → Val → R Val) (x y : EM) : EM := fun r h => (x r h).bind fun a h1 => gd (isTy T h1 a = true) ((y r h1).bind fun b h2 => f h2 a b)
def mt2 (T : String) (f : Hs → Val → Val → Val → R Val) (x y z : EM) : EM := fun r h => (x r h).bind fun a h1 => gd (isTy T h1 a = true) ((y r h1).bind fun b h2 => (z r h2).bind fun c h3 => f h3 a b c)
def P3 (K : PySem.W.Frag) (mg : Str → Option Value) (t : V → V → V → Hp → VK → Prop) (f : Hs → Val → Val → Val → R Val) : Prop :=
  ∀ W r h m G s H a v b u c w Q, At K r h m G s H → RP K G m H a v → RP K G m H b u → RP K G m H c w → Out K mg W (relV K) s m G H Q (f h a b c) → t v u w H Q
section
variable {K : PySem.W.Frag} {mg : Str → Option Value} {W : WX} {G H : Hp} {m : List Addr} {h : Hs} {r : Sl} {s : L2.St}
theorem isTy_ok {T : String} {d : Val} {v : V} (a : At K r h m G s H) (q : RP K G m H d v) (e : isTy T h d = true) : tyV K T v H := by
  unfold isTy at e
  by_cases c1 : T = "list"
  · subst c1
    rw [if_pos rfl] at e
    cases e1 : asL h d with
    | none => rw [e1] at e; cases e
    | some ds =>
      obtain ⟨p, xs, rfl, s1, _, _⟩ := asL_ok a q e1
      exact .inl ⟨rfl, xs, s1⟩
  · rw [if_neg c1] at e
    by_cases c2 : T = "str"
    · subst c2
      rw [if_pos rfl] at e
      cases d <;> try (cases e; done)
      have ev : v = .str _ := q
      subst ev; rfl
    · rw [if_neg c2] at e
      by_cases c3 : T = "int"
      · subst c3
        rw [if_pos rfl] at e
        cases d <;> try (cases e; done)
        have ev : v = .int _ := q
        subst ev; rfl
      · rw [if_neg c3] at e
        by_cases c4 : T = "dict"
        · subst c4
          rw [if_pos rfl] at e
          cases e1 : cellD h d with
          | none => rw [e1] at e; cases e
          | some ds =>
            obtain ⟨p, xs, _, _, rfl, _, e2, _⟩ := cellD_ok a q e1
            exact .inr (.inr (.inl ⟨rfl, .inl ⟨xs, e2⟩⟩))
        · rw [if_neg c4] at e; cases e
end
section
variable {X : Cx} {o e e2 : Expr} {x y z : EM} {name : Str} {apos cpos : Pos} {T id : String} {t : V → List V → Hp → VK → Prop}
theorem se_m0 {f : Hs → Val → R Val} (pa : PlainAttrs T) (slot : Slot T name id) (hty : typeOf (.builtin id) = pure (.type "method_descriptor")) (hm : MtR X id t) (pr : P1 X.K X.mg (fun v H Q => t v [] H Q) f) (ho : SE X o x)
    (hbase : attributeBase o name X.env (eval o X.env) = eval o X.env := by rfl) (hline : (apos.endLine == cpos.line) = true := by rfl) : SE X (.Call (.Attribute o name apos) [] [] cpos) (mt0 T f x) :=
  ⟨fun W tk => (pe_bm0 pa slot hty hm (ho.run W tk) hbase hline).imp fun s H Q ⟨r, h, m, G, a, o⟩ => step mono_V a o fun d h1 m1 G1 H1 v a1 k1 ⟨rl, _⟩ o1 => by
    obtain ⟨c, o1⟩ := o1.gd
    exact ⟨isTy_ok a1 rl c, pr W r h1 m1 G1 s H1 d v Q a1 rl o1⟩⟩
theorem se_m1 {f : Hs → Val → Val → R Val} (pa : PlainAttrs T) (slot : Slot T name id) (hty : typeOf (.builtin id) = pure (.type "method_descriptor")) (hm : MtR X id t) (pr : P2 X.K X.mg (fun v u H Q => t v [u] H Q) f) (ho : SE X o x) (he : SE X e y)
    (hbase : attributeBase o name X.env (eval o X.env) = eval o X.env := by rfl)
    (hfew : ((backTo cpos (starEach [e] X.env)).all (fun x => !x.1) && (backToKw cpos (keywordEach [] X.env)).all (fun x => x.1.isSome)
      && decide (([e] : List Expr).length + ([] : List Keyword).length + (if ([] : List Keyword).isEmpty then 0 else 1) < 30)) = true := by rfl)
    (hline : (apos.endLine == cpos.line) = true := by rfl) (hs : starEach [e] X.env = (false, eval e X.env) :: starEach [] X.env := by rfl) (hplain : (backTo cpos (starEach [] X.env)).any (·.1) = false := by rfl) : SE X (.Call (.Attribute o name apos) [e] [] cpos) (mt1 T f x y) :=
  ⟨fun W tk => (pe_bm pa slot hty hm (ho.run W tk) (pa_cons (he.run W tk) pa_nil hs) hbase hfew hline hs hplain).imp fun s H Q ⟨r, h, m, G, a, o⟩ => step mono_V a o fun d h1 m1 G1 H1 v a1 k1 ⟨rl, _⟩ o1 => by
    obtain ⟨c, o1⟩ := o1.gd
    refine ⟨isTy_ok a1 rl c, ?_⟩
    exact step mono_V a1 o1 fun d2 h2 m2 G2 H2 v2 a2 k2 ⟨rl2, _⟩ o2 => pr W r h2 m2 G2 s H2 d v d2 v2 Q a2 (RP.stay k2 a1.e a1.h rl) rl2 o2⟩
theorem se_m2 {f : Hs → Val → Val → Val → R Val} (pa : PlainAttrs T) (slot : Slot T name id) (hty : typeOf (.builtin id) = pure (.type "method_descriptor")) (hm : MtR X id t) (pr : P3 X.K X.mg (fun v u w H Q => t v [u, w] H Q) f) (ho : SE X o x) (he : SE X e y) (he2 : SE X e2 z)
    (hbase : attributeBase o name X.env (eval o X.env) = eval o X.env := by rfl)
    (hfew : ((backTo cpos (starEach [e, e2] X.env)).all (fun x => !x.1) && (backToKw cpos (keywordEach [] X.env)).all (fun x => x.1.isSome)
      && decide (([e, e2] : List Expr).length + ([] : List Keyword).length + (if ([] : List Keyword).isEmpty then 0 else 1) < 30)) = true := by rfl)
    (hline : (apos.endLine == cpos.line) = true := by rfl) (hs : starEach [e, e2] X.env = (false, eval e X.env) :: starEach [e2] X.env := by rfl) (hs2 : starEach [e2] X.env = (false, eval e2 X.env) :: starEach [] X.env := by rfl) (hplain : (backTo cpos (starEach [e2] X.env)).any (·.1) = false := by rfl) : SE X (.Call (.Attribute o name apos) [e, e2] [] cpos) (mt2 T f x y z) :=
  ⟨fun W tk => (pe_bm pa slot hty hm (ho.run W tk) (pa_cons (he.run W tk) (pa_cons (he2.run W tk) pa_nil hs2) hs) hbase hfew hline hs hplain).imp fun s H Q ⟨r, h, m, G, a, o⟩ => step mono_V a o fun d h1 m1 G1 H1 v a1 k1 ⟨rl, _⟩ o1 => by
    obtain ⟨c, o1⟩ := o1.gd
    refine ⟨isTy_ok a1 rl c, ?_⟩
    exact step mono_V a1 o1 fun d2 h2 m2 G2 H2 v2 a2 k2 ⟨rl2, _⟩ o2 => step mono_V a2 o2 fun d3 h3 m3 G3 H3 v3 a3 k3 ⟨rl3, _⟩ o3 =>
      pr W r h3 m3 G3 s H3 d v d2 v2 d3 v3 Q a3 (RP.stay k3 a2.e a2.h (RP.stay k2 a1.e a1.h rl)) (RP.stay k3 a2.e a2.h rl2) rl3 o3⟩
end

/-! ### lists -/
def onC (f : Hs → Nat → List Val → R Val) (h : Hs) (a : Val) : R Val := match cellL h a with
  | some (l, ds) => f h l ds
  | none => .no
def putL (l : Nat) (ds : List Val) (d : Val) (h : Hs) : R Val := .ok d (h.set l (.lst ds))
def appF (h : Hs) (a b : Val) : R Val := onC (fun h l ds => gd (isTmp b = false ∧ ds.length < sizeLine) (putL l (ds ++ [b]) .non h)) h a
/-- items of a list that may be walked at once -/
def asX (h : Hs) : Val → Option (List Val)
  | .tl ds => some ds
  | .ref l => match h[l]? with
    | some (.lst ds) => some ds
    | _ => none
  | _ => none
def extF (h : Hs) (a b : Val) : R Val := onC (fun h l ds => match asX h b with
  | some es => gd (ds.length + es.length ≤ sizeLine) (putL l (ds ++ es) .non h)
  | none => .no) h a
def popF (h : Hs) (a : Val) : R Val := onC (fun h l ds => match ds[ds.length - 1]? with
  | some d => putL l ds.dropLast d h
  | none => .no) h a
def popAtF (h : Hs) (a b : Val) : R Val := onC (fun h l ds => match b with
  | .int i => gd (-(2 ^ 63) ≤ i ∧ i < 2 ^ 63) (match seqIndex? i ds.length with
    | some k => match ds[k]? with
      | some d => putL l (ds.eraseIdx k) d h
      | none => .no
    | none => .no)
  | _ => .no) h a
def revF (h : Hs) (a : Val) : R Val := onC (fun h l ds => putL l ds.reverse .non h) h a
def clrF (h : Hs) (a : Val) : R Val := onC (fun h l ds => putL l [] .non h) h a
def insF (h : Hs) (a b c : Val) : R Val := onC (fun h l ds => match b with
  | .int i => gd (isTmp c = false ∧ ds.length < sizeLine ∧ 0 ≤ i ∧ i < 2 ^ 63) (putL l (ds.take i.toNat ++ [c] ++ ds.drop i.toNat) .non h)
  | _ => .no) h a
/-- the first place of k -/
def fstI (k : Int) : List Int → Option Nat
  | [] => none
  | n :: ns => if n = k then some 0 else (fstI k ns).map (· + 1)
theorem fstI_ok {k : Int} : ∀ {ns : List Int} {j : Nat}, fstI k ns = some j → ns[j]? = some k ∧ ∀ m : Nat, m < j → ns[m]? ≠ some k
  | [], _, h => by cases h
  | n :: ns, j, h => by
    unfold fstI at h
    by_cases c : n = k
    · rw [if_pos c] at h
      cases h
      exact ⟨by rw [c]; rfl, fun m hm => absurd hm (Nat.not_lt_zero m)⟩
    · rw [if_neg c] at h
      cases e : fstI k ns with
      | none => rw [e] at h; cases h
      | some i =>
        rw [e] at h
        cases h
        obtain ⟨h1, h2⟩ := fstI_ok e
        refine ⟨by simpa using h1, fun m hm => ?_⟩
        cases m with
        | zero => simpa using c
        | succ m => simpa using h2 m (Nat.lt_of_succ_lt_succ hm)
def remF (h : Hs) (a b : Val) : R Val := onC (fun h l ds => match allOf asI ds, b with
  | some ns, .int k => match fstI k ns with
    | some j => putL l (ds.eraseIdx j) .non h
    | none => .no
  | _, _ => .no) h a
def cntF (h : Hs) (a b : Val) : R Val := match asL h a, b with
  | some ds, .int k => match allOf asI ds with
    | some ns => .ok (.int (ns.count k : Nat)) h
    | none => .no
  | _, _ => .no
section
variable {K : PySem.W.Frag} {mg : Str → Option Value} {W : WX} {G H : Hp} {m : List Addr} {h : Hs} {r : Sl} {s : L2.St}
theorem onC_ok {f : Hs → Nat → List Val → R Val} {a : Val} {v : V} {Q : VK} (at_ : At K r h m G s H) (q : RP K G m H a v) (o : Out K mg W (relV K) s m G H Q (onC f h a)) :
    ∃ l ds p xs, v = .ref p ∧ m[l]? = some p ∧ H p = some (.lst xs) ∧ xs.length ≤ sizeLine ∧ RVs K G m ds xs ∧ Out K mg W (relV K) s m G H Q (f h l ds) := by
  unfold onC at o
  cases e : cellL h a with
  | none => rw [e] at o; exact o.elim
  | some w =>
    obtain ⟨l, ds⟩ := w
    rw [e] at o
    obtain ⟨p, xs, _, _, rfl, i, e2, z, w⟩ := cellL_ok at_ q e
    exact ⟨l, ds, p, xs, rfl, i, e2, z, w, o⟩
theorem RVs.erase : ∀ {ds : List Val} {xs : List V} (i : Nat), RVs K G m ds xs → RVs K G m (ds.eraseIdx i) (xs.eraseIdx i)
  | [], _, i, q => by rw [show _ = [] from q]; exact (rfl : ([] : List V) = [])
  | d :: ds, _, 0, ⟨x, xs, e, a, b⟩ => by rw [e]; exact b
  | d :: ds, _, i + 1, ⟨x, xs, e, a, b⟩ => ⟨x, xs.eraseIdx i, by rw [e]; rfl, a, RVs.erase i b⟩
theorem RVs.dropLast {ds : List Val} {xs : List V} (q : RVs K G m ds xs) : RVs K G m ds.dropLast xs.dropLast := by
  rw [List.dropLast_eq_take, List.dropLast_eq_take, ← q.length]; exact q.take _
theorem RVs.rev : ∀ {ds : List Val} {xs : List V}, RVs K G m ds xs → RVs K G m ds.reverse xs.reverse
  | [], _, q => by rw [show _ = [] from q]; exact (rfl : ([] : List V) = [])
  | d :: ds, _, ⟨x, xs, e, a, b⟩ => by
    rw [e, List.reverse_cons, List.reverse_cons]
    exact (RVs.rev b).append ⟨x, [], rfl, a, rfl⟩
theorem len_del {α : Type} : ∀ (l : List α) (i : Nat), (l.eraseIdx i).length ≤ l.length
  | [], _ => Nat.le_refl _
  | _ :: _, 0 => Nat.le_succ _
  | _ :: r, i + 1 => Nat.succ_le_succ (len_del r i)
theorem map_del {α β : Type} (f : α → β) : ∀ (l : List α) (i : Nat), (l.map f).eraseIdx i = (l.eraseIdx i).map f
  | [], _ => rfl
  | _ :: _, 0 => rfl
  | a :: r, i + 1 => congrArg (f a :: ·) (map_del f r i)
theorem RVs.one {d : Val} {x : V} (a : RV K G m d x) : RVs K G m [d] [x] := ⟨x, [], rfl, a, rfl⟩
theorem asX_ok {d : Val} {v : V} {ds : List Val} (a : At K r h m G s H) (q : RP K G m H d v) (e : asX h d = some ds) : ∃ p xs, v = .ref p ∧ H p = some (.lst xs) ∧ xs.length ≤ sizeLine ∧ RVs K G m ds xs := by
  cases d with
  | tl es =>
    cases e
    obtain ⟨p, xs, ev, t, _, z, w⟩ := q
    exact ⟨p, xs, ev, t, z, w⟩
  | ref l =>
    obtain ⟨p, ev, i⟩ := q
    unfold asX at e
    dsimp only at e
    cases o : h[l]? with
    | none => rw [o] at e; cases e
    | some ob =>
      rw [o] at e
      cases ob with
      | dct _ => cases e
      | lst es =>
        cases e
        obtain ⟨xs, e1, z, w⟩ := a.h.ob l _ p o i
        exact ⟨p, xs, ev, a.e _ _ e1, z, w⟩
  | _ => cases e
end
section
variable {X : Cx} {o e e2 : Expr} {x y z : EM} {apos cpos : Pos}
theorem se_append (ho : SE X o x) (he : SE X e y) (hbase : attributeBase o "append" X.env (eval o X.env) = eval o X.env := by rfl)
    (hfew : ((backTo cpos (starEach [e] X.env)).all (fun x => !x.1) && (backToKw cpos (keywordEach [] X.env)).all (fun x => x.1.isSome) && decide (([e] : List Expr).length + ([] : List Keyword).length + (if ([] : List Keyword).isEmpty then 0 else 1) < 30)) = true := by rfl)
    (hline : (apos.endLine == cpos.line) = true := by rfl) (hs : starEach [e] X.env = (false, eval e X.env) :: starEach [] X.env := by rfl) (hplain : (backTo cpos (starEach [] X.env)).any (·.1) = false := by rfl) : SE X (.Call (.Attribute o "append" apos) [e] [] cpos) (mt1 "list" appF x y) :=
  se_m1 PySem.F.plainAttrs_list PySem.F.slot_list_append PySem.F.type_list_append mt_append (fun W r h m G s H a v b u Q at_ ra rb o => by
    obtain ⟨l, ds, p, xs, rfl, i, hp, z, w, o⟩ := onC_ok at_ ra o
    obtain ⟨⟨c1, c2⟩, o⟩ := o.gd
    exact ⟨p, xs, u, rfl, rfl, hp, by rw [← w.length]; exact c2, o.setL at_ i (by rw [List.length_append, ← w.length]; simp; omega) (w.append ⟨u, [], rfl, RP.rv rb c1, rfl⟩) rfl⟩) ho he hbase hfew hline hs hplain
theorem se_extend (ho : SE X o x) (he : SE X e y) (hbase : attributeBase o "extend" X.env (eval o X.env) = eval o X.env := by rfl)
    (hfew : ((backTo cpos (starEach [e] X.env)).all (fun x => !x.1) && (backToKw cpos (keywordEach [] X.env)).all (fun x => x.1.isSome) && decide (([e] : List Expr).length + ([] : List Keyword).length + (if ([] : List Keyword).isEmpty then 0 else 1) < 30)) = true := by rfl)
    (hline : (apos.endLine == cpos.line) = true := by rfl) (hs : starEach [e] X.env = (false, eval e X.env) :: starEach [] X.env := by rfl) (hplain : (backTo cpos (starEach [] X.env)).any (·.1) = false := by rfl) : SE X (.Call (.Attribute o "extend" apos) [e] [] cpos) (mt1 "list" extF x y) :=
  se_m1 PySem.F.plainAttrs_list PySem.F.slot_list_extend PySem.F.type_list_extend mt_extend (fun W r h m G s H a v b u Q at_ ra rb o => by
    obtain ⟨l, ds, p, xs, rfl, i, hp, z, w, o⟩ := onC_ok at_ ra o
    cases e1 : asX h b with
    | none => rw [e1] at o; exact o.elim
    | some es =>
      rw [e1] at o
      obtain ⟨c, o⟩ := o.gd
      obtain ⟨q, ys, rfl, hq, z2, w2⟩ := asX_ok at_ rb e1
      rw [w.length, w2.length] at c
      exact ⟨p, q, xs, ys, rfl, rfl, hp, hq, c, o.setL at_ i (by rw [List.length_append]; exact c) (w.append w2) rfl⟩) ho he hbase hfew hline hs hplain
theorem se_pop0 (ho : SE X o x) (hbase : attributeBase o "pop" X.env (eval o X.env) = eval o X.env := by rfl) (hline : (apos.endLine == cpos.line) = true := by rfl) : SE X (.Call (.Attribute o "pop" apos) [] [] cpos) (mt0 "list" popF x) :=
  se_m0 PySem.F.plainAttrs_list PySem.F.slot_list_pop PySem.F.type_list_pop mt_pop (fun W r h m G s H a v Q at_ ra o => by
    obtain ⟨l, ds, p, xs, rfl, i, hp, z, w, o⟩ := onC_ok at_ ra o
    rw [w.length] at o
    cases e1 : ds[xs.length - 1]? with
    | none => rw [e1] at o; exact o.elim
    | some d =>
      rw [e1] at o
      obtain ⟨y, e2, q⟩ := w.get e1
      exact ⟨p, xs, y, rfl, rfl, hp, e2, o.setL at_ i (by rw [List.length_dropLast]; omega) w.dropLast q⟩) ho hbase hline
theorem se_pop1 (ho : SE X o x) (he : SE X e y) (hbase : attributeBase o "pop" X.env (eval o X.env) = eval o X.env := by rfl)
    (hfew : ((backTo cpos (starEach [e] X.env)).all (fun x => !x.1) && (backToKw cpos (keywordEach [] X.env)).all (fun x => x.1.isSome) && decide (([e] : List Expr).length + ([] : List Keyword).length + (if ([] : List Keyword).isEmpty then 0 else 1) < 30)) = true := by rfl)
    (hline : (apos.endLine == cpos.line) = true := by rfl) (hs : starEach [e] X.env = (false, eval e X.env) :: starEach [] X.env := by rfl) (hplain : (backTo cpos (starEach [] X.env)).any (·.1) = false := by rfl) : SE X (.Call (.Attribute o "pop" apos) [e] [] cpos) (mt1 "list" popAtF x y) :=
  se_m1 PySem.F.plainAttrs_list PySem.F.slot_list_pop PySem.F.type_list_pop mt_popAt (fun W r h m G s H a v b u Q at_ ra rb o => by
    obtain ⟨l, ds, p, xs, rfl, i, hp, z, w, o⟩ := onC_ok at_ ra o
    obtain ⟨j, rfl⟩ : ∃ j, b = .int j := by cases b <;> first | exact ⟨_, rfl⟩ | exact o.elim
    have ev : u = V.int j := rb
    subst ev
    obtain ⟨⟨c1, c2⟩, o⟩ := o.gd
    rw [w.length] at o
    cases e1 : seqIndex? j xs.length with
    | none => rw [e1] at o; exact o.elim
    | some k =>
      rw [e1] at o
      dsimp only at o
      cases e2 : ds[k]? with
      | none => rw [e2] at o; exact o.elim
      | some d =>
        rw [e2] at o
        obtain ⟨y, e3, q⟩ := w.get e2
        exact ⟨p, xs, j, k, y, rfl, rfl, hp, c1, c2, e1, e3, o.setL at_ i (Nat.le_trans (len_del _ _) z) (w.erase k) q⟩) ho he hbase hfew hline hs hplain
theorem se_reverse (ho : SE X o x) (hbase : attributeBase o "reverse" X.env (eval o X.env) = eval o X.env := by rfl) (hline : (apos.endLine == cpos.line) = true := by rfl) : SE X (.Call (.Attribute o "reverse" apos) [] [] cpos) (mt0 "list" revF x) :=
  se_m0 PySem.F.plainAttrs_list PySem.F.slot_list_reverse PySem.F.type_list_reverse mt_reverse (fun W r h m G s H a v Q at_ ra o => by
    obtain ⟨l, ds, p, xs, rfl, i, hp, z, w, o⟩ := onC_ok at_ ra o
    exact ⟨p, xs, rfl, rfl, hp, o.setL at_ i (by rw [List.length_reverse]; exact z) w.rev rfl⟩) ho hbase hline
theorem se_clear (ho : SE X o x) (hbase : attributeBase o "clear" X.env (eval o X.env) = eval o X.env := by rfl) (hline : (apos.endLine == cpos.line) = true := by rfl) : SE X (.Call (.Attribute o "clear" apos) [] [] cpos) (mt0 "list" clrF x) :=
  se_m0 PySem.F.plainAttrs_list PySem.F.slot_list_clear PySem.F.type_list_clear mt_clear (fun W r h m G s H a v Q at_ ra o => by
    obtain ⟨l, ds, p, xs, rfl, i, hp, z, w, o⟩ := onC_ok at_ ra o
    exact ⟨p, xs, rfl, rfl, hp, o.setL at_ i (Nat.zero_le _) rfl rfl⟩) ho hbase hline
theorem se_insert (ho : SE X o x) (he : SE X e y) (he2 : SE X e2 z) (hbase : attributeBase o "insert" X.env (eval o X.env) = eval o X.env := by rfl)
    (hfew : ((backTo cpos (starEach [e, e2] X.env)).all (fun x => !x.1) && (backToKw cpos (keywordEach [] X.env)).all (fun x => x.1.isSome) && decide (([e, e2] : List Expr).length + ([] : List Keyword).length + (if ([] : List Keyword).isEmpty then 0 else 1) < 30)) = true := by rfl)
    (hline : (apos.endLine == cpos.line) = true := by rfl) (hs : starEach [e, e2] X.env = (false, eval e X.env) :: starEach [e2] X.env := by rfl) (hs2 : starEach [e2] X.env = (false, eval e2 X.env) :: starEach [] X.env := by rfl) (hplain : (backTo cpos (starEach [e2] X.env)).any (·.1) = false := by rfl) : SE X (.Call (.Attribute o "insert" apos) [e, e2] [] cpos) (mt2 "list" insF x y z) :=
  se_m2 PySem.F.plainAttrs_list PySem.F.slot_list_insert PySem.F.type_list_insert mt_insert (fun W r h m G s H a v b u c w Q at_ ra rb rc o => by
    obtain ⟨l, ds, p, xs, rfl, i, hp, z, wv, o⟩ := onC_ok at_ ra o
    obtain ⟨j, rfl⟩ : ∃ j, b = .int j := by cases b <;> first | exact ⟨_, rfl⟩ | exact o.elim
    have ev : u = V.int j := rb
    subst ev
    obtain ⟨⟨c0, c1, c2, c3⟩, o⟩ := o.gd
    rw [wv.length] at c1
    refine ⟨p, xs, j, w, rfl, rfl, hp, c1, c2, c3, o.setL at_ i ?_ (((wv.take j.toNat).append (RVs.one (RP.rv rc c0))).append (wv.drop j.toNat)) rfl⟩
    simp only [List.length_append, List.length_take, List.length_drop, List.length_singleton]; omega) ho he he2 hbase hfew hline hs hs2 hplain
theorem se_remove (ho : SE X o x) (he : SE X e y) (hbase : attributeBase o "remove" X.env (eval o X.env) = eval o X.env := by rfl)
    (hfew : ((backTo cpos (starEach [e] X.env)).all (fun x => !x.1) && (backToKw cpos (keywordEach [] X.env)).all (fun x => x.1.isSome) && decide (([e] : List Expr).length + ([] : List Keyword).length + (if ([] : List Keyword).isEmpty then 0 else 1) < 30)) = true := by rfl)
    (hline : (apos.endLine == cpos.line) = true := by rfl) (hs : starEach [e] X.env = (false, eval e X.env) :: starEach [] X.env := by rfl) (hplain : (backTo cpos (starEach [] X.env)).any (·.1) = false := by rfl) : SE X (.Call (.Attribute o "remove" apos) [e] [] cpos) (mt1 "list" remF x y) :=
  se_m1 PySem.F.plainAttrs_list PySem.F.slot_list_remove PySem.F.type_list_remove mt_remove (fun W r h m G s H a v b u Q at_ ra rb o => by
    obtain ⟨l, ds, p, xs, rfl, i, hp, z, w, o⟩ := onC_ok at_ ra o
    cases e1 : allOf asI ds with
    | none => rw [e1] at o; exact o.elim
    | some ns =>
      rw [e1] at o
      obtain ⟨k, rfl⟩ : ∃ j, b = .int j := by cases b <;> first | exact ⟨_, rfl⟩ | exact o.elim
      have ev : u = V.int k := rb
      subst ev
      dsimp only at o
      cases e2 : fstI k ns with
      | none => rw [e2] at o; exact o.elim
      | some j =>
        rw [e2] at o
        obtain ⟨g1, g2⟩ := fstI_ok e2
        have e3 := allOf_map (c := Val.int) (fun d a => asI_ok) e1
        subst e3
        have e4 := w.ints
        subst e4
        refine ⟨p, ns, k, j, rfl, rfl, hp, g1, g2, ?_⟩
        have e5 : (ns.map V.int).eraseIdx j = (ns.eraseIdx j).map V.int := map_del V.int ns j
        rw [← e5]
        exact o.setL at_ i (Nat.le_trans (len_del _ _) z) (w.erase j) rfl) ho he hbase hfew hline hs hplain
theorem se_count (ho : SE X o x) (he : SE X e y) (hbase : attributeBase o "count" X.env (eval o X.env) = eval o X.env := by rfl)
    (hfew : ((backTo cpos (starEach [e] X.env)).all (fun x => !x.1) && (backToKw cpos (keywordEach [] X.env)).all (fun x => x.1.isSome) && decide (([e] : List Expr).length + ([] : List Keyword).length + (if ([] : List Keyword).isEmpty then 0 else 1) < 30)) = true := by rfl)
    (hline : (apos.endLine == cpos.line) = true := by rfl) (hs : starEach [e] X.env = (false, eval e X.env) :: starEach [] X.env := by rfl) (hplain : (backTo cpos (starEach [] X.env)).any (·.1) = false := by rfl) : SE X (.Call (.Attribute o "count" apos) [e] [] cpos) (mt1 "list" cntF x y) :=
  se_m1 PySem.F.plainAttrs_list PySem.F.slot_list_count PySem.F.type_list_count mt_lcount (fun W r h m G s H a v b u Q at_ ra rb o => by
    unfold cntF at o
    cases e0 : asL h a with
    | none => rw [e0] at o; exact o.elim
    | some ds =>
      rw [e0] at o
      obtain ⟨k, rfl⟩ : ∃ j, b = .int j := by cases b <;> first | exact ⟨_, rfl⟩ | exact o.elim
      have ev : u = V.int k := rb
      subst ev
      dsimp only at o
      cases e1 : allOf asI ds with
      | none => rw [e1] at o; exact o.elim
      | some ns =>
        rw [e1] at o
        have e3 := allOf_map (c := Val.int) (fun d a => asI_ok) e1
        subst e3
        obtain ⟨p, xs, rfl, s1, z, w⟩ := asL_ok at_ ra e0
        have e4 := w.ints
        subst e4
        exact ⟨p, ns, k, rfl, rfl, s1, o.sameV at_ rfl⟩) ho he hbase hfew hline hs hplain
end

/-! ### texts -/
def splitF (h : Hs) (a b : Val) : R Val := match a, b with
  | .str z, .str y => gd ((y.length == 0) = false ∧ z.length + 2 ≤ sizeLine) (.ok (.tl ((Txt.split z y).map .str)) h)
  | _, _ => .no
def joinF (h : Hs) (a b : Val) : R Val := match a, asQ h b with
  | .str z, some ds => match allOf asS ds with
    | some ys => gd ((ys.map (·.length)).sum + ys.length * z.length ≤ 16777216) (.ok (.str (Txt.join z ys)) h)
    | none => .no
  | _, _ => .no
section
variable {X : Cx} {o e : Expr} {x y : EM} {apos cpos : Pos}
theorem se_split (ho : SE X o x) (he : SE X e y) (hs : starEach [e] X.env = [(false, eval e X.env)] := by rfl) (hbase : attributeBase o "split" X.env (eval o X.env) = eval o X.env := by rfl) (hline : (apos.endLine == cpos.line) = true := by rfl) : SE X (.Call (.Attribute o "split" apos) [e] [] cpos) (mt1 "str" splitF x y) :=
  ⟨fun W tk => (pe_split (ho.run W tk) (he.run W tk) hs hbase hline).imp fun s H Q ⟨r, h, m, G, a, o⟩ => step mono_V a o fun d h1 m1 G1 H1 v a1 k1 ⟨rl, _⟩ o1 => by
    obtain ⟨c, o1⟩ := o1.gd
    obtain ⟨z, rfl⟩ : ∃ z, d = .str z := by cases d <;> first | exact ⟨_, rfl⟩ | cases c
    have ev : v = .str z := rl
    subst ev
    refine ⟨⟨z, rfl⟩, step mono_V a1 o1 fun d2 h2 m2 G2 H2 v2 a2 k2 ⟨rl2, _⟩ o2 => ?_⟩
    obtain ⟨w, rfl⟩ : ∃ z, d2 = .str z := by cases d2 <;> first | exact ⟨_, rfl⟩ | exact o2.elim
    have ev : v2 = .str w := rl2
    subst ev
    obtain ⟨⟨c1, c2⟩, o2⟩ := o2.gd
    exact ⟨z, w, rfl, rfl, c1, c2, fun p hp => Out.tmpL a2 o2 (by rw [List.length_map]; exact Nat.le_trans (PyProof.Rows.split_le z w) c2) rvs_strs p hp⟩⟩
theorem se_join (ho : SE X o x) (he : SE X e y) (hs : starEach [e] X.env = [(false, eval e X.env)] := by rfl) (hbase : attributeBase o "join" X.env (eval o X.env) = eval o X.env := by rfl) (hline : (apos.endLine == cpos.line) = true := by rfl) : SE X (.Call (.Attribute o "join" apos) [e] [] cpos) (mt1 "str" joinF x y) :=
  ⟨fun W tk => (pe_join (ho.run W tk) (he.run W tk) hs hbase hline).imp fun s H Q ⟨r, h, m, G, a, o⟩ => step mono_V a o fun d h1 m1 G1 H1 v a1 k1 ⟨rl, _⟩ o1 => by
    obtain ⟨c, o1⟩ := o1.gd
    obtain ⟨z, rfl⟩ : ∃ z, d = .str z := by cases d <;> first | exact ⟨_, rfl⟩ | cases c
    have ev : v = .str z := rl
    subst ev
    refine ⟨⟨z, rfl⟩, step mono_V a1 o1 fun d2 h2 m2 G2 H2 v2 a2 k2 ⟨rl2, _⟩ o2 => ?_⟩
    unfold joinF at o2
    cases e1 : asQ h2 d2 with
    | none => simp only [e1] at o2; exact o2.elim
    | some ds =>
      simp only [e1] at o2
      cases e2 : allOf asS ds with
      | none => simp only [e2] at o2; exact o2.elim
      | some ys =>
        simp only [e2] at o2
        obtain ⟨c, o2⟩ := o2.gd
        have e3 := allOf_map (c := Val.str) (fun d a => asS_ok) e2
        subst e3
        obtain ⟨p, xs, rfl, s1, z1, w1⟩ := asQ_ok a2 rl2 e1
        have e4 := w1.strs
        subst e4
        exact ⟨z, p, ys, rfl, rfl, s1, c, o2.sameV a2 rfl⟩⟩
end
end Rg
namespace Rg
open PySem PySem.Spec PyProof.Rows L2

/-! ### o[i] = e -/
def putD (kvs : List (Key × Val)) (k : Key) (v : Val) : List (Key × Val) :=
  if (kvs.any fun kv => decide (kv.1 = k)) = true then kvs.map (fun kv => if kv.1 = k then (kv.1, v) else kv) else kvs ++ [(k, v)]
def stF (h : Hs) (o i d : Val) : Option Hs := match cellL h o, i with
  | some (l, ds), .int k => match ixN ds.length k with
    | some j => some (h.set l (.lst (ds.set j d)))
    | none => none
  | some _, _ => none
  | none, i => match cellD h o, keyOf i with
    | some (l, kvs), some k => if kvs.length < sizeLine then some (h.set l (.dct (putD kvs k d))) else none
    | _, _ => none
/-- the place, the index, the store -/
def stG (o i : EM) (r : Sl) (h : Hs) (d : Val) : SR := (o r h).thenS r fun a h1 => (i r h1).thenS r fun b h2 => match stF h2 a b d with
  | some h3 => .nx r h3
  | none => .no
def stS (o i x : EM) : SM := fun r h => (x r h).thenS r fun d h1 => if isTmp d = true then .no else stG o i r h1 d
/-- o[i], name = a pair -/
def stnS (o i : EM) (n : Nat) (x : EM) : SM := fun r h => (x r h).thenS r fun d h1 => match d with
  | .tup [a, b] => match stG o i r h1 a with
    | .nx r2 h2 => .nx (r2.set n (some b)) h2
    | z => z
  | _ => .no
section
variable {K : PySem.W.Frag} {mg : Str → Option Value} {W : WX} {G H : Hp} {m : List Addr} {h : Hs} {r : Sl} {s : L2.St}
theorem put_keys {kvs : List (Key × Val)} {kxs : List (Key × V)} {k : Key} {d : Val} {v : V} (e : kxs.map (·.1) = kvs.map (·.1)) (q : RVs K G m (kvs.map (·.2)) (kxs.map (·.2))) (qd : RV K G m d v) :
    (putK kxs k v).map (·.1) = (putD kvs k d).map (·.1) ∧ RVs K G m ((putD kvs k d).map (·.2)) ((putK kxs k v).map (·.2)) := by
  have any : (kxs.any fun kv => decide (kv.1 = k)) = (kvs.any fun kv => decide (kv.1 = k)) := by
    have h1 : (kxs.any fun kv => decide (kv.1 = k)) = ((kxs.map (·.1)).any fun z => decide (z = k)) := by rw [List.any_map]; rfl
    have h2 : (kvs.any fun kv => decide (kv.1 = k)) = ((kvs.map (·.1)).any fun z => decide (z = k)) := by rw [List.any_map]; rfl
    rw [h1, h2, e]
  unfold putK putD
  rw [any]
  by_cases c : (kvs.any fun kv => decide (kv.1 = k)) = true
  · rw [if_pos c, if_pos c]
    clear any c
    induction kvs generalizing kxs with
    | nil => cases kxs with
      | nil => exact ⟨rfl, rfl⟩
      | cons _ _ => cases e
    | cons p ps ih => cases kxs with
      | nil => cases e
      | cons y ys =>
        have e1 : y.1 = p.1 := (List.cons.inj e).1
        obtain ⟨x, xs, ex, q1, q2⟩ := q
        have ex1 := (List.cons.inj ex).1
        have ex2 := (List.cons.inj ex).2
        rw [← ex2] at q2
        obtain ⟨i1, i2⟩ := ih (List.cons.inj e).2 q2
        simp only [List.map_cons]
        by_cases c : p.1 = k
        · rw [if_pos c, if_pos (e1.trans c)]
          exact ⟨by rw [i1, e1], v, _, rfl, qd, i2⟩
        · rw [if_neg c, if_neg (fun z => c (e1.symm.trans z))]
          exact ⟨by rw [i1, e1], y.2, _, rfl, (show y.2 = x from ex1) ▸ q1, i2⟩
  · rw [if_neg c, if_neg c]
    simp only [List.map_append, e]
    exact ⟨rfl, q.append ⟨v, [], rfl, qd, rfl⟩⟩
theorem put_len {kxs : List (Key × V)} {k : Key} {v : V} (z : kxs.length < sizeLine) : (putK kxs k v).length ≤ sizeLine := by
  unfold putK
  split
  · rw [List.length_map]; omega
  · rw [List.length_append]; simp; omega
/-- the store -/
theorem stF_ok {o i d : Val} {ov iv v : V} {h3 : Hs} {Q : Hp → Prop} (a : At K r h m G s H) (qo : RP K G m H o ov) (qi : RP K G m H i iv) (qd : RV K G m d v) (e : stF h o i d = some h3)
    (n : ∀ G3 H3, Kp m G H m G3 H3 → RH K h3 m G3 → Q H3) : rSetL ov iv v H Q ∨ rSetD ov iv v H Q := by
  unfold stF at e
  cases e1 : cellL h o with
  | some w =>
    obtain ⟨l, ds⟩ := w
    simp only [e1] at e
    obtain ⟨k, rfl⟩ : ∃ k, i = .int k := by cases i <;> first | exact ⟨_, rfl⟩ | cases e
    dsimp only at e
    obtain ⟨p, xs, _, _, rfl, ip, hp, z, w⟩ := cellL_ok a qo e1
    have ev : iv = V.int k := qi
    subst ev
    cases e2 : ixN ds.length k with
    | none => rw [e2] at e; cases e
    | some j =>
      rw [e2] at e
      cases e
      refine .inl ⟨p, xs, k, j, rfl, rfl, hp, by rw [← w.length]; exact e2, ?_⟩
      have im : p ∈ m := List.mem_of_getElem? ip
      have st : Sty m G m (upd G p (.lst (xs.set j v))) := sty_set a.h im
      exact n _ _ (kp_set a.e a.h im) (a.h.set ip trivial ⟨_, upd_same, by rw [List.length_set]; exact z, RVs.stay st (w.set j qd)⟩)
  | none =>
    simp only [e1] at e
    cases e2 : cellD h o with
    | none => simp only [e2] at e; cases e
    | some w =>
      obtain ⟨l, kvs⟩ := w
      simp only [e2] at e
      cases e3 : keyOf i with
      | none => simp only [e3] at e; cases e
      | some k =>
        simp only [e3] at e
        obtain ⟨p, xs, _, _, rfl, ip, hp, z, y, w⟩ := cellD_ok a qo e2
        have le : xs.length = kvs.length := by have := congrArg List.length y; simpa using this
        by_cases c : kvs.length < sizeLine
        · rw [if_pos c] at e
          cases e
          have im : p ∈ m := List.mem_of_getElem? ip
          have st : Sty m G m (upd G p (.dK (putK xs k v))) := sty_set a.h im
          obtain ⟨p1, p2⟩ := put_keys (k := k) y w qd
          refine .inr ⟨p, _, rfl, .inl ⟨xs, k, hp, keyOf_ok qi e3, by omega, rfl⟩, n _ _ (kp_set a.e a.h im) (a.h.set ip trivial ⟨_, upd_same, put_len (by omega), p1, RVs.stay st p2⟩)⟩
        · rw [if_neg c] at e; cases e
end
theorem pset_or {X : Cx} {t t' : TSet} (p : PSet X t) (q : PSet X t') : PSet X (fun o i v H Q => t o i v H Q ∨ t' o i v H Q) := fun pins s σ H o i v ov iv u Q I ro ri rv h =>
  h.elim (fun h => p pins s σ H o i v ov iv u Q I ro ri rv h) fun h => q pins s σ H o i v ov iv u Q I ro ri rv h
section
variable {X : Cx} {o i e : Expr} {x y z : EM} {pos tpos : Pos} {k : Nat}
/-- the store's reading -/
theorem stG_ok {K : PySem.W.Frag} {mg : Str → Option Value} {W : WX} {G H : Hp} {m : List Addr} {h : Hs} {r : Sl} {s : L2.St} {d : Val} {v : V} {Q : L2.St → Hp → Prop} {D : Ends} (a : At K r h m G s H) (qd : RV K G m d v) {kk : Sl → Hs → SR}
    (o : OutS K mg W m G H D (match stG y z r h d with | .nx r2 h2 => kk r2 h2 | w => w)) (n : ∀ h3 m3 G3 H3, At K r h3 m3 G3 s H3 → Kp m G H m3 G3 H3 → OutS K mg W m3 G3 H3 D (kk r h3) → Q s H3) :
    gSub (tE K mg W y) (tE K mg W z) (fun o i v H Q => rSetL o i v H Q ∨ rSetD o i v H Q) v s H Q := by
  refine ⟨r, h, m, G, a, ?_⟩
  unfold stG at o
  cases e1 : y r h with
  | no => rw [e1] at o; exact o
  | rz w h' => rw [e1] at o; exact fun m' G' H' c dd kp rh rx => o m' G' H' s c dd kp rh (a.kp kp rh).s rx
  | ok ov h1 =>
    rw [e1] at o
    intro m1 G1 H1 va k1 rh1 ⟨rl1, _⟩
    have a1 := a.kp k1 rh1
    refine ⟨r, h1, m1, G1, a1, ?_⟩
    have o1 := OutS.shift o k1 a.e a.h rh1
    unfold R.thenS at o1
    cases e2 : z r h1 with
    | no => simp only [e2] at o1; exact o1
    | rz w h' => simp only [e2] at o1; exact fun m' G' H' c dd kp rh rx => o1 m' G' H' s c dd kp rh (a1.kp kp rh).s rx
    | ok iv h2 =>
      simp only [e2] at o1
      intro m2 G2 H2 vb k2 rh2 ⟨rl2, _⟩
      have a2 := a1.kp k2 rh2
      have o2 := OutS.shift o1 k2 a1.e a1.h rh2
      cases e3 : stF h2 ov iv d with
      | none => simp only [e3] at o2; exact o2.elim
      | some h3 =>
        simp only [e3] at o2
        have k12 := k1.trans k2 a.e a.h
        refine stF_ok a2 (RP.stay k2 a1.e a1.h rl1) rl2 (RV.stay (k12.sty a.e a.h) qd) e3 fun G3 H3 k3 rh3 => ?_
        exact n h3 m2 G3 H3 (a2.kp k3 rh3) (k12.trans k3 a.e a.h) (OutS.shift o2 k3 a2.e a2.h rh3)
theorem ss_store (hr : Room k X.A) (ho : SE X o y) (hi : SE X i z) (he : SE X e x) (ha : ∀ v, assign (.Subscript o i tpos) X.env v = (do
      let ov ← holding [v] (eval o X.env)
      let iv ← holding [v, ov] (eval i X.env)
      standAt tpos
      holding [v, ov, iv] (setItem ov iv v)
      release [v, ov, iv] []) := by exact fun _ => rfl) (hs : swapsWithSole [.Subscript o i tpos] e pos.line X.env = pure false := by rfl) (hw : swappedStores [.Subscript o i tpos] e X.env = pure none := by rfl)
    (h1 : (assignEach [.Subscript o i tpos] X.env).map (·.2) = [assign (.Subscript o i tpos) X.env] := by rfl) : SS X (.Assign [.Subscript o i tpos] e pos) (stS y z x) := ⟨fun W tk =>
  (ps_asg (he.run W tk) (pg_sub (ho.run W tk) (hi.run W tk) (pset_or set_list (set_dict (hu_of hr))) ha) hs hw h1).imp fun D s H ⟨r, h, m, G, a, o⟩ =>
  stepS a o fun d h1 m1 G1 H1 v a1 k1 rl o1 => by
    by_cases c : isTmp d = true
    · rw [if_pos c] at o1; exact o1.elim
    · rw [if_neg c] at o1
      refine stG_ok (kk := fun r h => .nx r h) (D := D) a1 (RP.rv rl.1 (by simpa using c)) (by cases e : stG y z r h1 d <;> rw [e] at o1 <;> exact o1) fun h3 m3 G3 H3 a3 k3 o3 => o3.nx a3⟩
theorem ss_stn (n : Nat) {nm : Str} {np tp : Pos} {kk : Nat} (hc : X.calm = true) (hN : X.N.Nodup) (hr : Room k X.A) (ho : SE X o y) (hi : SE X i z) (he : SE X e x) (hx : X.N[n]? = some nm := by rfl) (hl : Loc X.env.scope nm := by first | exact Or.inl rfl | exact Or.inr rfl) (hf : X.fn nm = true ∨ X.env.scope.names.lookup nm = some .local := by first | exact .inl rfl | exact .inr rfl) (ha : ∀ v, assign (.Subscript o i tpos) X.env v = (do
      let ov ← holding [v] (eval o X.env)
      let iv ← holding [v, ov] (eval i X.env)
      standAt tpos
      holding [v, ov, iv] (setItem ov iv v)
      release [v, ov, iv] []) := by exact fun _ => rfl) (hs : swapsWithSole [.Tuple [.Subscript o i tpos, .Name nm np] kk tp] e pos.line X.env = pure false := by rfl) (hw : swappedStores [.Tuple [.Subscript o i tpos, .Name nm np] kk tp] e X.env = pure none := by rfl)
    (h1 : (assignEach [.Tuple [.Subscript o i tpos, .Name nm np] kk tp] X.env).map (·.2) = [assign (.Tuple [.Subscript o i tpos, .Name nm np] kk tp) X.env] := by rfl)
    (hst : (assignEach [.Subscript o i tpos, .Name nm np] X.env).findIdx? (·.1) = none := by rfl) (hn : (assignEach [.Subscript o i tpos, .Name nm np] X.env).length = 2 := by rfl)
    (hc1 : (assignEach [.Subscript o i tpos, .Name nm np] X.env).map (·.2) = assign (.Subscript o i tpos) X.env :: (assignEach [.Name nm np] X.env).map (·.2) := by rfl) (hc2 : (assignEach [.Name nm np] X.env).map (·.2) = assign (.Name nm np) X.env :: (assignEach [] X.env).map (·.2) := by rfl) :
    SS X (.Assign [.Tuple [.Subscript o i tpos, .Name nm np] kk tp] e pos) (stnS y z n x) := ⟨fun W tk =>
  (ps_asg (he.run W tk) (pg_tup hc (pgs_cons (pg_sub (ho.run W tk) (hi.run W tk) (pset_or set_list (set_dict (hu_of hr))) ha) (pgs_cons (pg_name hN hx hl hf) pgs_nil hc2) hc1) hn hst) hs hw h1).imp fun D s H ⟨r, h, m, G, a, o⟩ =>
  stepS a o fun d h1 m1 G1 H1 v a1 k1 rl o1 => by
    replace rl := rl.1
    cases d with
    | tup ds =>
      match ds, o1, rl with
      | [da, db], o1, rl =>
        obtain ⟨p, xs, rfl, s1, z1, w1⟩ := asT_ok a1 (d := .tup [da, db]) rl rfl
        obtain ⟨va, vs, rfl, q1, w2⟩ := w1
        obtain ⟨vb, vs', rfl, q2, w3⟩ := w2
        have : vs' = [] := w3
        subst this
        refine ⟨p, [va, vb], rfl, s1, rfl, va, [vb], rfl, ?_⟩
        refine stG_ok (kk := fun r h => .nx (r.set n (some db)) h) (D := D) a1 q1 (by dsimp only at o1; cases e : stG y z r h1 da <;> rw [e] at o1 <;> exact o1) fun h3 m3 G3 H3 a3 k3 o3 => ?_
        exact ⟨vb, [], rfl, rfl, o3 m3 G3 H3 _ (Kp.refl a3.e) a3.h (RS.set a3.s n (RV.stay (k3.sty a1.e a1.h) q2))⟩
      | [], o1, _ => exact o1.elim
      | [_], o1, _ => exact o1.elim
      | _ :: _ :: _ :: _, o1, _ => exact o1.elim
    | _ => exact o1.elim⟩
end
end Rg
namespace Rg
open PySem PySem.Spec PyProof.Rows L2

/-! ### what is walked: enumerate, zip, reversed -/
/-- of a list (true), of a tuple (false) -/
def seqV (h : Hs) : Val → Option (Bool × ItV)
  | .ref l => match h[l]? with
    | some (.lst ds) => some (true, itC l ds.length)
    | _ => none
  | .lst ds => some (true, itL ds)
  | .tl ds => some (true, itL ds)
  | .tup ds => some (false, itL ds)
  | _ => none
section
variable {K : PySem.W.Frag} {mg : Str → Option Value} {W : WX} {G H : Hp} {m : List Addr} {h : Hs} {r : Sl} {s : L2.St}
theorem seqV_ok {d : Val} {v : V} {b : Bool} {it : ItV} (a1 : At K r h m G s H) (rl : RP K G m H d v) (e : seqV h d = some (b, it)) :
    ∃ p, v = .ref p ∧ (b = true → (∃ xs, SqL K H p xs) ∧ ItOk K m G H it (Itl K p)) ∧ (b = false → (∃ xs, SqT K H p xs) ∧ ItOk K m G H it (Itt K p)) := by
  cases d with
  | lst ds =>
    cases e
    obtain ⟨p, xs, rfl, t, z, w⟩ := rl
    have st : ∀ m' G' H', Kp m G H m' G' H' → SqL K H' p xs := by
      rcases t with ⟨t, n⟩ | t
      · exact kpSqL a1.h a1.e n (.inl (ex_rd a1.e t))
      · exact fun _ _ _ _ => .inr t
    have s2 := st _ _ _ (Kp.refl a1.e)
    exact ⟨p, rfl, fun _ => ⟨⟨xs, s2⟩, itL_list a1.h a1.e ⟨p, xs, rfl, t, z, w⟩ z s2 w st⟩, fun z => nomatch z⟩
  | tl ds =>
    cases e
    obtain ⟨p, xs, rfl, e1, e2, z, w⟩ := rl
    have s2 : SqL K H p xs := .inl (.inl e1)
    have n : p ∉ m := fun i => a1.h.some i e2
    have st := kpSqL a1.h a1.e n s2
    refine ⟨p, rfl, fun _ => ⟨⟨xs, s2⟩, ?_⟩, fun z => nomatch z⟩
    refine ⟨by show ds.length ≤ sizeLine; rw [w.length]; exact z, fun h' m' G' H' k rh' i => ⟨fun e1 => ⟨xs, st _ _ _ k, ?_⟩, fun d e1 => ?_⟩⟩
    · have : ds[i]? = none := Option.some.inj e1
      rw [← w.length]; exact List.getElem?_eq_none_iff.mp this
    · have e2 : ds[i]? = some d := Option.some.inj e1
      obtain ⟨x, e3, q⟩ := w.get e2
      have s2 := st _ _ _ k
      refine ⟨⟨xs, x, s2, e3⟩, fun x' H'' y => ?_⟩
      obtain ⟨rfl, y⟩ := y
      have : x' = x := Option.some.inj ((y xs s2).symm.trans e3)
      subst this
      exact ⟨G', Kp.refl k.e, rh', RV.stay (k.sty a1.e a1.h) q⟩
  | ref l =>
    unfold seqV at e
    dsimp only at e
    obtain ⟨p, rfl, i0⟩ := rl
    cases e1 : h[l]? with
    | none => rw [e1] at e; cases e
    | some ob =>
      rw [e1] at e
      cases ob with
      | dct _ => cases e
      | lst ds =>
        cases e
        obtain ⟨xs, e2, z, w⟩ := a1.h.ob l _ p e1 i0
        exact ⟨p, rfl, fun _ => ⟨⟨xs, .inl (.inl (a1.e _ _ e2))⟩, itC_list (xs := xs) a1.h (by rw [w.length]; exact z) i0⟩, fun z => nomatch z⟩
  | tup ds =>
    cases e
    obtain ⟨p, xs, rfl, s1, z, w⟩ := asT_ok a1 (d := .tup ds) rl rfl
    exact ⟨p, rfl, (fun z => nomatch z), fun _ => ⟨⟨xs, s1⟩, itL_tup a1.h a1.e z w (kpSqT a1.h a1.e s1)⟩⟩
  | _ => cases e
end
/-- with the numbers -/
def enV (it : ItV) : ItV := ⟨it.n, fun h i => (it.at_ h i).map fun o => o.map fun d => .tup [.int (i : Nat), d]⟩
def zpV (a b : ItV) : ItV := ⟨min a.n b.n, fun h i => match a.at_ h i, b.at_ h i with
  | some (some d), some (some e) => some (some (.tup [d, e]))
  | some _, some _ => some none
  | _, _ => none⟩
section
variable {K : PySem.W.Frag} {G H : Hp} {m : List Addr}
theorem pair_ok {m' : List Addr} {G' H' : Hp} {h' : Hs} {T : Addr} {d e : Val} {x y : V} (eh : Ex G' H') (rh : RH K h' m' G') (hT : H' T = none) (q1 : RV K G' m' d x) (q2 : RV K G' m' e y) :
    ∃ G'', Kp m' G' H' m' G'' (upd H' T (.tup [x, y])) ∧ RH K h' m' G'' ∧ RV K G'' m' (.tup [d, e]) (.ref T) := by
  have gn := Ex.none eh hT
  have st := sty_new (o := .tup [x, y]) rh gn
  exact ⟨upd G' T (.tup [x, y]), kp_new eh hT, rh.new gn, T, [x, y], rfl, .inl upd_same, (by show 2 ≤ sizeLine; decide), x, [y], rfl, RV.stay st q1, y, [], rfl, RV.stay st q2, rfl⟩
theorem ItOk.enum {it : ItV} {p : Addr} (o : ItOk K m G H it (Itl K p)) : ItOk K m G H (enV it) (Ite K p) := ⟨o.n, fun h' m' G' H' k rh i => by
  obtain ⟨stop, go⟩ := o.ok h' m' G' H' k rh i
  show (((it.at_ h' i).map fun o => o.map fun d => Val.tup [.int (i : Nat), d]) = some none → _) ∧ ∀ d, ((it.at_ h' i).map fun o => o.map fun d => Val.tup [.int (i : Nat), d]) = some (some d) → _
  cases e : it.at_ h' i with
  | none => exact ⟨fun z => (by cases z), fun d z => (by cases z)⟩
  | some od =>
    cases od with
    | none => exact ⟨fun _ => stop e, fun d z => (by cases z)⟩
    | some d =>
      refine ⟨fun z => (by cases z), fun d' z => ?_⟩
      cases z
      obtain ⟨g, y⟩ := go d e
      refine ⟨g, fun x H'' ⟨T, u, ex, hT, eH, hu⟩ => ?_⟩
      subst ex eH
      obtain ⟨G2, k2, rh2, q⟩ := y u H' ⟨rfl, hu⟩
      obtain ⟨G3, k3, rh3, q3⟩ := pair_ok (d := .int (i : Nat)) (x := .int (i : Nat)) k2.e rh2 hT rfl q
      exact ⟨G3, k2.trans k3 k.e rh, rh3, q3⟩⟩
theorem ItOk.zipL {a b : ItV} {p q : Addr} {h0 : Hs} (e0 : Ex G H) (r0 : RH K h0 m G) (o1 : ItOk K m G H a (Itl K p)) (o2 : ItOk K m G H b (Itl K q)) : ItOk K m G H (zpV a b) (Itz K p q) := ⟨Nat.le_trans (Nat.min_le_left _ _) o1.n, fun h' m' G' H' k rh i => by
  obtain ⟨stop1, go1⟩ := o1.ok h' m' G' H' k rh i
  obtain ⟨stop2, go2⟩ := o2.ok h' m' G' H' k rh i
  unfold zpV
  dsimp only
  cases e1 : a.at_ h' i with
  | none => exact ⟨fun z => (by cases z), fun d z => (by cases z)⟩
  | some od =>
    cases e2 : b.at_ h' i with
    | none => cases od <;> exact ⟨fun z => (by cases z), fun d z => (by cases z)⟩
    | some oe =>
      cases od with
      | none =>
        obtain ⟨xs, s1, l1⟩ := stop1 e1
        cases oe with
        | none =>
          obtain ⟨ys, s2, l2⟩ := stop2 e2
          exact ⟨fun _ => ⟨xs, ys, s1, s2, .inl l1⟩, fun d z => (by cases z)⟩
        | some e =>
          obtain ⟨⟨ys, y, s2, l2⟩, _⟩ := go2 e e2
          exact ⟨fun _ => ⟨xs, ys, s1, s2, .inl l1⟩, fun d z => (by cases z)⟩
      | some d =>
        obtain ⟨⟨xs, x, s1, l1⟩, y1⟩ := go1 d e1
        cases oe with
        | none =>
          obtain ⟨ys, s2, l2⟩ := stop2 e2
          exact ⟨fun _ => ⟨xs, ys, s1, s2, .inr l2⟩, fun d z => (by cases z)⟩
        | some e =>
          obtain ⟨⟨ys, y, s2, l2⟩, y2⟩ := go2 e e2
          refine ⟨fun z => (by cases z), fun d' z => ?_⟩
          cases z
          refine ⟨⟨xs, ys, x, y, s1, s2, l1, l2⟩, fun w H'' ⟨T, u, t, ex, hT, eH, hu, ht⟩ => ?_⟩
          subst ex eH
          obtain ⟨G2, k2, rh2, q2⟩ := y1 u H' ⟨rfl, hu⟩
          obtain ⟨G3, k3, rh3, q3⟩ := (o2.ok h' m' G2 H' (k.trans k2 e0 r0) rh2 i).2 e e2 |>.2 t H' ⟨rfl, ht⟩
          have q2' := RV.stay (k3.sty k2.e rh2) q2
          obtain ⟨G4, k4, rh4, q4⟩ := pair_ok k3.e rh3 hT q2' q3
          exact ⟨G4, (k2.trans k3 k.e rh).trans k4 k.e rh, rh4, q4⟩⟩
theorem ItOk.zipT {a b : ItV} {p q : Addr} {h0 : Hs} (e0 : Ex G H) (r0 : RH K h0 m G) (o1 : ItOk K m G H a (Itt K p)) (o2 : ItOk K m G H b (Itt K q)) : ItOk K m G H (zpV a b) (RZ.ItzT K p q) := ⟨Nat.le_trans (Nat.min_le_left _ _) o1.n, fun h' m' G' H' k rh i => by
  obtain ⟨stop1, go1⟩ := o1.ok h' m' G' H' k rh i
  obtain ⟨stop2, go2⟩ := o2.ok h' m' G' H' k rh i
  unfold zpV
  dsimp only
  cases e1 : a.at_ h' i with
  | none => exact ⟨fun z => (by cases z), fun d z => (by cases z)⟩
  | some od =>
    cases e2 : b.at_ h' i with
    | none => cases od <;> exact ⟨fun z => (by cases z), fun d z => (by cases z)⟩
    | some oe =>
      cases od with
      | none =>
        obtain ⟨xs, s1, l1⟩ := stop1 e1
        cases oe with
        | none =>
          obtain ⟨ys, s2, l2⟩ := stop2 e2
          exact ⟨fun _ => ⟨xs, ys, s1, s2, .inl l1⟩, fun d z => (by cases z)⟩
        | some e =>
          obtain ⟨⟨ys, y, s2, l2⟩, _⟩ := go2 e e2
          exact ⟨fun _ => ⟨xs, ys, s1, s2, .inl l1⟩, fun d z => (by cases z)⟩
      | some d =>
        obtain ⟨⟨xs, x, s1, l1⟩, y1⟩ := go1 d e1
        cases oe with
        | none =>
          obtain ⟨ys, s2, l2⟩ := stop2 e2
          exact ⟨fun _ => ⟨xs, ys, s1, s2, .inr l2⟩, fun d z => (by cases z)⟩
        | some e =>
          obtain ⟨⟨ys, y, s2, l2⟩, y2⟩ := go2 e e2
          refine ⟨fun z => (by cases z), fun d' z => ?_⟩
          cases z
          refine ⟨⟨xs, ys, x, y, s1, s2, l1, l2⟩, fun w H'' ⟨T, u, t, ex, hT, eH, hu, ht⟩ => ?_⟩
          subst ex eH
          obtain ⟨G2, k2, rh2, q2⟩ := y1 u H' ⟨rfl, hu⟩
          obtain ⟨G3, k3, rh3, q3⟩ := (o2.ok h' m' G2 H' (k.trans k2 e0 r0) rh2 i).2 e e2 |>.2 t H' ⟨rfl, ht⟩
          have q2' := RV.stay (k3.sty k2.e rh2) q2
          obtain ⟨G4, k4, rh4, q4⟩ := pair_ok k3.e rh3 hT q2' q3
          exact ⟨G4, (k2.trans k3 k.e rh).trans k4 k.e rh, rh4, q4⟩⟩
end
def enI (x : EM) : IM := fun r h => (x r h).bind fun d h1 => match seqV h1 d with
  | some (true, it) => .ok (enV it) h1
  | _ => .no
def zpI (x y : EM) : IM := fun r h => (x r h).bind fun d h1 => (y r h1).bind fun e h2 => match seqV h2 d, seqV h2 e with
  | some (b, it), some (c, jt) => if b = c then .ok (zpV it jt) h2 else .no
  | _, _ => .no
/-- reversed: of the items as they stand at the start -/
def rvI (x : EM) : IM := fun r h => (x r h).bind fun d h1 => match d with
  | .ref _ => .no
  | d => match asQ h1 d with
    | some ds => .ok (itL ds.reverse) h1
    | none => .no
section
variable {X : Cx} {e e2 : Expr} {x y : EM} {elts : List Expr} {kk : Nat} {tg : Expr} {p pos tpos : Pos}
theorem si_enum (hg : Gl X "enumerate") (hm : X.mg "enumerate" = none) (he : SE X e x) (hs : starEach [e] X.env = [(false, eval e X.env)] := by rfl) (hs2 : starEach [e] X.env = (false, eval e X.env) :: starEach [] X.env := by rfl) :
    SI X (.Tuple elts kk tpos) (.Call (.Name "enumerate" p) [e] [] pos) (enI x) := ⟨fun W tk => (pi_enum hg hm (pa_cons (he.run W tk) pa_nil hs2) hs).imp fun s H R ⟨r, h, m, G, a, o⟩ => by
  refine step mono_I a o fun d h1 m1 G1 H1 v a1 k1 rl o1 => ?_
  cases e1 : seqV h1 d with
  | none => rw [e1] at o1; exact o1.elim
  | some w =>
    obtain ⟨b, it⟩ := w
    rw [e1] at o1
    cases b with
    | false => exact o1.elim
    | true =>
      obtain ⟨q, rfl, c1, _⟩ := seqV_ok a1 rl.1 e1
      obtain ⟨⟨xs, s1⟩, ok⟩ := c1 rfl
      exact ⟨q, xs, rfl, s1, o1.same a1 ok.enum⟩⟩
theorem si_zip (hg : Gl X "zip") (hm : X.mg "zip" = none) (he : SE X e x) (he2 : SE X e2 y) (hs : starEach [e, e2] X.env = (false, eval e X.env) :: starEach [e2] X.env := by rfl) (hs2 : starEach [e2] X.env = (false, eval e2 X.env) :: starEach [] X.env := by rfl)
    (hpl : (backTo pos (starEach [e2] X.env)).any (·.1) = false := by rfl) :
    SI X (.Tuple elts kk tpos) (.Call (.Name "zip" p) [e, e2] [] pos) (zpI x y) := ⟨fun W tk => (RZ.pi_zipA hg hm (pa_cons (he.run W tk) (pa_cons (he2.run W tk) pa_nil hs2) hs) hs hpl).imp fun s H R ⟨r, h, m, G, a, o⟩ => by
  refine step mono_I a o fun d h1 m1 G1 H1 v a1 k1 rl o1 => ?_
  refine step mono_I a1 o1 fun d2 h2 m2 G2 H2 v2 a2 k2 rl2 o2 => ?_
  have rl1 := RP.stay k2 a1.e a1.h rl.1
  cases e1 : seqV h2 d with
  | none => simp only [e1] at o2; exact o2.elim
  | some w =>
    obtain ⟨b, it⟩ := w
    cases e3 : seqV h2 d2 with
    | none => simp only [e1, e3] at o2; exact o2.elim
    | some w2 =>
      obtain ⟨c, jt⟩ := w2
      simp only [e1, e3] at o2
      obtain ⟨q, rfl, c1, c2⟩ := seqV_ok a2 rl1 e1
      obtain ⟨q2, rfl, d1, d2⟩ := seqV_ok a2 rl2.1 e3
      by_cases z : b = c
      · rw [if_pos z] at o2
        subst z
        cases b with
        | true =>
          obtain ⟨⟨xs, s1⟩, ok1⟩ := c1 rfl
          obtain ⟨⟨ys, s2⟩, ok2⟩ := d1 rfl
          exact ⟨q, q2, xs, ys, rfl, .inl ⟨s1, s2, o2.same a2 (ItOk.zipL a2.e a2.h ok1 ok2)⟩⟩
        | false =>
          obtain ⟨⟨xs, s1⟩, ok1⟩ := c2 rfl
          obtain ⟨⟨ys, s2⟩, ok2⟩ := d2 rfl
          exact ⟨q, q2, xs, ys, rfl, .inr ⟨s1, s2, o2.same a2 (ItOk.zipT a2.e a2.h ok1 ok2)⟩⟩
      · rw [if_neg z] at o2; exact o2.elim⟩
end

/-! ### isinstance -/
def tyN (h : Hs) : Val → Option String
  | .non => some "NoneType"
  | .bl _ => some "bool"
  | .int _ => some "int"
  | .str _ => some "str"
  | .tup _ => some "tuple"
  | .lst _ => some "list"
  | .tl _ => some "list"
  | .dct _ _ => some "dict"
  | .td _ _ => some "dict"
  | .ref l => match h[l]? with
    | some (.lst _) => some "list"
    | some (.dct _) => some "dict"
    | none => none
def tys : List String := ["NoneType", "bool", "int", "str", "tuple", "list", "dict"]
def isTab (a b : String) : Bool := a == b || (a == "bool" && b == "int")
theorem tab_ok : ∀ a ∈ tys, ∀ b ∈ tys, kitB a b = some (isTab a b) := by decide +kernel
theorem tyN_in {h : Hs} {d : Val} {t : String} (e : tyN h d = some t) : t ∈ tys := by
  unfold tyN at e
  cases d <;> (try (cases e; decide)) 
  dsimp only at e
  split at e <;> first | (cases e; decide) | cases e
def isiF (T : String) (h : Hs) (d : Val) : R Val := match tyN h d with
  | some t => .ok (.bl (isTab t T)) h
  | none => .no
def isi2F (T U : String) (h : Hs) (d : Val) : R Val := match tyN h d with
  | some t => .ok (.bl (isTab t T || isTab t U)) h
  | none => .no
section
variable {K : PySem.W.Frag} {mg : Str → Option Value} {W : WX} {G H : Hp} {m : List Addr} {h : Hs} {r : Sl} {s : L2.St}
theorem tyN_ok {d : Val} {v : V} {t : String} (a : At K r h m G s H) (q : RP K G m H d v) (e : tyN h d = some t) : TyX K H v (.type t) := by
  have rd : ∀ {p : Addr} {xs : List V}, Rd H p (.lst xs) → TyX K H (.ref p) (.type "list") := fun z => by
    rcases z with z | ⟨o, z⟩
    · exact .base (.lst z)
    · exact .base (.frz z)
  cases d with
  | non => cases e; have ev : v = .non := q; subst ev; exact .base .non
  | bl b => cases e; have ev : v = .bl b := q; subst ev; exact .base (.bl _)
  | int b => cases e; have ev : v = .int b := q; subst ev; exact .base (.int _)
  | str b => cases e; have ev : v = .str b := q; subst ev; exact .base (.str _)
  | tup ds =>
    cases e
    obtain ⟨p, xs, rfl, t, _, _⟩ := q
    rcases t with t | ⟨_, o, its, n, e1, e2, _⟩
    · exact .base (.tup (a.e _ _ t))
    · exact .kTuple e1 e2
  | lst ds =>
    cases e
    obtain ⟨p, xs, rfl, t, _, _⟩ := q
    rcases t with ⟨t, _⟩ | ⟨o, its, n, e1, e2, _⟩
    · exact rd (ex_rd a.e t)
    · exact .kList e1 e2
  | tl ds =>
    cases e
    obtain ⟨p, xs, rfl, t, _⟩ := q
    exact .base (.lst t)
  | dct ks ds =>
    cases e
    obtain ⟨p, xs, rfl, t, _⟩ := q
    rcases ex_rd a.e t with t | ⟨o, t⟩
    · exact .base (.dK t)
    · exact .fDict t
  | td ks ds =>
    cases e
    obtain ⟨p, xs, rfl, t, _⟩ := q
    exact .base (.dK t)
  | ref l =>
    obtain ⟨p, rfl, i⟩ := q
    unfold tyN at e
    dsimp only at e
    cases o : h[l]? with
    | none => rw [o] at e; cases e
    | some ob =>
      rw [o] at e
      cases ob with
      | lst ds =>
        cases e
        obtain ⟨xs, e1, _⟩ := a.h.ob l _ p o i
        exact .base (.lst (a.e _ _ e1))
      | dct ds =>
        cases e
        obtain ⟨xs, e1, _⟩ := a.h.ob l _ p o i
        exact .base (.dK (a.e _ _ e1))
end
section
variable {X : Cx} {e : Expr} {x : EM} {n1 n2 : Str} {T U : String} {p p2 p3 pos tpos : Pos} {k : Nat}
theorem se_isi (hg : Gl X "isinstance") (hm : X.mg "isinstance" = none) (he : SE X e x) (hg2 : Gl X n1) (hm2 : X.mg n1 = none) (hv : bootBuiltins n1 = some (.type T)) (hT : T ∈ tys) (hn : n1 ≠ "__name__" := by decide) (hd : (n1 == ("__debug__" : Str)) = false := by decide)
    (hs : starEach [e, .Name n1 p2] X.env = (false, eval e X.env) :: starEach [.Name n1 p2] X.env := by rfl) (hs2 : starEach [.Name n1 p2] X.env = (false, eval (.Name n1 p2) X.env) :: starEach [] X.env := by rfl)
    (hpl : (backTo pos (starEach [.Name n1 p2] X.env)).any (·.1) = false := by rfl) :
    SE X (.Call (.Name "isinstance" p) [e, .Name n1 p2] [] pos) (op1 (isiF T) x) := ⟨fun W tk =>
  (pe_callB call_isi hg hm PyProof.Rows.boot_isinstance (pa_cons (he.run W tk) (pa_cons (pe_bltn (v := .ty T) hg2 hm2 hv rfl hn hd) pa_nil hs2) hs) (by decide) (by decide) hs hpl).imp fun s H Q ⟨r, h, m, G, a, o⟩ => by
    refine step mono_V a o fun d h1 m1 G1 H1 v a1 k1 ⟨rl, _⟩ o1 => ?_
    have o1 : Out X.K X.mg W (relV X.K) s m1 G1 H1 Q (isiF T h1 d) := o1
    unfold isiF at o1
    cases e1 : tyN h1 d with
    | none => rw [e1] at o1; exact o1.elim
    | some t =>
      rw [e1] at o1
      exact ⟨v, .ty T, .type t, .type T, _, rfl, .ty T, tyN_ok a1 rl e1, kit_ty (tab_ok t (tyN_in e1) T hT), o1.sameV a1 rfl⟩⟩
theorem se_isi2 (hg : Gl X "isinstance") (hm : X.mg "isinstance" = none) (he : SE X e x) (hg2 : Gl X n1) (hm2 : X.mg n1 = none) (hv : bootBuiltins n1 = some (.type T)) (hT : T ∈ tys) (hg3 : Gl X n2) (hm3 : X.mg n2 = none) (hv3 : bootBuiltins n2 = some (.type U)) (hU : U ∈ tys)
    (hn : n1 ≠ "__name__" := by decide) (hd : (n1 == ("__debug__" : Str)) = false := by decide) (hn2 : n2 ≠ "__name__" := by decide) (hd2 : (n2 == ("__debug__" : Str)) = false := by decide)
    (hs : starEach [e, .Tuple [.Name n1 p2, .Name n2 p3] k tpos] X.env = (false, eval e X.env) :: starEach [.Tuple [.Name n1 p2, .Name n2 p3] k tpos] X.env := by rfl) (hs2 : starEach [.Tuple [.Name n1 p2, .Name n2 p3] k tpos] X.env = (false, eval (.Tuple [.Name n1 p2, .Name n2 p3] k tpos) X.env) :: starEach [] X.env := by rfl)
    (hs3 : starEach [.Name n1 p2, .Name n2 p3] X.env = (false, eval (.Name n1 p2) X.env) :: starEach [.Name n2 p3] X.env := by rfl) (hs4 : starEach [.Name n2 p3] X.env = (false, eval (.Name n2 p3) X.env) :: starEach [] X.env := by rfl)
    (hpl : (backTo pos (starEach [.Tuple [.Name n1 p2, .Name n2 p3] k tpos] X.env)).any (·.1) = false := by rfl) :
    SE X (.Call (.Name "isinstance" p) [e, .Tuple [.Name n1 p2, .Name n2 p3] k tpos] [] pos) (op1 (isi2F T U) x) := ⟨fun W tk =>
  (pe_callB call_isiT hg hm PyProof.Rows.boot_isinstance (pa_cons (he.run W tk) (pa_cons (pe_tup (pa_cons (pe_bltn (v := .ty T) hg2 hm2 hv rfl hn hd) (pa_cons (pe_bltn (v := .ty U) hg3 hm3 hv3 rfl hn2 hd2) pa_nil hs4) hs3)) pa_nil hs2) hs) (by decide) (by decide) hs hpl).imp fun s H Q ⟨r, h, m, G, a, o⟩ => by
    refine step mono_V a o fun d h1 m1 G1 H1 v a1 k1 ⟨rl, _⟩ o1 => ?_
    have o1 : Out X.K X.mg W (relV X.K) s m1 G1 H1 Q (isi2F T U h1 d) := o1
    unfold isi2F at o1
    cases e1 : tyN h1 d with
    | none => rw [e1] at o1; exact o1.elim
    | some t =>
      rw [e1] at o1
      refine ⟨(by show 2 ≤ sizeLine; decide), fun q hq => ?_⟩
      have k2 : Kp m1 G1 H1 m1 G1 (upd H1 q (.tup [.ty T, .ty U])) := kp_tmp a1.e hq
      have a2 := a1.kp k2 a1.h
      refine ⟨v, q, [.ty T, .ty U], .type t, [.type T, .type U], _, rfl, upd_same, .cons (.ty T) (.cons (.ty U) .nil), tyN_ok a2 (RP.stay k2 a1.e a1.h rl) e1, kitAny_cons (kit_ty (tab_ok t (tyN_in e1) T hT)) (fun c => ?_) (fun c => ?_), (Out.shift mono_V o1 k2 a1.e a1.h a1.h).sameV a2 rfl⟩
      · rw [c, Bool.false_or]
        exact kitAny_cons (kit_ty (tab_ok t (tyN_in e1) U hU)) (fun c => by rw [c]; exact kitAny_nil) id
      · rw [c, Bool.true_or]⟩
end
end Rg
namespace Rg
open PySem PySem.Spec PyProof.Rows L2

/-! ### comparisons, as values, as tests, in chains -/
structure CP (X : Cx) (op : CmpOp) (f : Hs → Val → Val → R Val) : Prop where
  ex : ∃ t, OpR X (compareOp op) t ∧ P2 X.K X.mg t f
section
variable {X : Cx} {k : Nat}
theorem cp_eq (hr : Room k X.A) : CP X .Eq eqF := ⟨_, op_eq.or (op_eqD hr.units), (p2_scal fun _ _ _ _ _ _ _ x y _ a c o => ⟨c, o.sameV a rfl⟩).or (p2_py fun _ _ _ _ _ _ _ _ _ x y _ a d1 d2 s1 s2 o => ⟨x, y, d1, d2, s1, s2, o.sameV a rfl⟩)⟩
theorem cp_ne (hr : Room k X.A) : CP X .NotEq neF := ⟨_, op_ne.or (op_neD hr.units), (p2_scal fun _ _ _ _ _ _ _ x y _ a c o => ⟨c, o.sameV a rfl⟩).or (p2_py fun _ _ _ _ _ _ _ _ _ x y _ a d1 d2 s1 s2 o => ⟨x, y, d1, d2, s1, s2, o.sameV a rfl⟩)⟩
theorem cp_is : CP X .Is isF := ⟨_, op_isN, fun W r h m G s H a v b u Q at_ ra rb o => by
    cases b <;> try exact o.elim
    exact ⟨rb, by rw [isN_ok ra]; exact o.sameV at_ rfl⟩⟩
theorem cp_isn : CP X .IsNot isnF := ⟨_, op_notN, fun W r h m G s H a v b u Q at_ ra rb o => by
    cases b <;> try exact o.elim
    exact ⟨rb, by rw [isN_ok ra]; exact o.sameV at_ rfl⟩⟩
theorem cp_lt (hr : Room k X.A) : CP X .Lt ltF := ⟨_, op_lt.or (op_cmpD oLt oLt_ok (fun _ _ => rfl) (units70 hr)), p2_IB.or (p2_cmp oLt)⟩
theorem cp_le (hr : Room k X.A) : CP X .LtE leF := ⟨_, op_le.or (op_cmpD oLe oLe_ok (fun _ _ => rfl) (units70 hr)), p2_IB.or (p2_cmp oLe)⟩
theorem cp_gt (hr : Room k X.A) : CP X .Gt gtF := ⟨_, op_gt.or (op_cmpD oGt oGt_ok (fun _ _ => rfl) (units70 hr)), p2_IB.or (p2_cmp oGt)⟩
theorem cp_ge (hr : Room k X.A) : CP X .GtE geF := ⟨_, op_ge.or (op_cmpD oGe oGe_ok (fun _ _ => rfl) (units70 hr)), p2_IB.or (p2_cmp oGe)⟩
theorem cp_in (hr : Room k X.A) : CP X .In (inF false) := ⟨_, op_inSg.or ((op_inDk (hu_of hr)).or (OpR.or (op_inL (units65 hr)) (op_inT (units65 hr)))), (p2_inS false).or ((p2_inDk false).or (p2_inD false))⟩
theorem cp_nin (hr : Room k X.A) : CP X .NotIn (inF true) := ⟨_, op_notInSg.or ((op_notInDk (hu_of hr)).or (OpR.or (op_notInL (units65 hr)) (op_notInT (units65 hr)))), (p2_inS true).or ((p2_inDk true).or (p2_inD true))⟩
end
section
variable {X : Cx} {a b c : Expr} {x y z : EM} {op op' : CmpOp} {f g : Hs → Val → Val → R Val} {pos : Pos}
theorem se_cp (p : CP X op f) (ha : SE X a x) (hb : SE X b y) (hm : behindInMarks op b = false := by first | exact nomark _ | rfl | with_unfolding_all rfl) : SE X (.Compare a [op] [b] pos) (op2 f x y) := by
  obtain ⟨t, h1, h2⟩ := p.ex
  exact se_cmp h1 h2 ha hb hm
theorem st_cp (p : CP X op f) (ha : SE X a x) (hb : SE X b y) (hm : behindInMarks op b = false := by first | exact nomark _ | rfl | with_unfolding_all rfl) : ST X (.Compare a [op] [b] pos) (op2 f x y) := by
  obtain ⟨t, h1, h2⟩ := p.ex
  exact st_cmp1 h1 h2 ha hb hm
theorem se_cp2 (p : CP X op f) (q : CP X op' g) (ha : SE X a x) (hb : SE X b y) (hc : SE X c z) (hm : lastMarks [op, op'] [b, c] = false := by with_unfolding_all rfl) : SE X (.Compare a [op, op'] [b, c] pos) (chE f g x y z) := by
  obtain ⟨t, h1, h2⟩ := p.ex
  obtain ⟨t', h1', h2'⟩ := q.ex
  exact se_chain h1 h1' h2 h2' ha hb hc hm
theorem st_cp2 (p : CP X op f) (q : CP X op' g) (ha : SE X a x) (hb : SE X b y) (hc : SE X c z) (hm : lastMarks [op, op'] [b, c] = false := by with_unfolding_all rfl) : ST X (.Compare a [op, op'] [b, c] pos) (chE f g x y z) := by
  obtain ⟨t, h1, h2⟩ := p.ex
  obtain ⟨t', h1', h2'⟩ := q.ex
  exact st_chain h1 h1' h2 h2' ha hb hc hm
end

/-! ### divmod, the least and the greatest of a list -/
def dmF : Hs → Val → Val → R Val := onII fun h i j => gd (0 < j ∧ Builtin.divisionGoesByPylong i j = false) (.ok (.tup [.int (i / j), .int (i % j)]) h)
/-- the greatest -/
def mxL : List Int → Int
  | [] => 0
  | [n] => n
  | n :: ns => max n (mxL ns)
def mnL : List Int → Int
  | [] => 0
  | [n] => n
  | n :: ns => min n (mnL ns)
theorem mxL_ok : ∀ {ns : List Int}, ns ≠ [] → mxL ns ∈ ns ∧ ∀ y ∈ ns, y ≤ mxL ns
  | [], h => absurd rfl h
  | [n], _ => ⟨List.mem_singleton.mpr rfl, fun y hy => by rw [List.mem_singleton.mp hy]; exact Int.le_refl _⟩
  | n :: m :: ns, _ => by
    obtain ⟨h1, h2⟩ := mxL_ok (ns := m :: ns) (by simp)
    show max n (mxL (m :: ns)) ∈ _ ∧ ∀ y ∈ _, y ≤ max n (mxL (m :: ns))
    refine ⟨?_, fun y hy => ?_⟩
    · by_cases c : n ≤ mxL (m :: ns)
      · rw [Int.max_eq_right c]; exact List.mem_cons_of_mem _ h1
      · rw [Int.max_eq_left (by omega)]; exact List.mem_cons_self
    · rcases List.mem_cons.mp hy with e | e
      · omega
      · have := h2 y e; omega
theorem mnL_ok : ∀ {ns : List Int}, ns ≠ [] → mnL ns ∈ ns ∧ ∀ y ∈ ns, mnL ns ≤ y
  | [], h => absurd rfl h
  | [n], _ => ⟨List.mem_singleton.mpr rfl, fun y hy => by rw [List.mem_singleton.mp hy]; exact Int.le_refl _⟩
  | n :: m :: ns, _ => by
    obtain ⟨h1, h2⟩ := mnL_ok (ns := m :: ns) (by simp)
    show min n (mnL (m :: ns)) ∈ _ ∧ ∀ y ∈ _, min n (mnL (m :: ns)) ≤ y
    refine ⟨?_, fun y hy => ?_⟩
    · by_cases c : n ≤ mnL (m :: ns)
      · rw [Int.min_eq_left c]; exact List.mem_cons_self
      · rw [Int.min_eq_right (by omega)]; exact List.mem_cons_of_mem _ h1
    · rcases List.mem_cons.mp hy with e | e
      · omega
      · have := h2 y e; omega
def max1F : Hs → Val → R Val := onL (onIs fun h ns => gd (0 < ns.length) (.ok (.int (mxL ns)) h))
def min1F : Hs → Val → R Val := onL (onIs fun h ns => gd (0 < ns.length) (.ok (.int (mnL ns)) h))
section
variable {X : Cx} {e e2 : Expr} {x y : EM} {p pos : Pos} {k : Nat} {K : PySem.W.Frag} {mg : Str → Option Value}
theorem se_divmod (hg : Gl X "divmod") (hm : X.mg "divmod" = none) (he : SE X e x) (he2 : SE X e2 y) (hs : starEach [e, e2] X.env = (false, eval e X.env) :: starEach [e2] X.env := by rfl) (hs2 : starEach [e2] X.env = (false, eval e2 X.env) :: starEach [] X.env := by rfl)
    (hpl : (backTo pos (starEach [e2] X.env)).any (·.1) = false := by rfl) : SE X (.Call (.Name "divmod" p) [e, e2] [] pos) (op2 dmF x y) :=
  se_callB2 call_divmodW (p2_II fun W r h m G s H i j Q a o => by
    obtain ⟨c, o⟩ := o.gd
    exact ⟨i, j, rfl, c, Out.newT a o (by show 2 ≤ sizeLine; decide) ⟨_, _, rfl, rfl, _, _, rfl, rfl, rfl⟩⟩) hg hm (by decide +kernel) he he2 (by decide) (by decide) hs hs2 hpl
theorem p1_Ints {t : V → Hp → VK → Prop} {f : Hs → List Int → R Val} (pr : ∀ W r h m G s H ns p Q, At K r h m G s H → SqL K H p (ns.map V.int) → Out K mg W (relV K) s m G H Q (f h ns) → t (.ref p) H Q) : P1 K mg t (onL (onIs f)) :=
  p1_L fun W r h m G s H ds Q p xs a s1 z1 w1 o => by
    unfold onIs at o
    cases e : allOf asI ds with
    | none => rw [e] at o; exact o.elim
    | some ns =>
      rw [e] at o
      have e2 := allOf_map (c := Val.int) (fun d a => asI_ok) e
      subst e2
      have e3 := w1.ints
      subst e3
      exact pr W r h m G s H ns p Q a s1 o
theorem se_max1 (hc : X.calm = true) (hg : Gl X "max") (hm : X.mg "max" = none) (he : SE X e x) (hs : starEach [e] X.env = (false, eval e X.env) :: starEach [] X.env := by rfl) (hpl : (backTo pos (starEach [] X.env)).any (·.1) = false := by rfl) : SE X (.Call (.Name "max" p) [e] [] pos) (op1 max1F x) :=
  se_callB (cr_max hc) (p1_Ints fun W r h m G s H ns p Q a s1 o => by
    obtain ⟨c, o⟩ := o.gd
    refine ⟨p, ns, rfl, s1, c, fun z hz hy => ?_⟩
    obtain ⟨h1, h2⟩ := mxL_ok (ns := ns) (by intro e; subst e; cases c)
    have : z = mxL ns := by have := hy _ h1; have := h2 _ hz; omega
    rw [this]
    exact o.sameV a rfl) hg hm (by decide +kernel) he (by decide) (by decide) hs hpl
theorem se_min1 (hc : X.calm = true) (hg : Gl X "min") (hm : X.mg "min" = none) (he : SE X e x) (hs : starEach [e] X.env = (false, eval e X.env) :: starEach [] X.env := by rfl) (hpl : (backTo pos (starEach [] X.env)).any (·.1) = false := by rfl) : SE X (.Call (.Name "min" p) [e] [] pos) (op1 min1F x) :=
  se_callB (cr_min hc) (p1_Ints fun W r h m G s H ns p Q a s1 o => by
    obtain ⟨c, o⟩ := o.gd
    refine ⟨p, ns, rfl, s1, c, fun z hz hy => ?_⟩
    obtain ⟨h1, h2⟩ := mnL_ok (ns := ns) (by intro e; subst e; cases c)
    have : z = mnL ns := by have := hy _ h1; have := h2 _ hz; omega
    rw [this]
    exact o.sameV a rfl) hg hm (by decide +kernel) he (by decide) (by decide) hs hpl
end
end Rg
namespace Rg
open PySem PySem.Spec PyProof.Rows L2

/-! ### the law itself -/
def spL (K : PySem.W.Frag) : Sp := fun vs H Q _ => ∃ (a : Addr) (ns : List Int), vs = [.ref a] ∧ SqL K H a (ns.map V.int) ∧ ns.length ≤ 63 ∧ ∀ H', Q (.bl true) H'
theorem spL_spM {K : PySem.W.Frag} {mg : Str → Option Value} {f : Fn} (hf : ∀ ns : List Int, ns.length ≤ 63 → ∃ h1, f [.lst (ns.map Val.int)] [] = .ok (.bl true) h1) {vs : List V} {H : Hp} {Q : VK} {E : XK} (h : spL K vs H Q E) : spM K mg 1 f vs H Q E := by
  obtain ⟨a, ns, rfl, hs, hl, q⟩ := h
  refine ⟨rfl, [], [], H, [.lst (ns.map Val.int)], ⟨rfl, List.nodup_nil, fun b i => absurd i (by simp), fun l o b e => by cases e⟩, Ex.refl H, ?_, ?_⟩
  · refine ⟨.ref a, [], rfl, ⟨a, ns.map V.int, rfl, ?_, ?_, rvs_ints⟩, rfl⟩
    · rcases hs with hs | hs
      · exact .inl ⟨hs, by simp⟩
      · exact .inr (by
          obtain ⟨o, its, n, e1, e2, e3, e4, e5, e6⟩ := hs
          exact ⟨o, its, n, e1, e2, e3, e4, e5, e6⟩)
    · rw [List.length_map]
      exact Nat.le_trans hl (by decide)
  · obtain ⟨h1, e⟩ := hf ns hl
    rw [e]
    intro m' G' H' v _ _ rp _
    have : v = .bl true := rp
    rw [this]
    exact q H'
theorem cx_false {P : Program} {w : World} {H : Hp} {s : Shared} {e : Value} {s' : Shared} (h : L2.CX P w [] H s (fun _ _ _ => False) e s') : False := by
  obtain ⟨_, _, _, _, _, _, _, _, _, _, _, _, z⟩ := h
  exact z.elim
end Rg
namespace Rg
open PySem PySem.Spec PyProof.Rows L2

/-! ### reading a term step by step -/
section
variable {α β : Type} {a : α} {h h1 : Hs} {r r1 : Sl} {e : Exn} {d v : Val}
@[simp] theorem bind_ok {k : α → Hs → R β} : (R.ok a h).bind k = k a h := rfl
@[simp] theorem bind_rz {k : α → Hs → R β} : (R.rz e h : R α).bind k = .rz e h := rfl
@[simp] theorem thenS_ok {k : α → Hs → SR} : (R.ok a h).thenS r k = k a h := rfl
@[simp] theorem thenS_rz {k : α → Hs → SR} : (R.rz e h : R α).thenS r k = .rz e r h := rfl
@[simp] theorem orElse_no {y : R α} : (R.no : R α).orElse y = y := rfl
@[simp] theorem orElse_ok {y : R α} : (R.ok a h).orElse y = .ok a h := rfl
@[simp] theorem gd_t {x : R α} : gd True x = x := if_pos trivial
@[simp] theorem gd_tt {x : R α} : gd (true = true) x = x := if_pos rfl

def SR.sq (x : SR) (y : SM) : SR := match x with
  | .nx r1 h1 => y r1 h1
  | z => z
def SR.fin (h : Hs) (x : SR) : R Val := match x with
  | .nx _ h1 => .ok .non h1
  | .rt d h1 => .ok d h1
  | .rz e _ h1 => .rz e h1
  | _ => .no
variable {x y c z w : EM} {p q b : SM} {i n N : Nat} {ds es : List Val} {as : AM} {f : Fn} {F : Hs → Val → R Val} {F2 : Hs → Val → Val → R Val}
@[simp] theorem seqS_ev : seqS p q r h = (p r h).sq q := rfl
@[simp] theorem sq_nx : (SR.nx r h).sq q = q r h := rfl
@[simp] theorem sq_rt : (SR.rt v h).sq q = .rt v h := rfl
@[simp] theorem sq_bk : (SR.bk r h).sq q = .bk r h := rfl
@[simp] theorem sq_ct : (SR.ct r h).sq q = .ct r h := rfl
@[simp] theorem sq_rz : (SR.rz e r h).sq q = .rz e r h := rfl
@[simp] theorem skipS_ev : skipS r h = .nx r h := rfl
@[simp] theorem brkS_ev : brkS r h = .bk r h := rfl
@[simp] theorem contS_ev : contS r h = .ct r h := rfl
@[simp] theorem retN_ev : retN r h = .rt .non h := rfl
@[simp] theorem dropS_ev : dropS x r h = (x r h).thenS r fun _ h1 => .nx r h1 := rfl
@[simp] theorem retS_ev : retS x r h = (x r h).thenS r fun d h1 => .rt d h1 := rfl
@[simp] theorem setS_ev : setS i x r h = (x r h).thenS r fun d h1 => if isTmp d = true then .no else .nx (r.set i (some d)) h1 := rfl
/-- which way -/
def brS (d : Val) (x y : SR) : SR := match d with
  | .bl true => x
  | .bl false => y
  | _ => .no
def brR (d : Val) (x y : R α) : R α := match d with
  | .bl true => x
  | .bl false => y
  | _ => .no
@[simp] theorem brS_bl {t : Bool} {x y : SR} : brS (.bl t) x y = if t = true then x else y := by cases t <;> rfl
@[simp] theorem brR_bl {t : Bool} {x y : R α} : brR (.bl t) x y = if t = true then x else y := by cases t <;> rfl
@[simp] theorem ifS_ev : ifS c p q r h = (c r h).thenS r fun d h1 => brS d (p r h1) (q r h1) := by
  unfold ifS; cases c r h with
  | ok d h1 => cases d <;> first | rfl | (rename_i t; cases t <;> rfl)
  | _ => rfl
@[simp] theorem ifE_ev : ifE c x y r h = (c r h).bind fun d h1 => brR d (x r h1) (y r h1) := by
  unfold ifE; cases c r h with
  | ok d h1 => cases d <;> first | rfl | (rename_i t; cases t <;> rfl)
  | _ => rfl
@[simp] theorem andE_ev : andE x y r h = (x r h).bind fun d h1 => brR d (y r h1) (.ok (.bl false) h1) := by
  unfold andE; cases x r h with
  | ok d h1 => cases d <;> first | rfl | (rename_i t; cases t <;> rfl)
  | _ => rfl
@[simp] theorem orE_ev : orE x y r h = (x r h).bind fun d h1 => brR d (.ok (.bl true) h1) (y r h1) := by
  unfold orE; cases x r h with
  | ok d h1 => cases d <;> first | rfl | (rename_i t; cases t <;> rfl)
  | _ => rfl
def ngR (d : Val) (h : Hs) : R Val := match d with
  | .bl b => .ok (.bl (!b)) h
  | _ => .no
@[simp] theorem ngR_bl {t : Bool} : ngR (.bl t) h = .ok (.bl (!t)) h := rfl
@[simp] theorem notE_ev : notE x r h = (x r h).bind fun d h1 => ngR d h1 := rfl
def trR (d : Val) (h : Hs) : R Val := match tru h d with
  | some b => .ok (.bl b) h
  | none => .no
@[simp] theorem truE_ev : truE x r h = (x r h).bind fun d h1 => trR d h1 := rfl
@[simp] theorem trR_bl {t : Bool} : trR (.bl t) h = .ok (.bl t) h := rfl
@[simp] theorem trR_int {i : Int} : trR (.int i) h = .ok (.bl (i != 0)) h := rfl
@[simp] theorem trR_non : trR .non h = .ok (.bl false) h := rfl
@[simp] theorem trR_lst : trR (.lst ds) h = .ok (.bl (!ds.isEmpty)) h := rfl
@[simp] theorem trR_tl : trR (.tl ds) h = .ok (.bl (!ds.isEmpty)) h := rfl
@[simp] theorem trR_tup : trR (.tup ds) h = .ok (.bl (!ds.isEmpty)) h := rfl
@[simp] theorem cM_ev : cM d r h = .ok d h := rfl
def vR (o : Option (Option Val)) (h : Hs) : R Val := match o with
  | some (some d) => .ok d h
  | _ => .no
@[simp] theorem vM_ev : vM i r h = vR r[i]? h := rfl
@[simp] theorem vR_some : vR (some (some d)) h = .ok d h := rfl
@[simp] theorem op1_ev : op1 F x r h = (x r h).bind fun a h1 => F h1 a := rfl
@[simp] theorem op2_ev : op2 F2 x y r h = (x r h).bind fun a h1 => (y r h1).bind fun b h2 => F2 h2 a b := rfl
@[simp] theorem fzE_ev : fzE x r h = (x r h).bind fun d h1 => .ok (fzV d) h1 := rfl
@[simp] theorem mtE_ev : mtE x r h = (x r h).bind mtR := rfl
@[simp] theorem fzV_tl : fzV (.tl ds) = .lst ds := rfl
@[simp] theorem fzV_lst : fzV (.lst ds) = .lst ds := rfl
@[simp] theorem fzV_tup : fzV (.tup ds) = .tup ds := rfl
@[simp] theorem fzV_int {i : Int} : fzV (.int i) = .int i := rfl
@[simp] theorem fzV_bl {i : Bool} : fzV (.bl i) = .bl i := rfl
@[simp] theorem fzV_str {i : Str} : fzV (.str i) = .str i := rfl
@[simp] theorem fzV_non : fzV .non = .non := rfl
@[simp] theorem fzV_ref {l : Nat} : fzV (.ref l) = .ref l := rfl
@[simp] theorem mtR_tl : mtR (.tl ds) h = .ok (.ref h.length) (h ++ [.lst ds]) := rfl
@[simp] theorem mtR_lst : mtR (.lst ds) h = .ok (.lst ds) h := rfl
@[simp] theorem mtR_ref {l : Nat} : mtR (.ref l) h = .ok (.ref l) h := rfl
@[simp] theorem mtR_td {ks : List Key} : mtR (.td ks ds) h = .ok (.ref h.length) (h ++ [.dct (ks.zip ds)]) := rfl
@[simp] theorem isTmp_tl : isTmp (.tl ds) = true := rfl
@[simp] theorem isTmp_lst : isTmp (.lst ds) = false := rfl
@[simp] theorem isTmp_tup : isTmp (.tup ds) = false := rfl
@[simp] theorem isTmp_int {i : Int} : isTmp (.int i) = false := rfl
@[simp] theorem isTmp_bl {i : Bool} : isTmp (.bl i) = false := rfl
@[simp] theorem isTmp_str {i : Str} : isTmp (.str i) = false := rfl
@[simp] theorem isTmp_non : isTmp .non = false := rfl
@[simp] theorem isTmp_ref {l : Nat} : isTmp (.ref l) = false := rfl
@[simp] theorem aNil_ev : aNil r h = .ok [] h := rfl
@[simp] theorem aCons_ev : aCons x as r h = (x r h).bind fun d h1 => gd (isTmp d = false) ((as r h1).bind fun ds h2 => .ok (d :: ds) h2) := rfl
@[simp] theorem tupM_ev : tupM as r h = (as r h).bind fun ds h1 => gd (ds.length ≤ sizeLine) (.ok (.tup ds) h1) := rfl
@[simp] theorem lstM_ev : lstM as r h = (as r h).bind fun ds h1 => gd (ds.length ≤ sizeLine) (.ok (.tl ds) h1) := rfl
@[simp] theorem dctM_ev : dctM r h = .ok (.td [] []) h := rfl
@[simp] theorem callE_ev : callE n f as r h = (as r h).bind fun ds h1 => gd (ds.length = n) (f ds h1) := rfl
/-- a def's end -/
noncomputable def endR (h : Hs) (x : SR) : R Val := match x with
  | .nx _ h1 => leave h .non h1
  | .rt d h1 => leave h d h1
  | .rz e _ h1 => leaveX h e h1
  | _ => .no
theorem runF_ev : runF N b ds h = endR h (b (sl0 N ds) h) := by
  unfold runF; cases b (sl0 N ds) h <;> rfl
@[simp] theorem endR_nx : endR h (.nx r h1) = leave h .non h1 := rfl
@[simp] theorem endR_rt : endR h (.rt d h1) = leave h d h1 := rfl
@[simp] theorem endR_rz : endR h (.rz e r h1) = leaveX h e h1 := rfl
/-- one, two, three arguments -/
theorem sl0_1 {a : Val} {N : Nat} : sl0 (N + 1) [a] = some a :: List.replicate N none := rfl
theorem sl0_2 {a b : Val} {N : Nat} : sl0 (N + 2) [a, b] = some a :: some b :: List.replicate N none := rfl
theorem sl0_3 {a b c : Val} {N : Nat} : sl0 (N + 3) [a, b, c] = some a :: some b :: some c :: List.replicate N none := rfl
@[simp] theorem mt0_ev {T : String} : mt0 T F x r h = (x r h).bind fun a h1 => gd (isTy T h1 a = true) (F h1 a) := rfl
@[simp] theorem mt1_ev {T : String} : mt1 T F2 x y r h = (x r h).bind fun a h1 => gd (isTy T h1 a = true) ((y r h1).bind fun b h2 => F2 h2 a b) := rfl
@[simp] theorem isTy_list : isTy "list" h d = (asL h d).isSome := rfl
@[simp] theorem isTy_str : isTy "str" h d = (asS d).isSome := rfl
@[simp] theorem isTy_dict : isTy "dict" h d = (cellD h d).isSome := rfl
@[simp] theorem asS_str {s : Str} : asS (.str s) = some s := rfl
@[simp] theorem asI_int {s : Int} : asI (.int s) = some s := rfl
@[simp] theorem asB_bl {s : Bool} : asB (.bl s) = some s := rfl
@[simp] theorem asL_lst : asL h (.lst ds) = some ds := rfl
@[simp] theorem asL_tl : asL h (.tl ds) = some ds := rfl
@[simp] theorem asL_tup : asL h (.tup ds) = none := rfl
@[simp] theorem asL_int {i : Int} : asL h (.int i) = none := rfl
@[simp] theorem asL_str {i : Str} : asL h (.str i) = none := rfl
@[simp] theorem asT_tup : asT (.tup ds) = some ds := rfl
@[simp] theorem asT_lst : asT (.lst ds) = none := rfl
@[simp] theorem asT_tl : asT (.tl ds) = none := rfl
@[simp] theorem asT_ref {l : Nat} : asT (.ref l) = none := rfl
@[simp] theorem asT_int {i : Int} : asT (.int i) = none := rfl
@[simp] theorem asT_str {i : Str} : asT (.str i) = none := rfl
theorem asL_ref {l : Nat} (e : h[l]? = some (.lst ds)) : asL h (.ref l) = some ds := by unfold asL; simp only [e]
theorem asQ_L (e : asL h d = some ds) : asQ h d = some ds := by unfold asQ; simp only [e]
@[simp] theorem asQ_lst : asQ h (.lst ds) = some ds := rfl
@[simp] theorem asQ_tl : asQ h (.tl ds) = some ds := rfl
@[simp] theorem asQ_tup : asQ h (.tup ds) = some ds := rfl
theorem cellL_ref {l : Nat} (e : h[l]? = some (.lst ds)) : cellL h (.ref l) = some (l, ds) := by unfold cellL; simp only [e]
theorem cellD_ref {l : Nat} {kvs : List (Key × Val)} (e : h[l]? = some (.dct kvs)) : cellD h (.ref l) = some (l, kvs) := by unfold cellD; simp only [e]
theorem onC_ref {l : Nat} {g : Hs → Nat → List Val → R Val} (e : h[l]? = some (.lst ds)) : onC g h (.ref l) = g h l ds := by unfold onC; rw [cellL_ref e]
@[simp] theorem putL_ev {l : Nat} : putL l ds d h = .ok d (h.set l (.lst ds)) := rfl
@[simp] theorem asX_tl : asX h (.tl ds) = some ds := rfl
@[simp] theorem optR_some : optR (some d) h = .ok d h := rfl

/-! ### numbers -/
variable {j k : Int} {u s : Str}
@[simp] theorem add_II {i : Int} : addF h (.int i) (.int j) = .ok (.int (i + j)) h := rfl
@[simp] theorem sub_II {i : Int} : subF h (.int i) (.int j) = .ok (.int (i - j)) h := rfl
@[simp] theorem neg_I {i : Int} : negF h (.int i) = .ok (.int (-i)) h := rfl
@[simp] theorem abs_I {i : Int} : absF h (.int i) = .ok (.int (if i < 0 then -i else i)) h := rfl
@[simp] theorem mod_II {i : Int} : modF h (.int i) (.int j) = gd (0 < j) (.ok (.int (i % j)) h) := rfl
@[simp] theorem fdiv_II {i : Int} : fdivF h (.int i) (.int j) = gd (CDivW i j) (.ok (.int (i / j)) h) := rfl
@[simp] theorem pow_II {i : Int} : powF h (.int i) (.int j) = gd (CPow i j) (.ok (.int (i ^ j.toNat)) h) := rfl
theorem mul_II {i : Int} (c : CMul i j ∨ CMulW i j) : mulF h (.int i) (.int j) = .ok (.int (i * j)) h := by
  show (gd (CMul i j) (R.ok (Val.int (i * j)) h)).orElse (gd (CMulW i j) (R.ok (Val.int (i * j)) h)) = _
  by_cases c1 : CMul i j
  · rw [gd_pos c1]; rfl
  · rw [gd_neg c1, gd_pos (c.resolve_left c1)]; rfl
@[simp] theorem min2_II {i : Int} : min2F h (.int i) (.int j) = .ok (.int (if j < i then j else i)) h := rfl
@[simp] theorem max2_II {i : Int} : max2F h (.int i) (.int j) = .ok (.int (if j > i then j else i)) h := rfl
@[simp] theorem lt_II {i : Int} : ordF oLt h (.int i) (.int j) = .ok (.bl (decide (i < j))) h := rfl
@[simp] theorem le_II {i : Int} : ordF oLe h (.int i) (.int j) = .ok (.bl (decide (i ≤ j))) h := rfl
@[simp] theorem gt_II {i : Int} : ordF oGt h (.int i) (.int j) = .ok (.bl (decide (j < i))) h := rfl
@[simp] theorem ge_II {i : Int} : ordF oGe h (.int i) (.int j) = .ok (.bl (decide (j ≤ i))) h := rfl
theorem dec_iff {p q : Prop} [Decidable p] [Decidable q] (h : p ↔ q) : decide p = decide q := by
  by_cases c : p
  · rw [decide_eq_true c, decide_eq_true (h.mp c)]
  · rw [decide_eq_false c, decide_eq_false (fun z => c (h.mpr z))]
@[simp] theorem eq_II {i : Int} : eqF h (.int i) (.int j) = .ok (.bl (decide (i = j))) h := by
  show R.ok (Val.bl (decide (V.int i = V.int j))) h = _
  rw [dec_iff (show V.int i = V.int j ↔ i = j from ⟨fun e => V.int.inj e, fun e => by rw [e]⟩)]
@[simp] theorem ne_II {i : Int} : neF h (.int i) (.int j) = .ok (.bl (!decide (i = j))) h := by
  show R.ok (Val.bl (!decide (V.int i = V.int j))) h = _
  rw [dec_iff (show V.int i = V.int j ↔ i = j from ⟨fun e => V.int.inj e, fun e => by rw [e]⟩)]
@[simp] theorem eq_SS : eqF h (.str s) (.str u) = .ok (.bl (decide (s = u))) h := by
  show R.ok (Val.bl (decide (V.str s = V.str u))) h = _
  rw [dec_iff (show V.str s = V.str u ↔ s = u from ⟨fun e => V.str.inj e, fun e => by rw [e]⟩)]
@[simp] theorem ne_SS : neF h (.str s) (.str u) = .ok (.bl (!decide (s = u))) h := by
  show R.ok (Val.bl (!decide (V.str s = V.str u))) h = _
  rw [dec_iff (show V.str s = V.str u ↔ s = u from ⟨fun e => V.str.inj e, fun e => by rw [e]⟩)]
@[simp] theorem is_N : isF h d .non = .ok (.bl (isN d)) h := rfl
@[simp] theorem isn_N : isnF h d .non = .ok (.bl (!isN d)) h := rfl
@[simp] theorem isN_non : isN .non = true := rfl
@[simp] theorem isN_int {i : Int} : isN (.int i) = false := rfl
@[simp] theorem isN_tup : isN (.tup ds) = false := rfl
@[simp] theorem isN_lst : isN (.lst ds) = false := rfl
@[simp] theorem isN_str : isN (.str s) = false := rfl
/-! ### lists, tuples -/
theorem asT_none (e : asL h d = some ds) : asT d = none := by cases d <;> first | rfl | cases e
theorem ix_L {i : Int} {g : Val} (e : asL h d = some ds) (q : atI ds i = some g) : ixF h d (.int i) = .ok g h := by
  have h1 : onTI (fun h ds i => optR (atI ds i) h) h d (.int i) = .no := by unfold onTI; simp only [asT_none e]
  have h2 : onLI (fun h ds i => optR (atI ds i) h) h d (.int i) = .ok g h := by unfold onLI; simp only [e, q]; rfl
  unfold ixF or2
  rw [h1, orElse_no, h2, orElse_ok]
theorem ix_T {i : Int} {g : Val} (q : atI ds i = some g) : ixF h (.tup ds) (.int i) = .ok g h := by
  have h1 : onTI (fun h ds i => optR (atI ds i) h) h (.tup ds) (.int i) = .ok g h := by unfold onTI; simp only [asT_tup, q]; rfl
  unfold ixF or2
  rw [h1, orElse_ok]
theorem at_nat {α : Type} {ds : List α} {i : Int} {n : Nat} (e : i = (n : Int)) : atI ds i = ds[n]? := by
  subst e
  unfold atI ixN
  rw [if_pos (by omega)]
  by_cases c : n < ds.length
  · rw [if_pos (by omega)]; rfl
  · rw [if_neg (by omega), List.getElem?_eq_none (by omega)]; rfl
theorem len_Q (e : asQ h d = some ds) : lenF h d = .ok (.int ds.length) h := by
  unfold lenF or1 onQ; simp only [e]; rfl
theorem len_S (c : s.length ≤ sizeLine) : lenF h (.str s) = .ok (.int s.length) h := by
  unfold lenF or1 onQ onS; simp only [asQ, asL_str, asT_str, orElse_no, gd_pos c]
theorem tuple_L (e : asL h d = some ds) : tupleF h d = .ok (.tup ds) h := by
  unfold tupleF or1 onT onL; simp only [asT_none e, e, orElse_no]
@[simp] theorem tuple_T : tupleF h (.tup ds) = .ok (.tup ds) h := rfl
theorem list_Q (e : asQ h d = some ds) : listF h d = .ok (.tl ds) h := by
  unfold listF onQ; simp only [e]
theorem allOf_bls {bs : List Bool} : allOf asB (bs.map Val.bl) = some bs := allOf_of (c := Val.bl) (fun _ => rfl) bs
theorem allOf_ints {ns : List Int} : allOf asI (ns.map Val.int) = some ns := allOf_of (c := Val.int) (fun _ => rfl) ns
theorem allOf_strs {ns : List Str} : allOf asS (ns.map Val.str) = some ns := allOf_of (c := Val.str) (fun _ => rfl) ns
theorem all_L {bs : List Bool} (e : asL h d = some (bs.map Val.bl)) : allF h d = .ok (.bl (bs.all id)) h := by
  unfold allF onL onBs; simp only [e, allOf_bls]
theorem any_L {bs : List Bool} (e : asL h d = some (bs.map Val.bl)) : anyF h d = .ok (.bl (bs.any id)) h := by
  unfold anyF onL onBs; simp only [e, allOf_bls]
theorem sum_L {ns : List Int} (e : asL h d = some (ns.map Val.int)) : sumF h d = .ok (.int ns.sum) h := by
  unfold sumF onL onIs; simp only [e, allOf_ints]
theorem join_Q {ws : List Str} (e : asQ h d = some (ws.map Val.str)) (c : (ws.map (·.length)).sum + ws.length * s.length ≤ 16777216) : joinF h (.str s) d = .ok (.str (Txt.join s ws)) h := by
  unfold joinF; simp only [e, allOf_strs, gd_pos c]
theorem split_S (c : (u.length == 0) = false ∧ s.length + 2 ≤ sizeLine) : splitF h (.str s) (.str u) = .ok (.tl ((Txt.split s u).map .str)) h := gd_pos c
theorem str_I {i : Int} (c : i.natAbs.log2 < 1920) : strF h (.int i) = .ok (.str (toString i)) h := gd_pos c
theorem int_S {i : Int} (c : PySem.intText? s = some i) (l : s.length ≤ 640) : intF h (.str s) = .ok (.int i) h := by
  unfold intF or1 onI onS; simp only [orElse_no, c, gd_pos l]
theorem add_L {xs ys : List Val} {a b : Val} (e1 : asL h a = some xs) (e2 : asL h b = some ys) (c : xs.length + ys.length ≤ sizeLine) : addF h a b = .ok (.tl (xs ++ ys)) h := by
  have h1 : onII (fun h i j => R.ok (.int (i + j)) h) h a b = .no := by cases a <;> first | (cases e1; done) | (cases b <;> first | rfl | (cases e2; done))
  have h2 : onSS (fun h i j => gd (i.length + j.length ≤ sizeLine) (R.ok (.str (i ++ j)) h)) h a b = .no := by cases a <;> first | (cases e1; done) | (cases b <;> first | rfl | (cases e2; done))
  have h3 : onTT (fun h xs ys => gd (xs.length + ys.length ≤ sizeLine) (R.ok (.tup (xs ++ ys)) h)) h a b = .no := by unfold onTT; simp only [asT_none e1]
  unfold addF or2
  rw [h1, h2, h3]
  unfold onLL
  simp only [orElse_no, e1, e2, gd_pos c]
theorem app_ref {l : Nat} {a : Val} (e : h[l]? = some (.lst ds)) (c : isTmp a = false ∧ ds.length < sizeLine) : appF h (.ref l) a = .ok .non (h.set l (.lst (ds ++ [a]))) := by
  unfold appF; rw [onC_ref e, gd_pos c]; rfl
theorem ext_ref {l : Nat} {a : Val} (e : h[l]? = some (.lst ds)) (e2 : asX h a = some es) (c : ds.length + es.length ≤ sizeLine) : extF h (.ref l) a = .ok .non (h.set l (.lst (ds ++ es))) := by
  unfold extF; rw [onC_ref e]; simp only [e2, gd_pos c]; rfl
/-! ### stores -/
def stR (h : Hs) (r : Sl) (o : Option Hs) : SR := match o with
  | some h3 => .nx r h3
  | none => .no
@[simp] theorem stR_some {h3 : Hs} : stR h r (some h3) = .nx r h3 := rfl
@[simp] theorem stG_ev {d : Val} : stG x y r h d = (x r h).thenS r fun a h1 => (y r h1).thenS r fun b h2 => stR h2 r (stF h2 a b d) := rfl
@[simp] theorem stS_ev : stS x y z r h = (z r h).thenS r fun d h1 => if isTmp d = true then .no else stG x y r h1 d := rfl
theorem stF_L {l : Nat} {i : Int} {m : Nat} (e : h[l]? = some (.lst ds)) (c : ixN ds.length i = some m) : stF h (.ref l) (.int i) d = some (h.set l (.lst (ds.set m d))) := by
  unfold stF; rw [cellL_ref e]; simp only [c]

/-! ### what a def leaves -/
/-- no cell in it -/
def noRef : Val → Bool
  | .ref _ => false
  | .tup ds => noRefs ds
  | .lst ds => noRefs ds
  | .dct _ ds => noRefs ds
  | .tl ds => noRefs ds
  | .td _ ds => noRefs ds
  | _ => true
where noRefs : List Val → Bool
  | [] => true
  | d :: ds => noRef d && noRefs ds
abbrev noRefs := noRef.noRefs
mutual
theorem lt_noRef {n : Nat} : ∀ {d : Val}, noRef d = true → Lt n d
  | .ref _, h => by simp [noRef] at h
  | .tup ds, h => by rw [Lt]; exact lts_noRefs (by simpa [noRef] using h)
  | .lst ds, h => by rw [Lt]; exact lts_noRefs (by simpa [noRef] using h)
  | .dct _ ds, h => by rw [Lt]; exact lts_noRefs (by simpa [noRef] using h)
  | .tl ds, h => by rw [Lt]; exact lts_noRefs (by simpa [noRef] using h)
  | .td _ ds, h => by rw [Lt]; exact lts_noRefs (by simpa [noRef] using h)
  | .non, _ => by simp [Lt]
  | .bl _, _ => by simp [Lt]
  | .int _, _ => by simp [Lt]
  | .str _, _ => by simp [Lt]
theorem lts_noRefs {n : Nat} : ∀ {ds : List Val}, noRefs ds = true → Lts n ds
  | [], _ => by rw [Lts]; trivial
  | d :: ds, h => by
    have : noRef d = true ∧ noRefs ds = true := by simpa [noRefs, noRef.noRefs] using h
    rw [Lts]; exact ⟨lt_noRef this.1, lts_noRefs this.2⟩
end
theorem noRefs_all : ∀ {ds : List Val}, (∀ d ∈ ds, noRef d = true) → noRefs ds = true
  | [], _ => rfl
  | d :: ds, h => by
    show (noRef d && noRefs ds) = true
    rw [h d List.mem_cons_self, noRefs_all fun e he => h e (List.mem_cons_of_mem _ he)]; rfl
theorem noRefs_mem : ∀ {ds : List Val}, noRefs ds = true → ∀ d ∈ ds, noRef d = true
  | [], _, _, h => by cases h
  | e :: ds, q, d, h => by
    have : noRef e = true ∧ noRefs ds = true := by simpa [noRefs, noRef.noRefs] using q
    rcases List.mem_cons.mp h with rfl | h
    · exact this.1
    · exact noRefs_mem this.2 d h
@[simp] theorem noRef_int {i : Int} : noRef (.int i) = true := rfl
@[simp] theorem noRef_bl {i : Bool} : noRef (.bl i) = true := rfl
@[simp] theorem noRef_str {i : Str} : noRef (.str i) = true := rfl
@[simp] theorem noRef_non : noRef .non = true := rfl
@[simp] theorem noRef_tup : noRef (.tup ds) = noRefs ds := rfl
@[simp] theorem noRef_lst : noRef (.lst ds) = noRefs ds := rfl
@[simp] theorem noRef_tl : noRef (.tl ds) = noRefs ds := rfl
@[simp] theorem noRefs_nil : noRefs [] = true := rfl
@[simp] theorem noRefs_cons : noRefs (d :: ds) = (noRef d && noRefs ds) := rfl
@[simp] theorem noRefs_ints {ns : List Int} : noRefs (ns.map Val.int) = true := noRefs_all fun d h => by obtain ⟨n, _, rfl⟩ := List.mem_map.mp h; rfl
@[simp] theorem noRefs_strs {ns : List Str} : noRefs (ns.map Val.str) = true := noRefs_all fun d h => by obtain ⟨n, _, rfl⟩ := List.mem_map.mp h; rfl
@[simp] theorem noRefs_app : noRefs (ds ++ es) = (noRefs ds && noRefs es) := by
  induction ds with
  | nil => simp
  | cons a t ih => simp [ih, Bool.and_assoc]
def obNoRef : Ob → Bool
  | .lst ds => noRefs ds
  | .dct kvs => noRefs (kvs.map (·.2))
/-- h1: h with cells changed that speak of none -/
def Old (h h1 : Hs) : Prop := h1.length = h.length ∧ ∀ (l : Nat) (o : Ob), h1[l]? = some o → h[l]? = some o ∨ obNoRef o = true
theorem Old.refl (h : Hs) : Old h h := ⟨rfl, fun _ _ e => .inl e⟩
theorem Old.set {l : Nat} {o : Ob} (q : Old h h1) (n : obNoRef o = true) : Old h (h1.set l o) := by
  refine ⟨by rw [List.length_set, q.1], fun i o' e => ?_⟩
  by_cases c : l = i
  · subst c
    have lt : l < h1.length := by have := (List.getElem?_eq_some_iff.mp e).1; simpa using this
    rw [List.getElem?_set_self lt] at e
    cases e; exact .inr n
  · rw [List.getElem?_set_ne c] at e; exact q.2 i o' e
theorem Old.ok {g : Hs} (q : Old h h1) : OldOk h (h1 ++ g) := by
  refine ⟨by rw [List.length_append, q.1]; omega, fun l o lt e => ?_⟩
  rw [List.getElem?_append_left (by rw [q.1]; exact lt)] at e
  rcases q.2 l o e with z | z
  · exact .inl z
  · refine .inr ?_
    cases o with
    | lst ds => exact lts_noRefs z
    | dct kvs => exact lts_noRefs z
theorem Old.take {g : Hs} (q : Old h h1) : (h1 ++ g).take h.length = h1 := by
  rw [← q.1, List.take_left']; rfl
open Classical in
theorem leave_v {g : Hs} (q : Old h h1) (n : noRef d = true) : leave h d (h1 ++ g) = .ok d h1 := by
  unfold leave
  rw [gd_pos q.ok, q.take]
  cases d <;> first | (simp [noRef] at n; done) | exact gd_pos (lt_noRef n)
theorem leave_v0 (n : noRef d = true) (q : Old h h1) : leave h d h1 = .ok d h1 := by
  have := leave_v (g := []) q n
  rwa [List.append_nil] at this
open Classical in
theorem leave_l {g : Hs} {k : Nat} (q : Old h h1) (e : g[k]? = some (.lst ds)) (n : noRefs ds = true) : leave h (.ref (h.length + k)) (h1 ++ g) = .ok (.tl ds) h1 := by
  unfold leave
  rw [gd_pos q.ok, q.take]
  dsimp only
  rw [if_neg (by omega)]
  have e2 : (h1 ++ g)[h.length + k]? = some (.lst ds) := by rw [List.getElem?_append_right (by rw [q.1]; omega), q.1, Nat.add_sub_cancel_left]; exact e
  rw [e2]
  exact gd_pos (lts_noRefs n)
end
end Rg
namespace Rg
open PySem PySem.Spec PyProof.Rows L2

/-! ### loops -/
/-- one turn: on to J, or out with Q -/
def Turn1 (J : Sl → Hs → Prop) (Q : SR → Prop) : SR → Prop
  | .nx r h => J r h
  | .ct r h => J r h
  | .bk r h => Q (.nx r h)
  | .no => False
  | z => Q z
section
variable {J : Sl → Hs → Prop} {Q : SR → Prop} {r : Sl} {h : Hs} {v : Val}
@[simp] theorem turn_nx : Turn1 J Q (.nx r h) = J r h := rfl
@[simp] theorem turn_ct : Turn1 J Q (.ct r h) = J r h := rfl
@[simp] theorem turn_bk : Turn1 J Q (.bk r h) = Q (.nx r h) := rfl
@[simp] theorem turn_rt : Turn1 J Q (.rt v h) = Q (.rt v h) := rfl
end
theorem forG_q {it : ItV} {p : Pt} {b : SM} (ds : List Val) (I : Nat → Sl → Hs → Prop) (Q : SR → Prop) (hat : ∀ i r h, I i r h → it.at_ h i = some ds[i]?)
    (step : ∀ i d r h, ds[i]? = some d → I i r h → ∃ r1, asgP h p d r = some r1 ∧ Turn1 (I (i + 1)) Q (b r1 h)) (fin : ∀ r h, I ds.length r h → Q (.nx r h)) :
    ∀ n i r h, i + n = ds.length → I i r h → Q (forG it p b n i r h)
  | 0, i, r, h, e, w => by
    unfold forG
    rw [hat i r h w, List.getElem?_eq_none (by omega)]
    have : i = ds.length := by omega
    subst this
    exact fin r h w
  | n + 1, i, r, h, e, w => by
    unfold forG
    have lt : i < ds.length := by omega
    rw [hat i r h w, List.getElem?_eq_getElem lt]
    obtain ⟨r1, e1, t⟩ := step i ds[i] r h (List.getElem?_eq_getElem lt) w
    simp only [e1]
    cases eb : b r1 h with
    | nx r2 h2 => rw [eb] at t; exact forG_q ds I Q hat step fin n (i + 1) r2 h2 (by omega) t
    | ct r2 h2 => rw [eb] at t; exact forG_q ds I Q hat step fin n (i + 1) r2 h2 (by omega) t
    | bk r2 h2 => rw [eb] at t; exact t
    | rt v h2 => rw [eb] at t; exact t
    | rz x r2 h2 => rw [eb] at t; exact t
    | no => rw [eb] at t; exact t.elim
theorem for_q {it : ItV} {p : Pt} {b : SM} {r : Sl} {h : Hs} (ds : List Val) (I : Nat → Sl → Hs → Prop) (Q : SR → Prop) (hn : it.n = ds.length) (hat : ∀ i r h, I i r h → it.at_ h i = some ds[i]?)
    (h0 : I 0 r h) (step : ∀ i d r h, ds[i]? = some d → I i r h → ∃ r1, asgP h p d r = some r1 ∧ Turn1 (I (i + 1)) Q (b r1 h)) (fin : ∀ r h, I ds.length r h → Q (.nx r h)) : Q (forG it p b it.n 0 r h) :=
  forG_q ds I Q hat step fin it.n 0 r h (by omega) h0
/-- through the whole -/
theorem for_ex {it : ItV} {p : Pt} {b : SM} {r : Sl} {h : Hs} (ds : List Val) (I : Nat → Sl → Hs → Prop) (hn : it.n = ds.length) (hat : ∀ i r h, I i r h → it.at_ h i = some ds[i]?)
    (h0 : I 0 r h) (step : ∀ i d r h, ds[i]? = some d → I i r h → ∃ r1, asgP h p d r = some r1 ∧ Turn1 (I (i + 1)) (fun _ => False) (b r1 h)) : ∃ r' h', forG it p b it.n 0 r h = .nx r' h' ∧ I ds.length r' h' := by
  refine for_q (it := it) (p := p) (b := b) ds I (fun o => ∃ r' h', o = .nx r' h' ∧ I ds.length r' h') hn hat h0 (fun i d r h e w => ?_) fun r h w => ⟨r, h, rfl, w⟩
  obtain ⟨r1, e1, t⟩ := step i d r h e w
  refine ⟨r1, e1, ?_⟩
  cases eb : b r1 h <;> rw [eb] at t <;> first | exact t | exact t.elim
@[simp] theorem itL_n {ds : List Val} : (itL ds).n = ds.length := rfl
@[simp] theorem itL_at {ds : List Val} {h : Hs} {i : Nat} : (itL ds).at_ h i = some ds[i]? := rfl
/-- a range's items -/
def rgD (lo : Int) (n : Nat) : List Val := (List.range n).map fun (i : Nat) => Val.int (lo + (i : Int))
@[simp] theorem rgD_len {lo : Int} {n : Nat} : (rgD lo n).length = n := by simp [rgD]
theorem rgD_get {lo : Int} {n i : Nat} : (rgD lo n)[i]? = if i < n then some (.int (lo + i)) else none := by
  unfold rgD
  rw [List.getElem?_map]
  by_cases c : i < n
  · rw [if_pos c, List.getElem?_range c]; rfl
  · rw [if_neg c, List.getElem?_eq_none (by simpa using c)]; rfl
@[simp] theorem itR_n {lo : Int} {n : Nat} : (itR lo n).n = (rgD lo n).length := by simp [itR]
@[simp] theorem itR_at {lo : Int} {n i : Nat} {h : Hs} : (itR lo n).at_ h i = some (rgD lo n)[i]? := by rw [rgD_get]; rfl
@[simp] theorem asgP_nm {h : Hs} {i : Nat} {d : Val} {r : Sl} : asgP h (.nm i) d r = if isTmp d = true then none else some (r.set i (some d)) := by
  unfold asgP
  cases d <;> rfl
@[simp] theorem forS_ev {im : IM} {p : Pt} {b : SM} {r : Sl} {h : Hs} : forS im p b r h = (im r h).thenS r fun it h1 => forG it p b it.n 0 r h1 := rfl
def seR (h : Hs) (d : Val) : R ItV := match d with
  | .ref l => match h[l]? with
    | some (.lst ds) => .ok (itC l ds.length) h
    | _ => .no
  | .str z => gd (z.cps.size ≤ sizeLine) (.ok (itS z) h)
  | d => match asQ h d with
    | some ds => .ok (itL ds) h
    | none => .no
@[simp] theorem seqI_ev {x : EM} {r : Sl} {h : Hs} : seqI x r h = (x r h).bind fun d h1 => seR h1 d := rfl
@[simp] theorem seR_lst {h : Hs} {ds : List Val} : seR h (.lst ds) = .ok (itL ds) h := rfl
@[simp] theorem seR_tl {h : Hs} {ds : List Val} : seR h (.tl ds) = .ok (itL ds) h := rfl
@[simp] theorem seR_tup {h : Hs} {ds : List Val} : seR h (.tup ds) = .ok (itL ds) h := rfl
theorem seR_ref {h : Hs} {l : Nat} {ds : List Val} (e : h[l]? = some (.lst ds)) : seR h (.ref l) = .ok (itC l ds.length) h := by unfold seR; simp only [e]
theorem seR_str {h : Hs} {z : Str} (e : z.cps.size ≤ sizeLine) : seR h (.str z) = .ok (itS z) h := gd_pos e
theorem itC_at {h : Hs} {l n i : Nat} {ds : List Val} (e : h[l]? = some (.lst ds)) : (itC l n).at_ h i = some ds[i]? := by unfold itC; simp only [e]
@[simp] theorem itC_n {l n : Nat} : (itC l n).n = n := rfl
def r1R (h : Hs) (d : Val) : R ItV := match d with
  | .int j => gd (j ≤ sizeLine ∧ -(2 ^ 62) ≤ j) (.ok (itR 0 j.toNat) h)
  | _ => .no
@[simp] theorem rng1_ev {x : EM} {r : Sl} {h : Hs} : rng1 x r h = (x r h).bind fun d h1 => r1R h1 d := rfl
theorem r1R_int {h : Hs} {j : Int} (c : j ≤ sizeLine ∧ -(2 ^ 62) ≤ j) : r1R h (.int j) = .ok (itR 0 j.toNat) h := gd_pos c
def r2R (h : Hs) (d e : Val) : R ItV := match d, e with
  | .int i, .int j => gd ((-(2 ^ 62) ≤ i ∧ i < 2 ^ 62 ∧ -(2 ^ 62) ≤ j ∧ j < 2 ^ 62) ∧ j - i ≤ sizeLine) (.ok (itR i (j - i).toNat) h)
  | _, _ => .no
@[simp] theorem rng2_ev {x y : EM} {r : Sl} {h : Hs} : rng2 x y r h = (x r h).bind fun d h1 => (y r h1).bind fun e h2 => r2R h2 d e := rfl
theorem r2R_int {h : Hs} {i j : Int} (c : (-(2 ^ 62) ≤ i ∧ i < 2 ^ 62 ∧ -(2 ^ 62) ≤ j ∧ j < 2 ^ 62) ∧ j - i ≤ sizeLine) : r2R h (.int i) (.int j) = .ok (itR i (j - i).toNat) h := gd_pos c
def enR (h : Hs) (d : Val) : R ItV := match seqV h d with
  | some (true, it) => .ok (enV it) h
  | _ => .no
@[simp] theorem enI_ev {x : EM} {r : Sl} {h : Hs} : enI x r h = (x r h).bind fun d h1 => enR h1 d := rfl
@[simp] theorem enR_lst {h : Hs} {ds : List Val} : enR h (.lst ds) = .ok (enV (itL ds)) h := rfl
@[simp] theorem enR_tl {h : Hs} {ds : List Val} : enR h (.tl ds) = .ok (enV (itL ds)) h := rfl
/-- with their numbers -/
def enD : Nat → List Val → List Val
  | _, [] => []
  | i, d :: ds => .tup [.int (i : Nat), d] :: enD (i + 1) ds
theorem enD_get : ∀ (k : Nat) (ds : List Val) (i : Nat), (enD k ds)[i]? = (ds[i]?).map fun d => Val.tup [.int ((k + i : Nat) : Int), d]
  | _, [], i => by simp [enD]
  | k, d :: ds, 0 => by simp [enD]
  | k, d :: ds, i + 1 => by
    show (enD (k + 1) ds)[i]? = (ds[i]?).map _
    rw [enD_get (k + 1) ds i]
    congr 2
    funext x
    rw [show k + 1 + i = k + (i + 1) by omega]
theorem enD_len : ∀ (k : Nat) (ds : List Val), (enD k ds).length = ds.length
  | _, [] => rfl
  | k, d :: ds => by show (enD (k + 1) ds).length + 1 = _; rw [enD_len]; rfl
@[simp] theorem enV_n {ds : List Val} : (enV (itL ds)).n = (enD 0 ds).length := by rw [enD_len]; rfl
@[simp] theorem enV_at {ds : List Val} {h : Hs} {i : Nat} : (enV (itL ds)).at_ h i = some (enD 0 ds)[i]? := by
  rw [enD_get, Nat.zero_add]; rfl
def zpR (h : Hs) (d e : Val) : R ItV := match seqV h d, seqV h e with
  | some (b, it), some (c, jt) => if b = c then .ok (zpV it jt) h else .no
  | _, _ => .no
@[simp] theorem zpI_ev {x y : EM} {r : Sl} {h : Hs} : zpI x y r h = (x r h).bind fun d h1 => (y r h1).bind fun e h2 => zpR h2 d e := rfl
@[simp] theorem zpR_lst {h : Hs} {ds es : List Val} : zpR h (.lst ds) (.lst es) = .ok (zpV (itL ds) (itL es)) h := rfl
@[simp] theorem zpR_tup {h : Hs} {ds es : List Val} : zpR h (.tup ds) (.tup es) = .ok (zpV (itL ds) (itL es)) h := rfl
def zpD : List Val → List Val → List Val
  | d :: ds, e :: es => .tup [d, e] :: zpD ds es
  | _, _ => []
theorem zpD_len : ∀ (ds es : List Val), (zpD ds es).length = min ds.length es.length
  | [], _ => by simp [zpD]
  | d :: ds, [] => by simp [zpD]
  | d :: ds, e :: es => by show (zpD ds es).length + 1 = _; rw [zpD_len]; simp
theorem zpD_get : ∀ (ds es : List Val) (i : Nat), (zpD ds es)[i]? = match ds[i]?, es[i]? with
    | some d, some e => some (Val.tup [d, e])
    | _, _ => none
  | [], _, i => by simp [zpD]
  | d :: ds, [], i => by
    cases (d :: ds)[i]? <;> simp [zpD]
  | d :: ds, e :: es, 0 => by simp [zpD]
  | d :: ds, e :: es, i + 1 => by
    show (zpD ds es)[i]? = _
    rw [zpD_get ds es i]; simp
@[simp] theorem zpV_n {ds es : List Val} : (zpV (itL ds) (itL es)).n = (zpD ds es).length := by rw [zpD_len]; rfl
@[simp] theorem zpV_at {ds es : List Val} {h : Hs} {i : Nat} : (zpV (itL ds) (itL es)).at_ h i = some (zpD ds es)[i]? := by
  rw [zpD_get]
  show (match some ds[i]?, some es[i]? with
    | some (some d), some (some e) => some (some (Val.tup [d, e]))
    | some _, some _ => some none
    | _, _ => none) = _
  cases ds[i]? <;> cases es[i]? <;> rfl

/-! ### comprehensions -/
@[simp] theorem lcM_ev {im : IM} {p : Pt} {t e : EM} {vs : List Nat} {r : Sl} {h : Hs} : lcM im p t e vs r h = (im r h).bind fun it h1 => (lcG it p t e vs it.n 0 r h1).bind fun ds h2 => .ok (.tl ds) h2 := rfl
theorem lcG_pure {it : ItV} {p : Pt} {t e : EM} {vs : List Nat} {r : Sl} {h : Hs} (ds : List Val) (c : Val → Bool) (g : Val → Val) (hat : ∀ i, it.at_ h i = some ds[i]?)
    (st : ∀ d ∈ ds, ∃ r1, asgP h p d (wipeS r vs) = some r1 ∧ t r1 h = .ok (.bl (c d)) h ∧ (c d = true → e r1 h = .ok (g d) h ∧ isTmp (g d) = false)) :
    ∀ n i, i + n = ds.length → lcG it p t e vs n i r h = .ok (((ds.drop i).filter c).map g) h
  | 0, i, q => by
    unfold lcG
    rw [hat i, List.getElem?_eq_none (by omega), List.drop_eq_nil_of_le (by omega)]
    rfl
  | n + 1, i, q => by
    unfold lcG
    have lt : i < ds.length := by omega
    rw [hat i, List.getElem?_eq_getElem lt]
    obtain ⟨r1, e1, e2, e3⟩ := st ds[i] (List.getElem_mem lt)
    simp only [e1, e2]
    rw [List.drop_eq_getElem_cons lt]
    cases ec : c ds[i] with
    | false =>
      simp only []
      rw [lcG_pure ds c g hat st n (i + 1) (by omega), List.filter_cons_of_neg (by simp [ec])]
    | true =>
      obtain ⟨e4, e5⟩ := e3 ec
      simp only [e4]
      rw [gd_pos e5, lcG_pure ds c g hat st n (i + 1) (by omega), List.filter_cons_of_pos ec]
      rfl
theorem lc_pure {it : ItV} {p : Pt} {t e : EM} {vs : List Nat} {r : Sl} {h : Hs} (ds : List Val) (c : Val → Bool) (g : Val → Val) (hn : it.n = ds.length) (hat : ∀ i, it.at_ h i = some ds[i]?)
    (st : ∀ d ∈ ds, ∃ r1, asgP h p d (wipeS r vs) = some r1 ∧ t r1 h = .ok (.bl (c d)) h ∧ (c d = true → e r1 h = .ok (g d) h ∧ isTmp (g d) = false)) : lcG it p t e vs it.n 0 r h = .ok ((ds.filter c).map g) h :=
  lcG_pure ds c g hat st it.n 0 (by omega)
/-- without a test -/
theorem lc_map {it : ItV} {p : Pt} {e : EM} {vs : List Nat} {r : Sl} {h : Hs} (ds : List Val) (g : Val → Val) (hn : it.n = ds.length) (hat : ∀ i, it.at_ h i = some ds[i]?)
    (st : ∀ d ∈ ds, ∃ r1, asgP h p d (wipeS r vs) = some r1 ∧ e r1 h = .ok (g d) h ∧ isTmp (g d) = false) : lcG it p (cM (.bl true)) e vs it.n 0 r h = .ok (ds.map g) h := by
  have := lc_pure (t := cM (.bl true)) ds (fun _ => true) g hn hat fun d hd => by
    obtain ⟨r1, e1, e2, e3⟩ := st d hd
    exact ⟨r1, e1, rfl, fun _ => ⟨e2, e3⟩⟩
  rw [this, List.filter_eq_self.mpr (fun _ _ => rfl)]

/-! ### while -/
theorem whileN_more {c : EM} {b : SM} : ∀ {n : Nat} {r : Sl} {h : Hs}, whileN c b n r h ≠ .no → ∀ m, n ≤ m → whileN c b m r h = whileN c b n r h
  | 0, r, h, q, _, _ => absurd rfl q
  | n + 1, r, h, q, 0, l => absurd l (by omega)
  | n + 1, r, h, q, m + 1, l => by
    unfold whileN at q ⊢
    cases e : c r h with
    | no => rfl
    | rz _ _ => rfl
    | ok d h1 =>
      simp only [e, thenS_ok] at q ⊢
      cases d <;> try rfl
      rename_i t
      cases t with
      | false => rfl
      | true =>
        dsimp only at q ⊢
        cases eb : b r h1 with
        | nx r2 h2 => simp only [eb] at q ⊢; exact whileN_more q m (by omega)
        | ct r2 h2 => simp only [eb] at q ⊢; exact whileN_more q m (by omega)
        | _ => rfl
theorem whileS_eq {c : EM} {b : SM} {n : Nat} {r : Sl} {h : Hs} (q : whileN c b n r h ≠ .no) : whileS c b r h = whileN c b n r h := by
  unfold whileS
  have ex : ∃ n, whileN c b n r h ≠ .no := ⟨n, q⟩
  rw [dif_pos ex]
  have q2 := Classical.choose_spec ex
  generalize Classical.choose ex = k at *
  rcases Nat.le_total n k with l | l
  · exact whileN_more q k l
  · exact (whileN_more q2 n l).symm
theorem while_q {c : EM} {b : SM} (I : Nat → Sl → Hs → Prop) (Q : SR → Prop)
    (step : ∀ n r h, I n r h → ∃ t h1, c r h = .ok (.bl t) h1 ∧ (t = false → Q (.nx r h1)) ∧ (t = true → Turn1 (fun r2 h2 => ∃ m, m < n ∧ I m r2 h2) Q (b r h1))) :
    ∀ n r h, I n r h → Q (whileS c b r h) := by
  have key : ∀ n r h, I n r h → ∃ k, whileN c b k r h ≠ .no ∧ Q (whileN c b k r h) := by
    intro n
    induction n using Nat.strongRecOn with
    | _ n ih =>
      intro r h w
      obtain ⟨t, h1, e, f, g⟩ := step n r h w
      cases t with
      | false =>
        refine ⟨1, ?_⟩
        unfold whileN
        simp only [e, thenS_ok]
        exact ⟨fun z => (by cases z), f rfl⟩
      | true =>
        have g := g rfl
        cases eb : b r h1 with
        | nx r2 h2 =>
          rw [eb] at g
          obtain ⟨m, lt, w2⟩ := g
          obtain ⟨k, k1, k2⟩ := ih m lt r2 h2 w2
          refine ⟨k + 1, ?_⟩
          unfold whileN
          simp only [e, thenS_ok, eb]
          exact ⟨k1, k2⟩
        | ct r2 h2 =>
          rw [eb] at g
          obtain ⟨m, lt, w2⟩ := g
          obtain ⟨k, k1, k2⟩ := ih m lt r2 h2 w2
          refine ⟨k + 1, ?_⟩
          unfold whileN
          simp only [e, thenS_ok, eb]
          exact ⟨k1, k2⟩
        | bk r2 h2 =>
          rw [eb] at g
          refine ⟨1, ?_⟩
          unfold whileN
          simp only [e, thenS_ok, eb]
          exact ⟨fun z => (by cases z), g⟩
        | rt v h2 =>
          rw [eb] at g
          refine ⟨1, ?_⟩
          unfold whileN
          simp only [e, thenS_ok, eb]
          exact ⟨fun z => (by cases z), g⟩
        | rz x r2 h2 =>
          rw [eb] at g
          refine ⟨1, ?_⟩
          unfold whileN
          simp only [e, thenS_ok, eb]
          exact ⟨fun z => (by cases z), g⟩
        | no => rw [eb] at g; exact g.elim
  intro n r h w
  obtain ⟨k, k1, k2⟩ := key n r h w
  rw [whileS_eq k1]
  exact k2
end Rg
namespace Rg
open PySem PySem.Spec PyProof.Rows L2
/-- the turn behind the assignment -/
def goT (J : Sl → Hs → Prop) (Q : SR → Prop) (b : SM) (h : Hs) : Option Sl → Prop
  | some r1 => Turn1 J Q (b r1 h)
  | none => False
@[simp] theorem goT_some {J : Sl → Hs → Prop} {Q : SR → Prop} {b : SM} {h : Hs} {r1 : Sl} : goT J Q b h (some r1) = Turn1 J Q (b r1 h) := rfl
/-- an answer with Q -/
def Sat (x : R Val) (Q : Val → Hs → Prop) : Prop := ∃ v h', x = .ok v h' ∧ Q v h'
@[simp] theorem sat_ok {v : Val} {h : Hs} {Q : Val → Hs → Prop} : Sat (.ok v h) Q ↔ Q v h :=
  ⟨fun ⟨_, _, e, q⟩ => by cases e; exact q, fun q => ⟨v, h, rfl, q⟩⟩
theorem Sat.imp {x : R Val} {Q Q' : Val → Hs → Prop} (s : Sat x Q) (i : ∀ v h, Q v h → Q' v h) : Sat x Q' := by
  obtain ⟨v, h, e, q⟩ := s
  exact ⟨v, h, e, i v h q⟩
/-- through a whole loop (generalize eo : forG .. = o first) -/
theorem for_of {it : ItV} {p : Pt} {b : SM} {n : Nat} {r : Sl} {h : Hs} {o : SR} (eo : forG it p b n 0 r h = o) (ds : List Val) (I : Nat → Sl → Hs → Prop) (hn : n = ds.length) (h0 : I 0 r h) (hat : ∀ i r h, I i r h → it.at_ h i = some ds[i]?)
    (step : ∀ i d r h, ds[i]? = some d → I i r h → goT (I (i + 1)) (fun _ => False) b h (asgP h p d r)) : ∃ r' h', o = .nx r' h' ∧ I ds.length r' h' := by
  subst eo
  refine forG_q (it := it) (p := p) (b := b) ds I (fun o => ∃ r' h', o = .nx r' h' ∧ I ds.length r' h') hat (fun i d r h e w => ?_) (fun r h w => ⟨r, h, rfl, w⟩) n 0 r h (by omega) h0
  have t := step i d r h e w
  cases e1 : asgP h p d r with
  | none => rw [e1] at t; exact t.elim
  | some r1 =>
    rw [e1] at t
    refine ⟨r1, rfl, ?_⟩
    simp only [goT_some] at t
    cases eb : b r1 h <;> rw [eb] at t <;> first | exact t | exact t.elim
/-- as for_of, with an early way out: Q -/
theorem for_out {it : ItV} {p : Pt} {b : SM} {n : Nat} {r : Sl} {h : Hs} {o : SR} (eo : forG it p b n 0 r h = o) (ds : List Val) (I : Nat → Sl → Hs → Prop) (Q : SR → Prop) (hn : n = ds.length) (h0 : I 0 r h) (hat : ∀ i r h, I i r h → it.at_ h i = some ds[i]?)
    (step : ∀ i d r h, ds[i]? = some d → I i r h → goT (I (i + 1)) Q b h (asgP h p d r)) (fin : ∀ r h, I ds.length r h → Q (.nx r h)) : Q o := by
  subst eo
  refine forG_q (it := it) (p := p) (b := b) ds I Q hat (fun i d r h e w => ?_) fin n 0 r h (by omega) h0
  have t := step i d r h e w
  cases e1 : asgP h p d r with
  | none => rw [e1] at t; exact t.elim
  | some r1 => rw [e1] at t; exact ⟨r1, rfl, t⟩
/-- the element behind the assignment -/
def elT (e : EM) (h : Hs) (v : Val) : Option Sl → Prop
  | some r1 => e r1 h = .ok v h ∧ isTmp v = false
  | none => False
@[simp] theorem elT_some {e : EM} {h : Hs} {v : Val} {r1 : Sl} : elT e h v (some r1) = (e r1 h = .ok v h ∧ isTmp v = false) := rfl
theorem lc_of {it : ItV} {p : Pt} {e : EM} {n : Nat} {vs : List Nat} {r : Sl} {h : Hs} {o : R (List Val)} (eo : lcG it p (cM (.bl true)) e vs n 0 r h = o) (ds : List Val) (g : Val → Val) (hn : n = ds.length) (hat : ∀ i, it.at_ h i = some ds[i]?)
    (st : ∀ d ∈ ds, elT e h (g d) (asgP h p d (wipeS r vs))) : o = .ok (ds.map g) h := by
  subst eo
  have := lcG_pure (t := cM (.bl true)) ds (fun _ => true) g hat (fun d hd => by
    have q := st d hd
    cases e1 : asgP h p d (wipeS r vs) with
    | none => rw [e1] at q; exact q.elim
    | some r1 => rw [e1] at q; exact ⟨r1, rfl, rfl, fun _ => q⟩) n 0 (by omega)
  rw [this, List.drop_zero, List.filter_eq_self.mpr (fun _ _ => rfl)]
theorem while_of {c : EM} {b : SM} {r : Sl} {h : Hs} {o : SR} (eo : whileS c b r h = o) (I : Nat → Sl → Hs → Prop) (n : Nat) (h0 : I n r h)
    (step : ∀ n r h, I n r h → ∃ t, c r h = .ok (.bl t) h ∧ (t = true → Turn1 (fun r2 h2 => ∃ m, m < n ∧ I m r2 h2) (fun _ => False) (b r h))) : ∃ n' r' h', o = .nx r' h' ∧ I n' r' h' ∧ c r' h' = .ok (.bl false) h' := by
  subst eo
  refine while_q I (fun o => ∃ n' r' h', o = .nx r' h' ∧ I n' r' h' ∧ c r' h' = .ok (.bl false) h') (fun n r h w => ?_) n r h h0
  obtain ⟨t, e, st⟩ := step n r h w
  refine ⟨t, h, e, fun z => ⟨n, r, h, rfl, w, by rw [e, z]⟩, fun z => ?_⟩
  have st := st z
  cases eb : b r h <;> rw [eb] at st <;> first | exact st | exact st.elim
theorem lineN : sizeLine = 16777216 := by rw [sizeLine_eq]
theorem at_0 {d : Val} {ds : List Val} : atI (d :: ds) 0 = some d := at_nat (n := 0) rfl
end Rg
namespace Rg
open PySem PySem.Spec PyProof.Rows L2
theorem get_last {h : Hs} {n : Nat} {o : Ob} (e : h.length = n) : (h ++ [o])[n]? = some o := by subst e; simp
theorem set_last {h : Hs} {n : Nat} {o o' : Ob} (e : h.length = n) : (h ++ [o]).set n o' = h ++ [o'] := by subst e; simp
/-- an end with a list of one's own, nothing else -/
theorem leave_l0 {h h1 : Hs} {ds : List Val} (q : Old h h1) (n : noRefs ds = true) : leave h (.ref h.length) (h1 ++ [.lst ds]) = .ok (.tl ds) h1 :=
  leave_l (k := 0) q rfl n
end Rg
namespace Rg
open PySem PySem.Spec PyProof.Rows L2 TL

/-! ### numbers as texts -/
/-- the text of a number -/
def nS (n : Nat) : Str := Str.ofString (toString ((n : Nat) : Int))
theorem nS_tl (n : Nat) : (nS n).cps.toList = numL n := tl_num n
theorem nS_len (n : Nat) : (nS n).length = (numL n).length := by
  show (nS n).cps.size = _
  rw [← nS_tl, Array.length_toList]
theorem numL_head : ∀ (n : Nat), 1 ≤ n → ∃ c r, numL n = c :: r ∧ 49 ≤ c := by
  intro n
  induction n using Nat.strongRecOn with
  | _ n ih =>
    intro h1
    by_cases c : n < 10
    · exact ⟨48 + n, [], numL_lt c, by omega⟩
    · obtain ⟨d, r, e, h⟩ := ih (n / 10) (by omega) (by omega)
      exact ⟨d, r ++ [48 + n % 10], by rw [numL_step (by omega), e]; rfl, h⟩
theorem str_ext {a b : Str} (h : a.cps.toList = b.cps.toList) : a = b := by
  cases a; cases b
  simp only at h
  congr 1
  exact Array.toList_inj.mp h
theorem nS_zero : nS 0 = "0" := by decide +kernel
theorem nS_int (n : Nat) (l : (nS n).length ≤ 640) : PySem.intText? (nS n) = some (n : Int) := by
  have d : NumText.AllDigits (nS n).cps.toList := by rw [nS_tl]; exact numL_digits n
  have := PySem.intText_digits d (by rw [nS_tl]; exact numL_ne n) (by omega)
  rw [this, nS_tl, numL_val]
theorem nS_ok (n : Nat) : SeqAt.shaped (.str (nS n)) = true := by
  unfold SeqAt.shaped
  have : PyData.canLay0 (.str (nS n)) = true := by
    show PySem.PyData.strOk (nS n) = true
    unfold PySem.PyData.strOk
    rw [← Array.all_toList, List.all_eq_true, nS_tl]
    intro c hc
    have := numL_digits n c hc
    simp; omega
  rw [this]; rfl

/-! ### words between blanks -/
/-- a text that is a word: no blank in it, signs as they may be -/
def Word (w : Str) : Prop := 32 ∉ w.cps.toList ∧ PyData.strOk w = true
theorem nS_word (n : Nat) : Word (nS n) := by
  refine ⟨by rw [nS_tl]; exact numL_free (by omega), ?_⟩
  unfold PySem.PyData.strOk
  rw [← Array.all_toList, List.all_eq_true, nS_tl]
  intro c hc
  have := numL_digits n c hc
  simp; omega
/-- words read back -/
theorem split_words {ws : List Str} (h : ws ≠ []) (hw : ∀ w ∈ ws, Word w) : Txt.split (Txt.join " " ws) " " = ws :=
  split_join (y := " ") (s := 32) (S := []) (by decide +kernel) (by decide +kernel) h fun w hm => (hw w hm).1
theorem sum_le {ws : List Str} {k : Nat} (h : ∀ w ∈ ws, w.length ≤ k) : (ws.map (·.length)).sum ≤ ws.length * k := by
  induction ws with
  | nil => simp
  | cons a t ih =>
    have h1 := h a List.mem_cons_self
    have h2 := ih fun w hw => h w (List.mem_cons_of_mem _ hw)
    simp only [List.map_cons, List.sum_cons, List.length_cons, Nat.add_mul]
    omega
theorem join_len {ws : List Str} : (Txt.join " " ws).length ≤ (ws.map (·.length)).sum + ws.length := by
  have := PySem.StrLaws.join_length_le " " ws
  rw [join_eq]
  have e : (" " : Str).length = 1 := by decide +kernel
  rw [e] at this
  omega
/-! ### deep equality -/
theorem shaped_strs {ws : List Str} (h : ∀ w ∈ ws, PyData.strOk w = true) : SeqAt.shaped (.list (pys (ws.map Val.str))) = true := by
  have h1 : PyData.canLay0 (.list (pys (ws.map Val.str))) = true := by
    show PyData.canLayAll0 (pys (ws.map Val.str)) = true
    induction ws with
    | nil => rfl
    | cons a t ih =>
      show (PyData.canLay0 (.str a) && PyData.canLayAll0 (pys (t.map Val.str))) = true
      rw [ih fun w hw => h w (List.mem_cons_of_mem _ hw)]
      show (PyData.strOk a && true) = true
      rw [h a List.mem_cons_self]; rfl
  have h2 : PyData.depthAll (pys (ws.map Val.str)) = 0 := by
    clear h h1
    induction ws with
    | nil => rfl
    | cons a t ih =>
      show max (PyData.depth (.str a)) (PyData.depthAll (pys (t.map Val.str))) = 0
      rw [ih]; rfl
  unfold SeqAt.shaped
  rw [h1]
  have : PyData.depth (.list (pys (ws.map Val.str))) = 1 := by
    show PyData.depthAll (pys (ws.map Val.str)) + 1 = 1
    rw [h2]
  rw [this]; rfl
theorem look_L {h : Hs} {a : Val} {ds : List Val} (e : asL h a = some ds) : py (look h a) = .list (pys ds) := by
  cases a <;> first | (cases e; done) | skip
  · cases e; rfl
  · unfold asL at e
    dsimp only at e
    unfold look
    dsimp only
    rename_i l
    cases o : h[l]? with
    | none => simp only [o] at e; cases e
    | some ob =>
      cases ob with
      | lst xs =>
        simp only [o] at e ⊢
        cases e; rfl
      | dct _ => simp only [o] at e; cases e
  · cases e; rfl
theorem scV_L {h : Hs} {a : Val} {ds : List Val} (e : asL h a = some ds) : scV a = none := by
  cases a <;> first | (cases e; done) | rfl
/-- of two lists -/
theorem eq_LL {h : Hs} {a b : Val} {ds es : List Val} (e : asL h a = some ds) (f : asL h b = some es) (s1 : SeqAt.shaped (.list (pys ds)) = true) (s2 : SeqAt.shaped (.list (pys es)) = true) : eqF h a b = .ok (.bl (PyData.eqvAll (pys ds) (pys es))) h := by
  unfold eqF or2 onScal
  rw [scV_L e]
  simp only [orElse_no]
  unfold onPy
  rw [look_L e, look_L f, gd_pos ⟨s1, s2⟩]; rfl
theorem ne_LL {h : Hs} {a b : Val} {ds es : List Val} (e : asL h a = some ds) (f : asL h b = some es) (s1 : SeqAt.shaped (.list (pys ds)) = true) (s2 : SeqAt.shaped (.list (pys es)) = true) : neF h a b = .ok (.bl (!PyData.eqvAll (pys ds) (pys es))) h := by
  unfold neF or2 onScal
  rw [scV_L e]
  simp only [orElse_no]
  unfold onPy
  rw [look_L e, look_L f, gd_pos ⟨s1, s2⟩]; rfl
theorem eqv_nil {ds : List Val} : PyData.eqvAll (pys ds) (pys []) = ds.isEmpty := by cases ds <;> rfl
theorem shaped_nil : SeqAt.shaped (.list (pys [])) = true := by decide +kernel
mutual
theorem eqv_refl : ∀ d : PyData, PyData.canLay0 d = true → PyData.eqv d d = true
  | .none, _ => by simp [PyData.eqv]
  | .bool _, _ => by simp [PyData.eqv]
  | .int _, _ => by simp [PyData.eqv]
  | .str _, _ => by simp [PyData.eqv]
  | .list xs, h => by
    rw [PyData.eqv]; exact eqvAll_refl xs h
  | .tuple xs, h => by
    rw [PyData.eqv]; exact eqvAll_refl xs h
  | .dict _, h => by cases h
theorem eqvAll_refl : ∀ ds : List PyData, PyData.canLayAll0 ds = true → PyData.eqvAll ds ds = true
  | [], _ => by simp [PyData.eqvAll]
  | x :: xs, h => by
    have h' : (PyData.canLay0 x && PyData.canLayAll0 xs) = true := h
    rw [Bool.and_eq_true] at h'
    rw [PyData.eqvAll, eqv_refl x h'.1, eqvAll_refl xs h'.2]; rfl
end
end Rg
set_option maxHeartbeats 4000000
namespace K80
open PySem PySem.Spec PyProof.Rows L2 Rg
/-! ### the text -/
def topS (i : Nat) : Stmt := PySem.Challenge.pw_ringfell_k80_numbers_and_logs_written.main.body.getD i (.Pass ⟨0, 0, 0, 0⟩)
abbrev s__law_take : Stmt := topS 23
abbrev s__law_row : Stmt := topS 25
abbrev s__law_steps : Stmt := topS 26
abbrev s__law_text : Stmt := topS 27
abbrev s_words_of : Stmt := topS 15
abbrev s_is_empty : Stmt := topS 16
abbrev s_number_read : Stmt := topS 14
abbrev s_place_at : Stmt := topS 18
abbrev s_step_at : Stmt := topS 19
abbrev s_read_log : Stmt := topS 20
abbrev s__law_deal : Stmt := topS 22
abbrev s__law_same : Stmt := topS 24
abbrev s_words_text : Stmt := topS 11
abbrev s_numbers_text : Stmt := topS 12
abbrev s_log_text : Stmt := topS 13
abbrev s_read_numbers : Stmt := topS 17
abbrev s_law : Stmt := topS 28
/-! ### what the defs do -/
def d_EMPTY : Val := .str "-"
def d_MOST_FIGURES : Val := .int (61)
def d_FIGURES : Val := .str "0123456789"
def d_MOST_PLACES : Val := .int (40)
def d_MOST_STEPS : Val := .int (300)
def d_MOST_NUMBER : Val := .int (1000000000000000000000000000000000000000000000000000000000000)
def d_MOST_NUMBERS : Val := .int (60)
noncomputable def b__law_take : SM := (seqS (setS 2 (op2 modF (op2 ixF (vM 0) (cM (.int 0))) (vM 1))) (seqS (stS (vM 0) (cM (.int 0)) (op2 fdivF (op2 ixF (vM 0) (cM (.int 0))) (vM 1))) (retS (vM 2))))
noncomputable def m__law_take : Fn := runF 3 b__law_take
noncomputable def b__law_row : SM := (seqS (setS 1 (mtE (lstM aNil))) (seqS (forS (rng1 (op2 ixF (lstM (aCons (cM (.int 0)) (aCons (cM (.int 1)) (aCons (cM (.int 2)) (aCons (cM (.int 7)) (aCons (cM (.int 60)) aNil)))))) (callE 2 m__law_take (aCons (vM 0) (aCons (cM (.int 5)) aNil))))) (.nm 2) (seqS (setS 3 (op2 ixF (lstM (aCons (cM (.int 1)) (aCons (cM (.int 10)) (aCons (cM (.int 41)) (aCons (op2 addF (op2 powF (cM (.int 10)) (cM (.int 60))) (cM (.int 1))) aNil))))) (callE 2 m__law_take (aCons (vM 0) (aCons (cM (.int 4)) aNil))))) (dropS (mt1 "list" appF (vM 1) (op2 ixF (lstM (aCons (fzE (callE 2 m__law_take (aCons (vM 0) (aCons (vM 3) aNil)))) (aCons (cM (.int 0)) (aCons (op2 powF (cM (.int 10)) (cM (.int 60))) aNil)))) (op2 min2F (cM (.int 2)) (op2 fdivF (callE 2 m__law_take (aCons (vM 0) (aCons (cM (.int 9)) aNil))) (cM (.int 3))))))))) (retS (vM 1))))
noncomputable def m__law_row : Fn := runF 4 b__law_row
noncomputable def b__law_steps : SM := (seqS (setS 1 (mtE (lstM aNil))) (seqS (forS (rng1 (op2 ixF (lstM (aCons (cM (.int 0)) (aCons (cM (.int 1)) (aCons (cM (.int 3)) (aCons (cM (.int 12)) (aCons (cM (.int 300)) aNil)))))) (callE 2 m__law_take (aCons (vM 0) (aCons (cM (.int 5)) aNil))))) (.nm 2) (seqS (setS 3 (op2 ixF (lstM (aCons (cM (.str "lone")) (aCons (cM (.str "two")) (aCons (cM (.str "loop")) (aCons (cM (.str "many")) aNil))))) (callE 2 m__law_take (aCons (vM 0) (aCons (cM (.int 4)) aNil))))) (seqS (setS 4 (fzE (callE 2 m__law_take (aCons (vM 0) (aCons (cM (.int 40)) aNil))))) (ifS (op2 eqF (vM 3) (cM (.str "many"))) (seqS (setS 4 (op2 modF (vM 4) (cM (.int 39)))) (dropS (mt1 "list" appF (vM 1) (tupM (aCons (vM 3) (aCons (vM 4) (aCons (fzE (op2 addF (op2 addF (vM 4) (cM (.int 1))) (callE 2 m__law_take (aCons (vM 0) (aCons (op2 subF (cM (.int 39)) (vM 4)) aNil))))) aNil))))))) (dropS (mt1 "list" appF (vM 1) (tupM (aCons (vM 3) (aCons (vM 4) aNil))))))))) (retS (vM 1))))
noncomputable def m__law_steps : Fn := runF 5 b__law_steps
noncomputable def b__law_text : SM := (seqS (ifS (op2 eqF (vM 0) (lstM aNil)) (retS (cM (.str "-"))) skipS) (retS (mt1 "str" joinF (cM (.str " ")) (vM 0))))
noncomputable def m__law_text : Fn := runF 1 b__law_text
noncomputable def b_words_of : SM := (seqS (ifS (notE (truE (op1 (isiF "str") (vM 0)))) noS skipS) (retS (mt1 "str" splitF (vM 0) (cM (.str " ")))))
noncomputable def m_words_of : Fn := runF 1 b_words_of
noncomputable def b_is_empty : SM := (seqS (ifS (andE (op2 eqF (op2 ixF (vM 0) (cM (.int 0))) (cM d_EMPTY)) (op2 gtF (op1 lenF (vM 0)) (cM (.int 1)))) noS skipS) (retS (op2 eqF (op2 ixF (vM 0) (cM (.int 0))) (cM d_EMPTY))))
noncomputable def m_is_empty : Fn := runF 1 b_is_empty
noncomputable def b_number_read : SM := (seqS (ifS (orE (op2 eqF (vM 0) (cM (.str ""))) (orE (op2 gtF (op1 lenF (vM 0)) (cM d_MOST_FIGURES)) (notE (truE (op1 allF (lcM (seqI (vM 0)) (.nm 2) (cM (.bl true)) (op2 (inF false) (vM 2) (cM d_FIGURES)) [2])))))) (retS (cM .non)) skipS) (seqS (ifS (orE (andE (op2 eqF (op2 ixF (vM 0) (cM (.int 0))) (cM (.str "0"))) (op2 neF (vM 0) (cM (.str "0")))) (op2 gtF (op1 intF (vM 0)) (vM 1))) (retS (cM .non)) skipS) (retS (op1 intF (vM 0)))))
noncomputable def m_number_read : Fn := runF 3 b_number_read
noncomputable def b_place_at : SM := (seqS (ifS (op2 eqF (vM 1) (op1 lenF (vM 0))) noS skipS) (seqS (setS 2 (fzE (callE 2 m_number_read (aCons (op2 ixF (vM 0) (vM 1)) (aCons (op2 subF (cM d_MOST_PLACES) (cM (.int 1))) aNil))))) (seqS (ifS (op2 isF (vM 2) (cM .non)) noS skipS) (retS (vM 2)))))
noncomputable def m_place_at : Fn := runF 3 b_place_at
noncomputable def b_step_at : SM := (seqS (setS 2 (op2 ixF (vM 0) (vM 1))) (seqS (ifS (op2 (inF true) (vM 2) (tupM (aCons (cM (.str "lone")) (aCons (cM (.str "two")) (aCons (cM (.str "loop")) (aCons (cM (.str "many")) aNil)))))) noS skipS) (seqS (setS 3 (fzE (callE 2 m_place_at (aCons (vM 0) (aCons (op2 addF (vM 1) (cM (.int 1))) aNil))))) (seqS (ifS (op2 neF (vM 2) (cM (.str "many"))) (retS (tupM (aCons (vM 2) (aCons (vM 3) aNil)))) skipS) (seqS (setS 4 (fzE (callE 2 m_place_at (aCons (vM 0) (aCons (op2 addF (vM 1) (cM (.int 2))) aNil))))) (seqS (ifS (op2 geF (vM 3) (vM 4)) noS skipS) (retS (tupM (aCons (vM 2) (aCons (vM 3) (aCons (vM 4) aNil)))))))))))
noncomputable def m_step_at : Fn := runF 5 b_step_at
noncomputable def b_read_log : SM := (seqS (setS 1 (fzE (callE 1 m_words_of (aCons (vM 0) aNil)))) (seqS (ifS (truE (callE 1 m_is_empty (aCons (vM 1) aNil))) (retS (lstM aNil)) skipS) (seqS (setS 2 (mtE (lstM aNil))) (seqS (setS 3 (cM (.int 0))) (seqS (whileS (op2 ltF (vM 3) (op1 lenF (vM 1))) (seqS (ifS (op2 eqF (op1 lenF (vM 2)) (cM d_MOST_STEPS)) noS skipS) (seqS (setS 4 (fzE (callE 2 m_step_at (aCons (vM 1) (aCons (vM 3) aNil))))) (seqS (dropS (mt1 "list" appF (vM 2) (vM 4))) (setS 3 (op2 addF (vM 3) (op1 lenF (vM 4)))))))) (retS (vM 2)))))))
noncomputable def m_read_log : Fn := runF 5 b_read_log
noncomputable def b__law_deal : SM := (seqS (ifS (op2 geF (vM 0) (op2 powF (cM (.int 10)) (cM (.int 18)))) (retS (op2 subF (vM 0) (op2 powF (cM (.int 10)) (cM (.int 18))))) skipS) (seqS (setS 2 (cM (.int 0))) (seqS (setS 3 (op2 addF (op2 modF (vM 0) (cM (.int 2147483647))) (cM (.int 16807)))) (seqS (forS (rng1 (vM 1)) (.nm 4) (seqS (setS 3 (op2 modF (op2 addF (op2 addF (op2 mulF (vM 3) (cM (.int 48271))) (op2 mulF (op2 mulF (cM (.int 7919)) (vM 4)) (vM 4))) (cM (.int 104729))) (cM (.int 2147483647)))) (seqS (setS 5 (op2 modF (op2 mulF (vM 3) (vM 3)) (cM (.int 2147483629)))) (setS 2 (op2 addF (op2 mulF (vM 2) (cM (.int 65536))) (op2 modF (op2 fdivF (vM 5) (cM (.int 512))) (cM (.int 65536)))))))) (retS (vM 2))))))
noncomputable def m__law_deal : Fn := runF 6 b__law_deal
noncomputable def b__law_same (rec : Fn) : SM := (seqS (ifS (truE (op1 (isi2F "tuple" "list") (vM 1))) (seqS (ifS (orE (op2 neF (op1 (isiF "tuple") (vM 0)) (op1 (isiF "tuple") (vM 1))) (notE (truE (op1 (isi2F "tuple" "list") (vM 0))))) (retS (cM (.bl false))) skipS) (retS (andE (op2 eqF (op1 lenF (vM 0)) (op1 lenF (vM 1))) (op1 allF (lcM (zpI (vM 0) (vM 1)) (.tp [(.nm 2), (.nm 3)]) (cM (.bl true)) (fzE (callE 2 rec (aCons (vM 2) (aCons (vM 3) aNil)))) [2, 3]))))) skipS) (seqS (ifS (truE (op1 (isiF "str") (vM 1))) (retS (andE (op1 (isiF "str") (vM 0)) (op2 eqF (vM 0) (vM 1)))) skipS) (retS (andE (op1 (isiF "int") (vM 0)) (andE (notE (op1 (isiF "bool") (vM 0))) (op2 eqF (vM 0) (vM 1)))))))
noncomputable def m__law_same : Nat → Fn
  | 0 => fun _ _ => .no
  | k + 1 => runF 4 (b__law_same (m__law_same k))
noncomputable def b_words_text : SM := (seqS (ifS (op2 eqF (vM 0) (lstM aNil)) (retS (cM d_EMPTY)) skipS) (retS (mt1 "str" joinF (cM (.str " ")) (vM 0))))
noncomputable def m_words_text : Fn := runF 1 b_words_text
noncomputable def b_numbers_text : SM := (retS (callE 1 m_words_text (aCons (fzE (lcM (seqI (vM 0)) (.nm 1) (cM (.bl true)) (op1 strF (vM 1)) [1])) aNil)))
noncomputable def m_numbers_text : Fn := runF 2 b_numbers_text
noncomputable def b_log_text : SM := (seqS (setS 1 (mtE (lstM aNil))) (seqS (forS (seqI (vM 0)) (.nm 2) (seqS (dropS (mt1 "list" appF (vM 1) (op2 ixF (vM 2) (cM (.int 0))))) (dropS (mt1 "list" extF (vM 1) (lcM (seqI (slM (vM 2) (oSo (cM (.int 1))) oNo)) (.nm 3) (cM (.bl true)) (op1 strF (vM 3)) [3]))))) (retS (callE 1 m_words_text (aCons (vM 1) aNil)))))
noncomputable def m_log_text : Fn := runF 4 b_log_text
noncomputable def b_read_numbers : SM := (seqS (setS 1 (fzE (callE 1 m_words_of (aCons (vM 0) aNil)))) (seqS (ifS (truE (callE 1 m_is_empty (aCons (vM 1) aNil))) (retS (tupM aNil)) skipS) (seqS (setS 2 (mtE (lstM aNil))) (seqS (forS (enI (vM 1)) (.tp [(.nm 3), (.nm 4)]) (seqS (setS 5 (fzE (callE 2 m_number_read (aCons (vM 4) (aCons (cM d_MOST_NUMBER) aNil))))) (seqS (ifS (orE (op2 isF (vM 5) (cM .non)) (op2 eqF (vM 3) (cM d_MOST_NUMBERS))) noS skipS) (dropS (mt1 "list" appF (vM 2) (vM 5)))))) (retS (op1 tupleF (vM 2)))))))
noncomputable def m_read_numbers : Fn := runF 6 b_read_numbers
noncomputable def b_law : SM := (seqS (forS (seqI (op2 addF (slM (vM 0) oNo (oSo (cM (.int 10)))) (lstM (aCons (cM (.int 8)) aNil)))) (.nm 1) (seqS (setS 2 (mtE (lstM (aCons (fzE (callE 2 m__law_deal (aCons (vM 1) (aCons (cM (.int 300)) aNil)))) aNil)))) (seqS (setS 3 (fzE (callE 1 m__law_row (aCons (vM 2) aNil)))) (seqS (setS 4 (fzE (callE 1 m__law_steps (aCons (vM 2) aNil)))) (seqS (setS 5 (mtE (lstM aNil))) (seqS (forS (seqI (vM 4)) (.nm 6) (dropS (mt1 "list" extF (vM 5) (op2 addF (lstM (aCons (op2 ixF (vM 6) (cM (.int 0))) aNil)) (lcM (seqI (slM (vM 6) (oSo (cM (.int 1))) oNo)) (.nm 12) (cM (.bl true)) (op1 strF (vM 12)) [12]))))) (seqS (setS 7 (fzE (callE 1 m__law_text (aCons (fzE (lcM (seqI (vM 3)) (.nm 11) (cM (.bl true)) (op1 strF (vM 11)) [11])) aNil)))) (seqS (setS 8 (fzE (callE 1 m__law_text (aCons (vM 5) aNil)))) (seqS (setS 9 (fzE (op1 listF (vM 4)))) (seqS (ifS (orE (notE (truE (callE 2 (m__law_same 8) (aCons (fzE (callE 1 m_numbers_text (aCons (fzE (op1 listF (vM 3))) aNil))) (aCons (vM 7) aNil))))) (notE (truE (callE 2 (m__law_same 8) (aCons (fzE (callE 1 m_numbers_text (aCons (op1 tupleF (vM 3)) aNil))) (aCons (vM 7) aNil)))))) (retS (cM (.bl false))) skipS) (seqS (ifS (orE (notE (truE (callE 2 (m__law_same 8) (aCons (fzE (callE 1 m_log_text (aCons (vM 9) aNil))) (aCons (vM 8) aNil))))) (orE (notE (truE (callE 2 (m__law_same 8) (aCons (fzE (callE 1 m_log_text (aCons (op1 tupleF (vM 4)) aNil))) (aCons (vM 8) aNil))))) (op2 neF (vM 9) (vM 4)))) (retS (cM (.bl false))) skipS) (seqS (setS 10 (mtE (callE 1 m_read_log (aCons (vM 8) aNil)))) (seqS (ifS (orE (notE (truE (callE 2 (m__law_same 8) (aCons (fzE (callE 1 m_read_numbers (aCons (vM 7) aNil))) (aCons (op1 tupleF (vM 3)) aNil))))) (notE (truE (callE 2 (m__law_same 8) (aCons (vM 10) (aCons (vM 4) aNil)))))) (retS (cM (.bl false))) skipS) (seqS (dropS (mt1 "list" appF (vM 10) (tupM (aCons (cM (.str "lone")) (aCons (cM (.int 0)) aNil))))) (ifS (notE (truE (callE 2 (m__law_same 8) (aCons (fzE (callE 1 m_read_log (aCons (vM 8) aNil))) (aCons (vM 4) aNil))))) (retS (cM (.bl false))) skipS))))))))))))))) (retS (cM (.bl true))))
noncomputable def m_law : Fn := runF 13 b_law
/-! ### the defs -/
section
variable {P : Program} {w : World} {K : PySem.W.Frag} {mg : Str → Option Value} {base : Heap}
theorem g_EMPTY {X : Cx} {pos : Pos} {u : Value} (hg : Gl X "EMPTY") (hm : X.mg "EMPTY" = some u ∧ RelV (V.str "-") u) : SE X (.Name "EMPTY" pos) (cM d_EMPTY) := se_glob (v := (V.str "-")) (fun _ _ _ => rfl) hg hm.1 hm.2
theorem g_MOST_FIGURES {X : Cx} {pos : Pos} {u : Value} (hg : Gl X "MOST_FIGURES") (hm : X.mg "MOST_FIGURES" = some u ∧ RelV (V.int (61)) u) : SE X (.Name "MOST_FIGURES" pos) (cM d_MOST_FIGURES) := se_glob (v := (V.int (61))) (fun _ _ _ => rfl) hg hm.1 hm.2
theorem g_FIGURES {X : Cx} {pos : Pos} {u : Value} (hg : Gl X "FIGURES") (hm : X.mg "FIGURES" = some u ∧ RelV (V.str "0123456789") u) : SE X (.Name "FIGURES" pos) (cM d_FIGURES) := se_glob (v := (V.str "0123456789")) (fun _ _ _ => rfl) hg hm.1 hm.2
theorem g_MOST_PLACES {X : Cx} {pos : Pos} {u : Value} (hg : Gl X "MOST_PLACES") (hm : X.mg "MOST_PLACES" = some u ∧ RelV (V.int (40)) u) : SE X (.Name "MOST_PLACES" pos) (cM d_MOST_PLACES) := se_glob (v := (V.int (40))) (fun _ _ _ => rfl) hg hm.1 hm.2
theorem g_MOST_STEPS {X : Cx} {pos : Pos} {u : Value} (hg : Gl X "MOST_STEPS") (hm : X.mg "MOST_STEPS" = some u ∧ RelV (V.int (300)) u) : SE X (.Name "MOST_STEPS" pos) (cM d_MOST_STEPS) := se_glob (v := (V.int (300))) (fun _ _ _ => rfl) hg hm.1 hm.2
theorem g_MOST_NUMBER {X : Cx} {pos : Pos} {u : Value} (hg : Gl X "MOST_NUMBER") (hm : X.mg "MOST_NUMBER" = some u ∧ RelV (V.int (1000000000000000000000000000000000000000000000000000000000000)) u) : SE X (.Name "MOST_NUMBER" pos) (cM d_MOST_NUMBER) := se_glob (v := (V.int (1000000000000000000000000000000000000000000000000000000000000))) (fun _ _ _ => rfl) hg hm.1 hm.2
theorem g_MOST_NUMBERS {X : Cx} {pos : Pos} {u : Value} (hg : Gl X "MOST_NUMBERS") (hm : X.mg "MOST_NUMBERS" = some u ∧ RelV (V.int (60)) u) : SE X (.Name "MOST_NUMBERS" pos) (cM d_MOST_NUMBERS) := se_glob (v := (V.int (60))) (fun _ _ _ => rfl) hg hm.1 hm.2
theorem sc__law_take : FnScope ["pot", "many", "digit"] ["pot", "many"] (defScope s__law_take) := ⟨rfl, rfl, rfl, by decide +kernel, rfl, by decide +kernel, by decide +kernel⟩
theorem ok__law_take {a : Addr} {fd : FuncData} (F : Fun K "_law_take" "_law_take" s__law_take a fd)  : FnOk P w K mg base (L2.CX P w) 1 a fd ["pot", "many"] (spM K mg 2 m__law_take) :=
  fn_is (k := 0) (b := b__law_take) F sc__law_take rfl rfl rfl <| fun cdv A outer s H E hr => by
    have g : XG (cxOf (L2.CX P w) P w K mg base ["pot", "many", "digit"] "_law_take" (defScope s__law_take) a cdv A outer s H E) := ⟨rfl, sc__law_take.nd, passes_of rfl⟩
    exact (sss_cons (ss_set 2 g.nd (se_mod (se_ixA hr (se_var 0) se_int) (se_var 1))) (sss_cons (ss_store hr (se_var 0) se_int (se_fdiv (se_ixA hr (se_var 0) se_int) (se_var 1))) (sss_one (ss_ret (se_var 2)))))
theorem sc__law_row : FnScope ["pot", "row", "k", "most"] ["pot"] (defScope s__law_row) := ⟨rfl, rfl, rfl, by decide +kernel, rfl, by decide +kernel, by decide +kernel⟩
theorem ok__law_row {a : Addr} {fd : FuncData} (F : Fun K "_law_row" "_law_row" s__law_row a fd) (D__law_take : Df P w K mg base 1 "_law_take" 2 m__law_take) (z_range : mg "range" = none) (z_min : mg "min" = none) : FnOk P w K mg base (L2.CX P w) 2 a fd ["pot"] (spM K mg 1 m__law_row) :=
  fn_is (k := 1) (b := b__law_row) F sc__law_row rfl rfl rfl <| fun cdv A outer s H E hr => by
    have g : XG (cxOf (L2.CX P w) P w K mg base ["pot", "row", "k", "most"] "_law_row" (defScope s__law_row) a cdv A outer s H E) := ⟨rfl, sc__law_row.nd, passes_of rfl⟩
    exact (sss_cons (ss_set 1 g.nd (se_mt (se_lst sa_nil))) (sss_cons (ss_for g (si_rng1 rfl z_range (se_ixA hr (se_lst (sa_cons se_int (sa_cons se_int (sa_cons se_int (sa_cons se_int (sa_cons se_int sa_nil)))))) (se_call D__law_take (hr.mono (by decide)) rfl (sa_cons (se_var 0) (sa_cons se_int sa_nil))))) (sg_name 2 g.nd) (sss_cons (ss_set 3 g.nd (se_ixA hr (se_lst (sa_cons se_int (sa_cons se_int (sa_cons se_int (sa_cons (se_add (se_pow se_int se_int) se_int) sa_nil))))) (se_call D__law_take (hr.mono (by decide)) rfl (sa_cons (se_var 0) (sa_cons se_int sa_nil))))) (sss_one (ss_expr (se_append (se_var 1) (se_ixA hr (se_lst (sa_cons (se_fz (se_call D__law_take (hr.mono (by decide)) rfl (sa_cons (se_var 0) (sa_cons (se_var 3) sa_nil)))) (sa_cons se_int (sa_cons (se_pow se_int se_int) sa_nil)))) (se_min2 g.calm rfl z_min se_int (se_fdiv (se_call D__law_take (hr.mono (by decide)) rfl (sa_cons (se_var 0) (sa_cons se_int sa_nil))) se_int)))))))) (sss_one (ss_ret (se_var 1)))))
theorem sc__law_steps : FnScope ["pot", "log", "k", "word", "place"] ["pot"] (defScope s__law_steps) := ⟨rfl, rfl, rfl, by decide +kernel, rfl, by decide +kernel, by decide +kernel⟩
theorem ok__law_steps {a : Addr} {fd : FuncData} (F : Fun K "_law_steps" "_law_steps" s__law_steps a fd) (D__law_take : Df P w K mg base 1 "_law_take" 2 m__law_take) (z_range : mg "range" = none) : FnOk P w K mg base (L2.CX P w) 2 a fd ["pot"] (spM K mg 1 m__law_steps) :=
  fn_is (k := 1) (b := b__law_steps) F sc__law_steps rfl rfl rfl <| fun cdv A outer s H E hr => by
    have g : XG (cxOf (L2.CX P w) P w K mg base ["pot", "log", "k", "word", "place"] "_law_steps" (defScope s__law_steps) a cdv A outer s H E) := ⟨rfl, sc__law_steps.nd, passes_of rfl⟩
    exact (sss_cons (ss_set 1 g.nd (se_mt (se_lst sa_nil))) (sss_cons (ss_for g (si_rng1 rfl z_range (se_ixA hr (se_lst (sa_cons se_int (sa_cons se_int (sa_cons se_int (sa_cons se_int (sa_cons se_int sa_nil)))))) (se_call D__law_take (hr.mono (by decide)) rfl (sa_cons (se_var 0) (sa_cons se_int sa_nil))))) (sg_name 2 g.nd) (sss_cons (ss_set 3 g.nd (se_ixA hr (se_lst (sa_cons se_str (sa_cons se_str (sa_cons se_str (sa_cons se_str sa_nil))))) (se_call D__law_take (hr.mono (by decide)) rfl (sa_cons (se_var 0) (sa_cons se_int sa_nil))))) (sss_cons (ss_set 4 g.nd (se_fz (se_call D__law_take (hr.mono (by decide)) rfl (sa_cons (se_var 0) (sa_cons se_int sa_nil))))) (sss_one (ss_if (st_cp (cp_eq hr) (se_var 3) se_str) (sss_cons (ss_set 4 g.nd (se_mod (se_var 4) se_int)) (sss_one (ss_expr (se_append (se_var 1) (se_tup (sa_cons (se_var 3) (sa_cons (se_var 4) (sa_cons (se_fz (se_add (se_add (se_var 4) se_int) (se_call D__law_take (hr.mono (by decide)) rfl (sa_cons (se_var 0) (sa_cons (se_sub se_int (se_var 4)) sa_nil))))) sa_nil)))))))) (sss_one (ss_expr (se_append (se_var 1) (se_tup (sa_cons (se_var 3) (sa_cons (se_var 4) sa_nil))))))))))) (sss_one (ss_ret (se_var 1)))))
theorem sc__law_text : FnScope ["words"] ["words"] (defScope s__law_text) := ⟨rfl, rfl, rfl, by decide +kernel, rfl, by decide +kernel, by decide +kernel⟩
theorem ok__law_text {a : Addr} {fd : FuncData} (F : Fun K "_law_text" "_law_text" s__law_text a fd)  : FnOk P w K mg base (L2.CX P w) 1 a fd ["words"] (spM K mg 1 m__law_text) :=
  fn_is (k := 0) (b := b__law_text) F sc__law_text rfl rfl rfl <| fun cdv A outer s H E hr => by
    have g : XG (cxOf (L2.CX P w) P w K mg base ["words"] "_law_text" (defScope s__law_text) a cdv A outer s H E) := ⟨rfl, sc__law_text.nd, passes_of rfl⟩
    exact (sss_cons (ss_if (st_cp (cp_eq hr) (se_var 0) (se_lst sa_nil)) (sss_one (ss_ret se_str)) sss_nil) (sss_one (ss_ret (se_join se_str (se_var 0)))))
theorem sc_words_of : FnScope ["thing"] ["thing"] (defScope s_words_of) := ⟨rfl, rfl, rfl, by decide +kernel, rfl, by decide +kernel, by decide +kernel⟩
theorem ok_words_of {a : Addr} {fd : FuncData} (F : Fun K "words_of" "words_of" s_words_of a fd) (z_isinstance : mg "isinstance" = none) (z_str : mg "str" = none) : FnOk P w K mg base (L2.CX P w) 1 a fd ["thing"] (spM K mg 1 m_words_of) :=
  fn_is (k := 0) (b := b_words_of) F sc_words_of rfl rfl rfl <| fun cdv A outer s H E hr => by
    have g : XG (cxOf (L2.CX P w) P w K mg base ["thing"] "words_of" (defScope s_words_of) a cdv A outer s H E) := ⟨rfl, sc_words_of.nd, passes_of rfl⟩
    exact (sss_cons (ss_if (st_not (st_tru (se_isi (T := "str") rfl z_isinstance (se_var 0) rfl z_str (by decide +kernel) (by decide)))) (sss_one ss_never) sss_nil) (sss_one (ss_ret (se_split (se_var 0) se_str))))
theorem sc_is_empty : FnScope ["words"] ["words"] (defScope s_is_empty) := ⟨rfl, rfl, rfl, by decide +kernel, rfl, by decide +kernel, by decide +kernel⟩
theorem ok_is_empty {a : Addr} {fd : FuncData} (F : Fun K "is_empty" "is_empty" s_is_empty a fd) {u_EMPTY : Value} (z_EMPTY : mg "EMPTY" = some u_EMPTY ∧ RelV (V.str "-") u_EMPTY) (z_len : mg "len" = none) : FnOk P w K mg base (L2.CX P w) 1 a fd ["words"] (spM K mg 1 m_is_empty) :=
  fn_is (k := 0) (b := b_is_empty) F sc_is_empty rfl rfl rfl <| fun cdv A outer s H E hr => by
    have g : XG (cxOf (L2.CX P w) P w K mg base ["words"] "is_empty" (defScope s_is_empty) a cdv A outer s H E) := ⟨rfl, sc_is_empty.nd, passes_of rfl⟩
    exact (sss_cons (ss_if (st_bool (sw_and (st_cp (cp_eq hr) (se_ixA hr (se_var 0) se_int) (g_EMPTY rfl z_EMPTY)) (sw_and1 (st_cp (cp_gt hr) (se_len rfl z_len (se_var 0)) se_int)))) (sss_one ss_never) sss_nil) (sss_one (ss_ret (se_cp (cp_eq hr) (se_ixA hr (se_var 0) se_int) (g_EMPTY rfl z_EMPTY)))))
theorem sc_number_read : FnScope ["word", "most", "sign"] ["word", "most"] (defScope s_number_read) := ⟨rfl, rfl, rfl, by decide +kernel, rfl, by decide +kernel, by decide +kernel⟩
theorem ok_number_read {a : Addr} {fd : FuncData} (F : Fun K "number_read" "number_read" s_number_read a fd) (z_len : mg "len" = none) {u_MOST_FIGURES : Value} (z_MOST_FIGURES : mg "MOST_FIGURES" = some u_MOST_FIGURES ∧ RelV (V.int (61)) u_MOST_FIGURES) {u_FIGURES : Value} (z_FIGURES : mg "FIGURES" = some u_FIGURES ∧ RelV (V.str "0123456789") u_FIGURES) (z_all : mg "all" = none) (z_int : mg "int" = none) : FnOk P w K mg base (L2.CX P w) 1 a fd ["word", "most"] (spM K mg 2 m_number_read) :=
  fn_is (k := 0) (b := b_number_read) F sc_number_read rfl rfl rfl <| fun cdv A outer s H E hr => by
    have g : XG (cxOf (L2.CX P w) P w K mg base ["word", "most", "sign"] "number_read" (defScope s_number_read) a cdv A outer s H E) := ⟨rfl, sc_number_read.nd, passes_of rfl⟩
    exact (sss_cons (ss_if (st_bool (sw_or (st_cp (cp_eq hr) (se_var 0) se_str) (sw_or (st_cp (cp_gt hr) (se_len rfl z_len (se_var 0)) (g_MOST_FIGURES rfl z_MOST_FIGURES)) (sw_or1 (st_not (st_tru (se_all g.calm rfl z_all (se_lc (own := [("sign", 2)]) g.calm g.nd (si_seq (se_var 0)) (blkOk_by (show blkC ["word", "most", "sign"] (defScope s_number_read) _ _ = true by decide +kernel)) (by decide) (fun _ _ _ _ _ => (sg_name 2 g.nd)) (fun _ _ _ _ _ => sts_nil) (fun _ _ _ _ _ => (se_cp (cp_in hr) (se_var 2) (g_FIGURES rfl z_FIGURES))))))))))) (sss_one (ss_ret se_non)) sss_nil) (sss_cons (ss_if (st_bool (sw_or (st_bool (sw_and (st_cp (cp_eq hr) (se_ixA hr (se_var 0) se_int) se_str) (sw_and1 (st_cp (cp_ne hr) (se_var 0) se_str)))) (sw_or1 (st_cp (cp_gt hr) (se_int1 rfl z_int (se_var 0)) (se_var 1))))) (sss_one (ss_ret se_non)) sss_nil) (sss_one (ss_ret (se_int1 rfl z_int (se_var 0))))))
theorem sc_place_at : FnScope ["words", "at", "place"] ["words", "at"] (defScope s_place_at) := ⟨rfl, rfl, rfl, by decide +kernel, rfl, by decide +kernel, by decide +kernel⟩
theorem ok_place_at {a : Addr} {fd : FuncData} (F : Fun K "place_at" "place_at" s_place_at a fd) (z_len : mg "len" = none) {u_MOST_PLACES : Value} (z_MOST_PLACES : mg "MOST_PLACES" = some u_MOST_PLACES ∧ RelV (V.int (40)) u_MOST_PLACES) (D_number_read : Df P w K mg base 1 "number_read" 2 m_number_read) : FnOk P w K mg base (L2.CX P w) 2 a fd ["words", "at"] (spM K mg 2 m_place_at) :=
  fn_is (k := 1) (b := b_place_at) F sc_place_at rfl rfl rfl <| fun cdv A outer s H E hr => by
    have g : XG (cxOf (L2.CX P w) P w K mg base ["words", "at", "place"] "place_at" (defScope s_place_at) a cdv A outer s H E) := ⟨rfl, sc_place_at.nd, passes_of rfl⟩
    exact (sss_cons (ss_if (st_cp (cp_eq hr) (se_var 1) (se_len rfl z_len (se_var 0))) (sss_one ss_never) sss_nil) (sss_cons (ss_set 2 g.nd (se_fz (se_call D_number_read (hr.mono (by decide)) rfl (sa_cons (se_ixA hr (se_var 0) (se_var 1)) (sa_cons (se_sub (g_MOST_PLACES rfl z_MOST_PLACES) se_int) sa_nil))))) (sss_cons (ss_if (st_cp (cp_is) (se_var 2) se_non) (sss_one ss_never) sss_nil) (sss_one (ss_ret (se_var 2))))))
theorem sc_step_at : FnScope ["words", "at", "word", "place", "other"] ["words", "at"] (defScope s_step_at) := ⟨rfl, rfl, rfl, by decide +kernel, rfl, by decide +kernel, by decide +kernel⟩
theorem ok_step_at {a : Addr} {fd : FuncData} (F : Fun K "step_at" "step_at" s_step_at a fd) (D_place_at : Df P w K mg base 2 "place_at" 2 m_place_at) : FnOk P w K mg base (L2.CX P w) 3 a fd ["words", "at"] (spM K mg 2 m_step_at) :=
  fn_is (k := 2) (b := b_step_at) F sc_step_at rfl rfl rfl <| fun cdv A outer s H E hr => by
    have g : XG (cxOf (L2.CX P w) P w K mg base ["words", "at", "word", "place", "other"] "step_at" (defScope s_step_at) a cdv A outer s H E) := ⟨rfl, sc_step_at.nd, passes_of rfl⟩
    exact (sss_cons (ss_set 2 g.nd (se_ixA hr (se_var 0) (se_var 1))) (sss_cons (ss_if (st_cp (cp_nin hr) (se_var 2) (se_tup (sa_cons se_str (sa_cons se_str (sa_cons se_str (sa_cons se_str sa_nil)))))) (sss_one ss_never) sss_nil) (sss_cons (ss_set 3 g.nd (se_fz (se_call D_place_at (hr.mono (by decide)) rfl (sa_cons (se_var 0) (sa_cons (se_add (se_var 1) se_int) sa_nil))))) (sss_cons (ss_if (st_cp (cp_ne hr) (se_var 2) se_str) (sss_one (ss_ret (se_tup (sa_cons (se_var 2) (sa_cons (se_var 3) sa_nil))))) sss_nil) (sss_cons (ss_set 4 g.nd (se_fz (se_call D_place_at (hr.mono (by decide)) rfl (sa_cons (se_var 0) (sa_cons (se_add (se_var 1) se_int) sa_nil))))) (sss_cons (ss_if (st_cp (cp_ge hr) (se_var 3) (se_var 4)) (sss_one ss_never) sss_nil) (sss_one (ss_ret (se_tup (sa_cons (se_var 2) (sa_cons (se_var 3) (sa_cons (se_var 4) sa_nil))))))))))))
theorem sc_read_log : FnScope ["thing", "words", "log", "at", "step"] ["thing"] (defScope s_read_log) := ⟨rfl, rfl, rfl, by decide +kernel, rfl, by decide +kernel, by decide +kernel⟩
theorem ok_read_log {a : Addr} {fd : FuncData} (F : Fun K "read_log" "read_log" s_read_log a fd) (D_words_of : Df P w K mg base 1 "words_of" 1 m_words_of) (D_is_empty : Df P w K mg base 1 "is_empty" 1 m_is_empty) (z_len : mg "len" = none) {u_MOST_STEPS : Value} (z_MOST_STEPS : mg "MOST_STEPS" = some u_MOST_STEPS ∧ RelV (V.int (300)) u_MOST_STEPS) (D_step_at : Df P w K mg base 3 "step_at" 2 m_step_at) : FnOk P w K mg base (L2.CX P w) 4 a fd ["thing"] (spM K mg 1 m_read_log) :=
  fn_is (k := 3) (b := b_read_log) F sc_read_log rfl rfl rfl <| fun cdv A outer s H E hr => by
    have g : XG (cxOf (L2.CX P w) P w K mg base ["thing", "words", "log", "at", "step"] "read_log" (defScope s_read_log) a cdv A outer s H E) := ⟨rfl, sc_read_log.nd, passes_of rfl⟩
    exact (sss_cons (ss_set 1 g.nd (se_fz (se_call D_words_of (hr.mono (by decide)) rfl (sa_cons (se_var 0) sa_nil)))) (sss_cons (ss_if (st_tru (se_call D_is_empty (hr.mono (by decide)) rfl (sa_cons (se_var 1) sa_nil))) (sss_one (ss_ret (se_lst sa_nil))) sss_nil) (sss_cons (ss_set 2 g.nd (se_mt (se_lst sa_nil))) (sss_cons (ss_set 3 g.nd se_int) (sss_cons (ss_while g (st_cp (cp_lt hr) (se_var 3) (se_len rfl z_len (se_var 1))) (sss_cons (ss_if (st_cp (cp_eq hr) (se_len rfl z_len (se_var 2)) (g_MOST_STEPS rfl z_MOST_STEPS)) (sss_one ss_never) sss_nil) (sss_cons (ss_set 4 g.nd (se_fz (se_call D_step_at (hr.mono (by decide)) rfl (sa_cons (se_var 1) (sa_cons (se_var 3) sa_nil))))) (sss_cons (ss_expr (se_append (se_var 2) (se_var 4))) (sss_one (ss_set 3 g.nd (se_add (se_var 3) (se_len rfl z_len (se_var 4))))))))) (sss_one (ss_ret (se_var 2))))))))
theorem sc__law_deal : FnScope ["cell", "many", "number", "one", "k", "two"] ["cell", "many"] (defScope s__law_deal) := ⟨rfl, rfl, rfl, by decide +kernel, rfl, by decide +kernel, by decide +kernel⟩
theorem ok__law_deal {a : Addr} {fd : FuncData} (F : Fun K "_law_deal" "_law_deal" s__law_deal a fd) (z_range : mg "range" = none) : FnOk P w K mg base (L2.CX P w) 1 a fd ["cell", "many"] (spM K mg 2 m__law_deal) :=
  fn_is (k := 0) (b := b__law_deal) F sc__law_deal rfl rfl rfl <| fun cdv A outer s H E hr => by
    have g : XG (cxOf (L2.CX P w) P w K mg base ["cell", "many", "number", "one", "k", "two"] "_law_deal" (defScope s__law_deal) a cdv A outer s H E) := ⟨rfl, sc__law_deal.nd, passes_of rfl⟩
    exact (sss_cons (ss_if (st_cp (cp_ge hr) (se_var 0) (se_pow se_int se_int)) (sss_one (ss_ret (se_sub (se_var 0) (se_pow se_int se_int)))) sss_nil) (sss_cons (ss_set 2 g.nd se_int) (sss_cons (ss_set 3 g.nd (se_add (se_mod (se_var 0) se_int) se_int)) (sss_cons (ss_for g (si_rng1 rfl z_range (se_var 1)) (sg_name 4 g.nd) (sss_cons (ss_set 3 g.nd (se_mod (se_add (se_add (se_mul (se_var 3) se_int) (se_mul (se_mul se_int (se_var 4)) (se_var 4))) se_int) se_int)) (sss_cons (ss_set 5 g.nd (se_mod (se_mul (se_var 3) (se_var 3)) se_int)) (sss_one (ss_set 2 g.nd (se_add (se_mul (se_var 2) se_int) (se_mod (se_fdiv (se_var 5) se_int) se_int))))))) (sss_one (ss_ret (se_var 2)))))))
theorem sc__law_same : FnScope ["found", "due", "one", "other"] ["found", "due"] (defScope s__law_same) := ⟨rfl, rfl, rfl, by decide +kernel, rfl, by decide +kernel, by decide +kernel⟩
theorem ok__law_same {a : Addr} {fd : FuncData} (F : Fun K "_law_same" "_law_same" s__law_same a fd) (hk : mg "_law_same" = some (.ref a)) (hb : Binds K fd ["found", "due"] []) (z_isinstance : mg "isinstance" = none) (z_tuple : mg "tuple" = none) (z_list : mg "list" = none) (z_len : mg "len" = none) (z_zip : mg "zip" = none) (z_all : mg "all" = none) (z_str : mg "str" = none) (z_int : mg "int" = none) (z_bool : mg "bool" = none) : ∀ n : Nat, FnOk P w K mg base (L2.CX P w) (1 + n) a fd ["found", "due"] (spM K mg 2 (m__law_same n))
  | 0 => ⟨fun vs H Q E h => (spM_no h).elim, fun A outer s H args us vs Q E hr he hb hv h => (spM_no h).elim⟩
  | n + 1 => by
    have D__law_same : Df P w K mg base (1 + n) "_law_same" 2 (m__law_same n) := ⟨a, fd, ["found", "due"], rfl, ok__law_same F hk hb z_isinstance z_tuple z_list z_len z_zip z_all z_str z_int z_bool n, hk, F.kp, hb⟩
    exact fn_is (k := 1 + n) (b := b__law_same (m__law_same n)) F sc__law_same rfl rfl rfl <| fun cdv A outer s H E hr => by
      have g : XG (cxOf (L2.CX P w) P w K mg base ["found", "due", "one", "other"] "_law_same" (defScope s__law_same) a cdv A outer s H E) := ⟨rfl, sc__law_same.nd, passes_of rfl⟩
      exact (sss_cons (ss_if (st_tru (se_isi2 (T := "tuple") (U := "list") rfl z_isinstance (se_var 1) rfl z_tuple (by decide +kernel) (by decide) rfl z_list (by decide +kernel) (by decide))) (sss_cons (ss_if (st_bool (sw_or (st_cp (cp_ne hr) (se_isi (T := "tuple") rfl z_isinstance (se_var 0) rfl z_tuple (by decide +kernel) (by decide)) (se_isi (T := "tuple") rfl z_isinstance (se_var 1) rfl z_tuple (by decide +kernel) (by decide))) (sw_or1 (st_not (st_tru (se_isi2 (T := "tuple") (U := "list") rfl z_isinstance (se_var 0) rfl z_tuple (by decide +kernel) (by decide) rfl z_list (by decide +kernel) (by decide))))))) (sss_one (ss_ret se_bl)) sss_nil) (sss_one (ss_ret (se_andB (se_cp (cp_eq hr) (se_len rfl z_len (se_var 0)) (se_len rfl z_len (se_var 1))) (se_one (se_all g.calm rfl z_all (se_lc (own := [("one", 2), ("other", 3)]) g.calm g.nd (si_zip rfl z_zip (se_var 0) (se_var 1)) (blkOk_by (show blkC ["found", "due", "one", "other"] (defScope s__law_same) _ _ = true by decide +kernel)) (by decide) (fun _ _ _ _ _ => (sg_tup g.calm (sgs_cons (sg_name 2 g.nd) (sgs_cons (sg_name 3 g.nd) sgs_nil)))) (fun _ _ _ _ _ => sts_nil) (fun _ _ _ _ _ => (se_fz (se_call D__law_same (hr.mono (by omega)) rfl (sa_cons (se_var 2) (sa_cons (se_var 3) sa_nil)))))))))))) sss_nil) (sss_cons (ss_if (st_tru (se_isi (T := "str") rfl z_isinstance (se_var 1) rfl z_str (by decide +kernel) (by decide))) (sss_one (ss_ret (se_andB (se_isi (T := "str") rfl z_isinstance (se_var 0) rfl z_str (by decide +kernel) (by decide)) (se_one (se_cp (cp_eq hr) (se_var 0) (se_var 1)))))) sss_nil) (sss_one (ss_ret (se_andB (se_isi (T := "int") rfl z_isinstance (se_var 0) rfl z_int (by decide +kernel) (by decide)) (se_andB (se_not (se_isi (T := "bool") rfl z_isinstance (se_var 0) rfl z_bool (by decide +kernel) (by decide))) (se_one (se_cp (cp_eq hr) (se_var 0) (se_var 1)))))))))
theorem sc_words_text : FnScope ["words"] ["words"] (defScope s_words_text) := ⟨rfl, rfl, rfl, by decide +kernel, rfl, by decide +kernel, by decide +kernel⟩
theorem ok_words_text {a : Addr} {fd : FuncData} (F : Fun K "words_text" "words_text" s_words_text a fd) {u_EMPTY : Value} (z_EMPTY : mg "EMPTY" = some u_EMPTY ∧ RelV (V.str "-") u_EMPTY) : FnOk P w K mg base (L2.CX P w) 1 a fd ["words"] (spM K mg 1 m_words_text) :=
  fn_is (k := 0) (b := b_words_text) F sc_words_text rfl rfl rfl <| fun cdv A outer s H E hr => by
    have g : XG (cxOf (L2.CX P w) P w K mg base ["words"] "words_text" (defScope s_words_text) a cdv A outer s H E) := ⟨rfl, sc_words_text.nd, passes_of rfl⟩
    exact (sss_cons (ss_if (st_cp (cp_eq hr) (se_var 0) (se_lst sa_nil)) (sss_one (ss_ret (g_EMPTY rfl z_EMPTY))) sss_nil) (sss_one (ss_ret (se_join se_str (se_var 0)))))
theorem sc_numbers_text : FnScope ["row", "number"] ["row"] (defScope s_numbers_text) := ⟨rfl, rfl, rfl, by decide +kernel, rfl, by decide +kernel, by decide +kernel⟩
theorem ok_numbers_text {a : Addr} {fd : FuncData} (F : Fun K "numbers_text" "numbers_text" s_numbers_text a fd) (z_str : mg "str" = none) (D_words_text : Df P w K mg base 1 "words_text" 1 m_words_text) : FnOk P w K mg base (L2.CX P w) 2 a fd ["row"] (spM K mg 1 m_numbers_text) :=
  fn_is (k := 1) (b := b_numbers_text) F sc_numbers_text rfl rfl rfl <| fun cdv A outer s H E hr => by
    have g : XG (cxOf (L2.CX P w) P w K mg base ["row", "number"] "numbers_text" (defScope s_numbers_text) a cdv A outer s H E) := ⟨rfl, sc_numbers_text.nd, passes_of rfl⟩
    exact (sss_one (ss_ret (se_call D_words_text (hr.mono (by decide)) rfl (sa_cons (se_fz (se_lc (own := [("number", 1)]) g.calm g.nd (si_seq (se_var 0)) (blkOk_by (show blkC ["row", "number"] (defScope s_numbers_text) _ _ = true by decide +kernel)) (by decide) (fun _ _ _ _ _ => (sg_name 1 g.nd)) (fun _ _ _ _ _ => sts_nil) (fun _ _ _ _ _ => (se_str1 rfl z_str (se_var 1))))) sa_nil))))
theorem sc_log_text : FnScope ["log", "words", "step", "place"] ["log"] (defScope s_log_text) := ⟨rfl, rfl, rfl, by decide +kernel, rfl, by decide +kernel, by decide +kernel⟩
theorem ok_log_text {a : Addr} {fd : FuncData} (F : Fun K "log_text" "log_text" s_log_text a fd) (z_str : mg "str" = none) (D_words_text : Df P w K mg base 1 "words_text" 1 m_words_text) : FnOk P w K mg base (L2.CX P w) 2 a fd ["log"] (spM K mg 1 m_log_text) :=
  fn_is (k := 1) (b := b_log_text) F sc_log_text rfl rfl rfl <| fun cdv A outer s H E hr => by
    have g : XG (cxOf (L2.CX P w) P w K mg base ["log", "words", "step", "place"] "log_text" (defScope s_log_text) a cdv A outer s H E) := ⟨rfl, sc_log_text.nd, passes_of rfl⟩
    exact (sss_cons (ss_set 1 g.nd (se_mt (se_lst sa_nil))) (sss_cons (ss_for g (si_seq (se_var 0)) (sg_name 2 g.nd) (sss_cons (ss_expr (se_append (se_var 1) (se_ixA hr (se_var 2) se_int))) (sss_one (ss_expr (se_extend (se_var 1) (se_lc (own := [("place", 3)]) g.calm g.nd (si_seq (se_slice (se_var 2) (so_so se_int) so_no)) (blkOk_by (show blkC ["log", "words", "step", "place"] (defScope s_log_text) _ _ = true by decide +kernel)) (by decide) (fun _ _ _ _ _ => (sg_name 3 g.nd)) (fun _ _ _ _ _ => sts_nil) (fun _ _ _ _ _ => (se_str1 rfl z_str (se_var 3))))))))) (sss_one (ss_ret (se_call D_words_text (hr.mono (by decide)) rfl (sa_cons (se_var 1) sa_nil))))))
theorem sc_read_numbers : FnScope ["thing", "words", "row", "at", "word", "number"] ["thing"] (defScope s_read_numbers) := ⟨rfl, rfl, rfl, by decide +kernel, rfl, by decide +kernel, by decide +kernel⟩
theorem ok_read_numbers {a : Addr} {fd : FuncData} (F : Fun K "read_numbers" "read_numbers" s_read_numbers a fd) (D_words_of : Df P w K mg base 1 "words_of" 1 m_words_of) (D_is_empty : Df P w K mg base 1 "is_empty" 1 m_is_empty) (z_enumerate : mg "enumerate" = none) {u_MOST_NUMBER : Value} (z_MOST_NUMBER : mg "MOST_NUMBER" = some u_MOST_NUMBER ∧ RelV (V.int (1000000000000000000000000000000000000000000000000000000000000)) u_MOST_NUMBER) (D_number_read : Df P w K mg base 1 "number_read" 2 m_number_read) {u_MOST_NUMBERS : Value} (z_MOST_NUMBERS : mg "MOST_NUMBERS" = some u_MOST_NUMBERS ∧ RelV (V.int (60)) u_MOST_NUMBERS) (z_tuple : mg "tuple" = none) : FnOk P w K mg base (L2.CX P w) 2 a fd ["thing"] (spM K mg 1 m_read_numbers) :=
  fn_is (k := 1) (b := b_read_numbers) F sc_read_numbers rfl rfl rfl <| fun cdv A outer s H E hr => by
    have g : XG (cxOf (L2.CX P w) P w K mg base ["thing", "words", "row", "at", "word", "number"] "read_numbers" (defScope s_read_numbers) a cdv A outer s H E) := ⟨rfl, sc_read_numbers.nd, passes_of rfl⟩
    exact (sss_cons (ss_set 1 g.nd (se_fz (se_call D_words_of (hr.mono (by decide)) rfl (sa_cons (se_var 0) sa_nil)))) (sss_cons (ss_if (st_tru (se_call D_is_empty (hr.mono (by decide)) rfl (sa_cons (se_var 1) sa_nil))) (sss_one (ss_ret (se_tup sa_nil))) sss_nil) (sss_cons (ss_set 2 g.nd (se_mt (se_lst sa_nil))) (sss_cons (ss_for g (si_enum rfl z_enumerate (se_var 1)) (sg_tup g.calm (sgs_cons (sg_name 3 g.nd) (sgs_cons (sg_name 4 g.nd) sgs_nil))) (sss_cons (ss_set 5 g.nd (se_fz (se_call D_number_read (hr.mono (by decide)) rfl (sa_cons (se_var 4) (sa_cons (g_MOST_NUMBER rfl z_MOST_NUMBER) sa_nil))))) (sss_cons (ss_if (st_bool (sw_or (st_cp (cp_is) (se_var 5) se_non) (sw_or1 (st_cp (cp_eq hr) (se_var 3) (g_MOST_NUMBERS rfl z_MOST_NUMBERS))))) (sss_one ss_never) sss_nil) (sss_one (ss_expr (se_append (se_var 2) (se_var 5))))))) (sss_one (ss_ret (se_tuple rfl z_tuple (se_var 2))))))))
theorem sc_law : FnScope ["script", "cell", "pot", "row", "log", "words", "step", "first", "second", "handed", "told", "number", "place"] ["script"] (defScope s_law) := ⟨rfl, rfl, rfl, by decide +kernel, rfl, by decide +kernel, by decide +kernel⟩
theorem ok_law {a : Addr} {fd : FuncData} (F : Fun K "law" "law" s_law a fd) (D__law_deal : Df P w K mg base 1 "_law_deal" 2 m__law_deal) (D__law_row : Df P w K mg base 2 "_law_row" 1 m__law_row) (D__law_steps : Df P w K mg base 2 "_law_steps" 1 m__law_steps) (z_str : mg "str" = none) (D__law_text : Df P w K mg base 1 "_law_text" 1 m__law_text) (z_list : mg "list" = none) (D_numbers_text : Df P w K mg base 2 "numbers_text" 1 m_numbers_text) (D__law_same : Df P w K mg base 9 "_law_same" 2 (m__law_same 8)) (z_tuple : mg "tuple" = none) (D_log_text : Df P w K mg base 2 "log_text" 1 m_log_text) (D_read_log : Df P w K mg base 4 "read_log" 1 m_read_log) (D_read_numbers : Df P w K mg base 2 "read_numbers" 1 m_read_numbers) : FnOk P w K mg base (L2.CX P w) 10 a fd ["script"] (spM K mg 1 m_law) :=
  fn_is (k := 9) (b := b_law) F sc_law rfl rfl rfl <| fun cdv A outer s H E hr => by
    have g : XG (cxOf (L2.CX P w) P w K mg base ["script", "cell", "pot", "row", "log", "words", "step", "first", "second", "handed", "told", "number", "place"] "law" (defScope s_law) a cdv A outer s H E) := ⟨rfl, sc_law.nd, passes_of rfl⟩
    exact (sss_cons (ss_for g (si_seq (se_add (se_slice (se_var 0) so_no (so_so se_int)) (se_lst (sa_cons se_int sa_nil)))) (sg_name 1 g.nd) (sss_cons (ss_set 2 g.nd (se_mt (se_lst (sa_cons (se_fz (se_call D__law_deal (hr.mono (by decide)) rfl (sa_cons (se_var 1) (sa_cons se_int sa_nil)))) sa_nil)))) (sss_cons (ss_set 3 g.nd (se_fz (se_call D__law_row (hr.mono (by decide)) rfl (sa_cons (se_var 2) sa_nil)))) (sss_cons (ss_set 4 g.nd (se_fz (se_call D__law_steps (hr.mono (by decide)) rfl (sa_cons (se_var 2) sa_nil)))) (sss_cons (ss_set 5 g.nd (se_mt (se_lst sa_nil))) (sss_cons (ss_for g (si_seq (se_var 4)) (sg_name 6 g.nd) (sss_one (ss_expr (se_extend (se_var 5) (se_add (se_lst (sa_cons (se_ixA hr (se_var 6) se_int) sa_nil)) (se_lc (own := [("place", 12)]) g.calm g.nd (si_seq (se_slice (se_var 6) (so_so se_int) so_no)) (blkOk_by (show blkC ["script", "cell", "pot", "row", "log", "words", "step", "first", "second", "handed", "told", "number", "place"] (defScope s_law) _ _ = true by decide +kernel)) (by decide) (fun _ _ _ _ _ => (sg_name 12 g.nd)) (fun _ _ _ _ _ => sts_nil) (fun _ _ _ _ _ => (se_str1 rfl z_str (se_var 12))))))))) (sss_cons (ss_set 7 g.nd (se_fz (se_call D__law_text (hr.mono (by decide)) rfl (sa_cons (se_fz (se_lc (own := [("number", 11)]) g.calm g.nd (si_seq (se_var 3)) (blkOk_by (show blkC ["script", "cell", "pot", "row", "log", "words", "step", "first", "second", "handed", "told", "number", "place"] (defScope s_law) _ _ = true by decide +kernel)) (by decide) (fun _ _ _ _ _ => (sg_name 11 g.nd)) (fun _ _ _ _ _ => sts_nil) (fun _ _ _ _ _ => (se_str1 rfl z_str (se_var 11))))) sa_nil)))) (sss_cons (ss_set 8 g.nd (se_fz (se_call D__law_text (hr.mono (by decide)) rfl (sa_cons (se_var 5) sa_nil)))) (sss_cons (ss_set 9 g.nd (se_fz (se_list rfl z_list (se_var 4)))) (sss_cons (ss_if (st_bool (sw_or (st_not (st_tru (se_call D__law_same (hr.mono (by decide)) rfl (sa_cons (se_fz (se_call D_numbers_text (hr.mono (by decide)) rfl (sa_cons (se_fz (se_list rfl z_list (se_var 3))) sa_nil))) (sa_cons (se_var 7) sa_nil))))) (sw_or1 (st_not (st_tru (se_call D__law_same (hr.mono (by decide)) rfl (sa_cons (se_fz (se_call D_numbers_text (hr.mono (by decide)) rfl (sa_cons (se_tuple rfl z_tuple (se_var 3)) sa_nil))) (sa_cons (se_var 7) sa_nil)))))))) (sss_one (ss_ret se_bl)) sss_nil) (sss_cons (ss_if (st_bool (sw_or (st_not (st_tru (se_call D__law_same (hr.mono (by decide)) rfl (sa_cons (se_fz (se_call D_log_text (hr.mono (by decide)) rfl (sa_cons (se_var 9) sa_nil))) (sa_cons (se_var 8) sa_nil))))) (sw_or (st_not (st_tru (se_call D__law_same (hr.mono (by decide)) rfl (sa_cons (se_fz (se_call D_log_text (hr.mono (by decide)) rfl (sa_cons (se_tuple rfl z_tuple (se_var 4)) sa_nil))) (sa_cons (se_var 8) sa_nil))))) (sw_or1 (st_cp (cp_ne hr) (se_var 9) (se_var 4)))))) (sss_one (ss_ret se_bl)) sss_nil) (sss_cons (ss_set 10 g.nd (se_mt (se_call D_read_log (hr.mono (by decide)) rfl (sa_cons (se_var 8) sa_nil)))) (sss_cons (ss_if (st_bool (sw_or (st_not (st_tru (se_call D__law_same (hr.mono (by decide)) rfl (sa_cons (se_fz (se_call D_read_numbers (hr.mono (by decide)) rfl (sa_cons (se_var 7) sa_nil))) (sa_cons (se_tuple rfl z_tuple (se_var 3)) sa_nil))))) (sw_or1 (st_not (st_tru (se_call D__law_same (hr.mono (by decide)) rfl (sa_cons (se_var 10) (sa_cons (se_var 4) sa_nil)))))))) (sss_one (ss_ret se_bl)) sss_nil) (sss_cons (ss_expr (se_append (se_var 10) (se_tup (sa_cons se_str (sa_cons se_int sa_nil))))) (sss_one (ss_if (st_not (st_tru (se_call D__law_same (hr.mono (by decide)) rfl (sa_cons (se_fz (se_call D_read_log (hr.mono (by decide)) rfl (sa_cons (se_var 8) sa_nil))) (sa_cons (se_var 4) sa_nil))))) (sss_one (ss_ret se_bl)) sss_nil)))))))))))))))) (sss_one (ss_ret se_bl)))
end
theorem all_mk {l : PySem.W.OpenLaw} {w : World} {K : PySem.W.Frag} {h : Heap} {mg : Str → Option Value} {fa f0 f1 f2 f3 f4 f5 f6 f7 f8 f9 f10 f11 f12 f13 f14 f15 f16 : Addr} (X : K.In h) (G : h.Ns mainGlobals mg) (hfa : mg "law" = some (.ref fa)) (hlaw : ∀ ns : List Int, ns.length ≤ 63 → ∃ h1, m_law [.lst (ns.map Val.int)] [] = .ok (.bl true) h1)
    {od0 an0 : Option Addr} {sl0 : Array (Option Value)} {oc0 kV0 dc0 pm0 cd0 ct0 : Value}
    (a0 : PySem.W.nsIn K mainGlobals "_law_take" = some (some (.ref f0))) (l0 : K.lookup f0 = some ⟨oc0, od0, .func (PySem.W.fnOf "_law_take" "_law_take" (defArgs s__law_take) (defBody s__law_take) (defScope s__law_take) .none kV0 dc0 pm0 an0 cd0 ct0), sl0⟩) (c0 : PySem.W.codeIn K cd0 "_law_take" = true) (k0 : PySem.W.keepIn K (.ref f0) = true)
    {od1 an1 : Option Addr} {sl1 : Array (Option Value)} {oc1 kV1 dc1 pm1 cd1 ct1 : Value}
    (a1 : PySem.W.nsIn K mainGlobals "_law_row" = some (some (.ref f1))) (l1 : K.lookup f1 = some ⟨oc1, od1, .func (PySem.W.fnOf "_law_row" "_law_row" (defArgs s__law_row) (defBody s__law_row) (defScope s__law_row) .none kV1 dc1 pm1 an1 cd1 ct1), sl1⟩) (c1 : PySem.W.codeIn K cd1 "_law_row" = true) (k1 : PySem.W.keepIn K (.ref f1) = true)
    {od2 an2 : Option Addr} {sl2 : Array (Option Value)} {oc2 kV2 dc2 pm2 cd2 ct2 : Value}
    (a2 : PySem.W.nsIn K mainGlobals "_law_steps" = some (some (.ref f2))) (l2 : K.lookup f2 = some ⟨oc2, od2, .func (PySem.W.fnOf "_law_steps" "_law_steps" (defArgs s__law_steps) (defBody s__law_steps) (defScope s__law_steps) .none kV2 dc2 pm2 an2 cd2 ct2), sl2⟩) (c2 : PySem.W.codeIn K cd2 "_law_steps" = true) (k2 : PySem.W.keepIn K (.ref f2) = true)
    {od3 an3 : Option Addr} {sl3 : Array (Option Value)} {oc3 kV3 dc3 pm3 cd3 ct3 : Value}
    (a3 : PySem.W.nsIn K mainGlobals "_law_text" = some (some (.ref f3))) (l3 : K.lookup f3 = some ⟨oc3, od3, .func (PySem.W.fnOf "_law_text" "_law_text" (defArgs s__law_text) (defBody s__law_text) (defScope s__law_text) .none kV3 dc3 pm3 an3 cd3 ct3), sl3⟩) (c3 : PySem.W.codeIn K cd3 "_law_text" = true) (k3 : PySem.W.keepIn K (.ref f3) = true)
    {od4 an4 : Option Addr} {sl4 : Array (Option Value)} {oc4 kV4 dc4 pm4 cd4 ct4 : Value}
    (a4 : PySem.W.nsIn K mainGlobals "words_of" = some (some (.ref f4))) (l4 : K.lookup f4 = some ⟨oc4, od4, .func (PySem.W.fnOf "words_of" "words_of" (defArgs s_words_of) (defBody s_words_of) (defScope s_words_of) .none kV4 dc4 pm4 an4 cd4 ct4), sl4⟩) (c4 : PySem.W.codeIn K cd4 "words_of" = true) (k4 : PySem.W.keepIn K (.ref f4) = true)
    {od5 an5 : Option Addr} {sl5 : Array (Option Value)} {oc5 kV5 dc5 pm5 cd5 ct5 : Value}
    (a5 : PySem.W.nsIn K mainGlobals "is_empty" = some (some (.ref f5))) (l5 : K.lookup f5 = some ⟨oc5, od5, .func (PySem.W.fnOf "is_empty" "is_empty" (defArgs s_is_empty) (defBody s_is_empty) (defScope s_is_empty) .none kV5 dc5 pm5 an5 cd5 ct5), sl5⟩) (c5 : PySem.W.codeIn K cd5 "is_empty" = true) (k5 : PySem.W.keepIn K (.ref f5) = true)
    {od6 an6 : Option Addr} {sl6 : Array (Option Value)} {oc6 kV6 dc6 pm6 cd6 ct6 : Value}
    (a6 : PySem.W.nsIn K mainGlobals "number_read" = some (some (.ref f6))) (l6 : K.lookup f6 = some ⟨oc6, od6, .func (PySem.W.fnOf "number_read" "number_read" (defArgs s_number_read) (defBody s_number_read) (defScope s_number_read) .none kV6 dc6 pm6 an6 cd6 ct6), sl6⟩) (c6 : PySem.W.codeIn K cd6 "number_read" = true) (k6 : PySem.W.keepIn K (.ref f6) = true)
    {od7 an7 : Option Addr} {sl7 : Array (Option Value)} {oc7 kV7 dc7 pm7 cd7 ct7 : Value}
    (a7 : PySem.W.nsIn K mainGlobals "place_at" = some (some (.ref f7))) (l7 : K.lookup f7 = some ⟨oc7, od7, .func (PySem.W.fnOf "place_at" "place_at" (defArgs s_place_at) (defBody s_place_at) (defScope s_place_at) .none kV7 dc7 pm7 an7 cd7 ct7), sl7⟩) (c7 : PySem.W.codeIn K cd7 "place_at" = true) (k7 : PySem.W.keepIn K (.ref f7) = true)
    {od8 an8 : Option Addr} {sl8 : Array (Option Value)} {oc8 kV8 dc8 pm8 cd8 ct8 : Value}
    (a8 : PySem.W.nsIn K mainGlobals "step_at" = some (some (.ref f8))) (l8 : K.lookup f8 = some ⟨oc8, od8, .func (PySem.W.fnOf "step_at" "step_at" (defArgs s_step_at) (defBody s_step_at) (defScope s_step_at) .none kV8 dc8 pm8 an8 cd8 ct8), sl8⟩) (c8 : PySem.W.codeIn K cd8 "step_at" = true) (k8 : PySem.W.keepIn K (.ref f8) = true)
    {od9 an9 : Option Addr} {sl9 : Array (Option Value)} {oc9 kV9 dc9 pm9 cd9 ct9 : Value}
    (a9 : PySem.W.nsIn K mainGlobals "read_log" = some (some (.ref f9))) (l9 : K.lookup f9 = some ⟨oc9, od9, .func (PySem.W.fnOf "read_log" "read_log" (defArgs s_read_log) (defBody s_read_log) (defScope s_read_log) .none kV9 dc9 pm9 an9 cd9 ct9), sl9⟩) (c9 : PySem.W.codeIn K cd9 "read_log" = true) (k9 : PySem.W.keepIn K (.ref f9) = true)
    {od10 an10 : Option Addr} {sl10 : Array (Option Value)} {oc10 kV10 dc10 pm10 cd10 ct10 : Value}
    (a10 : PySem.W.nsIn K mainGlobals "_law_deal" = some (some (.ref f10))) (l10 : K.lookup f10 = some ⟨oc10, od10, .func (PySem.W.fnOf "_law_deal" "_law_deal" (defArgs s__law_deal) (defBody s__law_deal) (defScope s__law_deal) .none kV10 dc10 pm10 an10 cd10 ct10), sl10⟩) (c10 : PySem.W.codeIn K cd10 "_law_deal" = true) (k10 : PySem.W.keepIn K (.ref f10) = true)
    {od11 an11 : Option Addr} {sl11 : Array (Option Value)} {oc11 kV11 dc11 pm11 cd11 ct11 : Value}
    (a11 : PySem.W.nsIn K mainGlobals "_law_same" = some (some (.ref f11))) (l11 : K.lookup f11 = some ⟨oc11, od11, .func (PySem.W.fnOf "_law_same" "_law_same" (defArgs s__law_same) (defBody s__law_same) (defScope s__law_same) .none kV11 dc11 pm11 an11 cd11 ct11), sl11⟩) (c11 : PySem.W.codeIn K cd11 "_law_same" = true) (k11 : PySem.W.keepIn K (.ref f11) = true)
    {od12 an12 : Option Addr} {sl12 : Array (Option Value)} {oc12 kV12 dc12 pm12 cd12 ct12 : Value}
    (a12 : PySem.W.nsIn K mainGlobals "words_text" = some (some (.ref f12))) (l12 : K.lookup f12 = some ⟨oc12, od12, .func (PySem.W.fnOf "words_text" "words_text" (defArgs s_words_text) (defBody s_words_text) (defScope s_words_text) .none kV12 dc12 pm12 an12 cd12 ct12), sl12⟩) (c12 : PySem.W.codeIn K cd12 "words_text" = true) (k12 : PySem.W.keepIn K (.ref f12) = true)
    {od13 an13 : Option Addr} {sl13 : Array (Option Value)} {oc13 kV13 dc13 pm13 cd13 ct13 : Value}
    (a13 : PySem.W.nsIn K mainGlobals "numbers_text" = some (some (.ref f13))) (l13 : K.lookup f13 = some ⟨oc13, od13, .func (PySem.W.fnOf "numbers_text" "numbers_text" (defArgs s_numbers_text) (defBody s_numbers_text) (defScope s_numbers_text) .none kV13 dc13 pm13 an13 cd13 ct13), sl13⟩) (c13 : PySem.W.codeIn K cd13 "numbers_text" = true) (k13 : PySem.W.keepIn K (.ref f13) = true)
    {od14 an14 : Option Addr} {sl14 : Array (Option Value)} {oc14 kV14 dc14 pm14 cd14 ct14 : Value}
    (a14 : PySem.W.nsIn K mainGlobals "log_text" = some (some (.ref f14))) (l14 : K.lookup f14 = some ⟨oc14, od14, .func (PySem.W.fnOf "log_text" "log_text" (defArgs s_log_text) (defBody s_log_text) (defScope s_log_text) .none kV14 dc14 pm14 an14 cd14 ct14), sl14⟩) (c14 : PySem.W.codeIn K cd14 "log_text" = true) (k14 : PySem.W.keepIn K (.ref f14) = true)
    {od15 an15 : Option Addr} {sl15 : Array (Option Value)} {oc15 kV15 dc15 pm15 cd15 ct15 : Value}
    (a15 : PySem.W.nsIn K mainGlobals "read_numbers" = some (some (.ref f15))) (l15 : K.lookup f15 = some ⟨oc15, od15, .func (PySem.W.fnOf "read_numbers" "read_numbers" (defArgs s_read_numbers) (defBody s_read_numbers) (defScope s_read_numbers) .none kV15 dc15 pm15 an15 cd15 ct15), sl15⟩) (c15 : PySem.W.codeIn K cd15 "read_numbers" = true) (k15 : PySem.W.keepIn K (.ref f15) = true)
    {od16 an16 : Option Addr} {sl16 : Array (Option Value)} {oc16 kV16 dc16 pm16 cd16 ct16 : Value}
    (a16 : PySem.W.nsIn K mainGlobals "law" = some (some (.ref f16))) (l16 : K.lookup f16 = some ⟨oc16, od16, .func (PySem.W.fnOf "law" "law" (defArgs s_law) (defBody s_law) (defScope s_law) .none kV16 dc16 pm16 an16 cd16 ct16), sl16⟩) (c16 : PySem.W.codeIn K cd16 "law" = true) (k16 : PySem.W.keepIn K (.ref f16) = true)
    (z0 : PySem.W.nsIn K mainGlobals "range" = some none)
    (z1 : PySem.W.nsIn K mainGlobals "min" = some none)
    (z2 : PySem.W.nsIn K mainGlobals "isinstance" = some none)
    (z3 : PySem.W.nsIn K mainGlobals "str" = some none)
    {t4 : Tok} (z4 : PySem.W.nsIn K mainGlobals "EMPTY" = some (some (Value.str "-" t4)))
    (z5 : PySem.W.nsIn K mainGlobals "len" = some none)
    {t6 : Tok} (z6 : PySem.W.nsIn K mainGlobals "MOST_FIGURES" = some (some (Value.int (61) t6)))
    {t7 : Tok} (z7 : PySem.W.nsIn K mainGlobals "FIGURES" = some (some (Value.str "0123456789" t7)))
    (z8 : PySem.W.nsIn K mainGlobals "all" = some none)
    (z9 : PySem.W.nsIn K mainGlobals "int" = some none)
    {t10 : Tok} (z10 : PySem.W.nsIn K mainGlobals "MOST_PLACES" = some (some (Value.int (40) t10)))
    {t11 : Tok} (z11 : PySem.W.nsIn K mainGlobals "MOST_STEPS" = some (some (Value.int (300) t11)))
    (z12 : PySem.W.nsIn K mainGlobals "tuple" = some none)
    (z13 : PySem.W.nsIn K mainGlobals "list" = some none)
    (z14 : PySem.W.nsIn K mainGlobals "zip" = some none)
    (z15 : PySem.W.nsIn K mainGlobals "bool" = some none)
    (z16 : PySem.W.nsIn K mainGlobals "enumerate" = some none)
    {t17 : Tok} (z17 : PySem.W.nsIn K mainGlobals "MOST_NUMBER" = some (some (Value.int (1000000000000000000000000000000000000000000000000000000000000) t17)))
    {t18 : Tok} (z18 : PySem.W.nsIn K mainGlobals "MOST_NUMBERS" = some (some (Value.int (60) t18)))
    : ∃ fd : FuncData, (∀ (s : Shared) (v : Value), BindsTo s fd ⟨[v], []⟩ [("script", v)]) ∧ ∀ base : Heap, K.In base → base.Ns mainGlobals mg → FnOk l.prog w K mg base (L2.CX l.prog w) 10 fa fd ["script"] (spL K) := by
  have e := hfa.symm.trans (PySem.W.mg_of X G a16)
  cases e
  have F0 := fun_mk (st := s__law_take) l0 c0 k0
  have b0 := F0.binds (ps := ["pot", "many"]) fun _ _ _ _ _ _ us hl => match us, hl with | [_, _], _ => rfl
  have F1 := fun_mk (st := s__law_row) l1 c1 k1
  have b1 := F1.binds (ps := ["pot"]) fun _ _ _ _ _ _ us hl => match us, hl with | [_], _ => rfl
  have F2 := fun_mk (st := s__law_steps) l2 c2 k2
  have b2 := F2.binds (ps := ["pot"]) fun _ _ _ _ _ _ us hl => match us, hl with | [_], _ => rfl
  have F3 := fun_mk (st := s__law_text) l3 c3 k3
  have b3 := F3.binds (ps := ["words"]) fun _ _ _ _ _ _ us hl => match us, hl with | [_], _ => rfl
  have F4 := fun_mk (st := s_words_of) l4 c4 k4
  have b4 := F4.binds (ps := ["thing"]) fun _ _ _ _ _ _ us hl => match us, hl with | [_], _ => rfl
  have F5 := fun_mk (st := s_is_empty) l5 c5 k5
  have b5 := F5.binds (ps := ["words"]) fun _ _ _ _ _ _ us hl => match us, hl with | [_], _ => rfl
  have F6 := fun_mk (st := s_number_read) l6 c6 k6
  have b6 := F6.binds (ps := ["word", "most"]) fun _ _ _ _ _ _ us hl => match us, hl with | [_, _], _ => rfl
  have F7 := fun_mk (st := s_place_at) l7 c7 k7
  have b7 := F7.binds (ps := ["words", "at"]) fun _ _ _ _ _ _ us hl => match us, hl with | [_, _], _ => rfl
  have F8 := fun_mk (st := s_step_at) l8 c8 k8
  have b8 := F8.binds (ps := ["words", "at"]) fun _ _ _ _ _ _ us hl => match us, hl with | [_, _], _ => rfl
  have F9 := fun_mk (st := s_read_log) l9 c9 k9
  have b9 := F9.binds (ps := ["thing"]) fun _ _ _ _ _ _ us hl => match us, hl with | [_], _ => rfl
  have F10 := fun_mk (st := s__law_deal) l10 c10 k10
  have b10 := F10.binds (ps := ["cell", "many"]) fun _ _ _ _ _ _ us hl => match us, hl with | [_, _], _ => rfl
  have F11 := fun_mk (st := s__law_same) l11 c11 k11
  have b11 := F11.binds (ps := ["found", "due"]) fun _ _ _ _ _ _ us hl => match us, hl with | [_, _], _ => rfl
  have F12 := fun_mk (st := s_words_text) l12 c12 k12
  have b12 := F12.binds (ps := ["words"]) fun _ _ _ _ _ _ us hl => match us, hl with | [_], _ => rfl
  have F13 := fun_mk (st := s_numbers_text) l13 c13 k13
  have b13 := F13.binds (ps := ["row"]) fun _ _ _ _ _ _ us hl => match us, hl with | [_], _ => rfl
  have F14 := fun_mk (st := s_log_text) l14 c14 k14
  have b14 := F14.binds (ps := ["log"]) fun _ _ _ _ _ _ us hl => match us, hl with | [_], _ => rfl
  have F15 := fun_mk (st := s_read_numbers) l15 c15 k15
  have b15 := F15.binds (ps := ["thing"]) fun _ _ _ _ _ _ us hl => match us, hl with | [_], _ => rfl
  have F16 := fun_mk (st := s_law) l16 c16 k16
  refine ⟨PySem.W.fnOf "law" "law" (defArgs s_law) (defBody s_law) (defScope s_law) .none kV16 dc16 pm16 an16 cd16 ct16, fun s v => .of_eq rfl, fun base _ _ => FnOk.imp (sp := spM K mg 1 m_law) ?_ (fun vs H Q E => spL_spM (mg := mg) hlaw)⟩
  have D0 : Df l.prog w K mg base 1 "_law_take" 2 m__law_take := ⟨f0, _, ["pot", "many"], rfl, ok__law_take F0 , PySem.W.mg_of X G a0, F0.kp, b0⟩
  have D1 : Df l.prog w K mg base 2 "_law_row" 1 m__law_row := ⟨f1, _, ["pot"], rfl, ok__law_row F1 D0 (PySem.W.mg_none_of X G z0) (PySem.W.mg_none_of X G z1), PySem.W.mg_of X G a1, F1.kp, b1⟩
  have D2 : Df l.prog w K mg base 2 "_law_steps" 1 m__law_steps := ⟨f2, _, ["pot"], rfl, ok__law_steps F2 D0 (PySem.W.mg_none_of X G z0), PySem.W.mg_of X G a2, F2.kp, b2⟩
  have D3 : Df l.prog w K mg base 1 "_law_text" 1 m__law_text := ⟨f3, _, ["words"], rfl, ok__law_text F3 , PySem.W.mg_of X G a3, F3.kp, b3⟩
  have D4 : Df l.prog w K mg base 1 "words_of" 1 m_words_of := ⟨f4, _, ["thing"], rfl, ok_words_of F4 (PySem.W.mg_none_of X G z2) (PySem.W.mg_none_of X G z3), PySem.W.mg_of X G a4, F4.kp, b4⟩
  have D5 : Df l.prog w K mg base 1 "is_empty" 1 m_is_empty := ⟨f5, _, ["words"], rfl, ok_is_empty F5 ⟨PySem.W.mg_of X G z4, ⟨_, rfl⟩⟩ (PySem.W.mg_none_of X G z5), PySem.W.mg_of X G a5, F5.kp, b5⟩
  have D6 : Df l.prog w K mg base 1 "number_read" 2 m_number_read := ⟨f6, _, ["word", "most"], rfl, ok_number_read F6 (PySem.W.mg_none_of X G z5) ⟨PySem.W.mg_of X G z6, ⟨_, rfl⟩⟩ ⟨PySem.W.mg_of X G z7, ⟨_, rfl⟩⟩ (PySem.W.mg_none_of X G z8) (PySem.W.mg_none_of X G z9), PySem.W.mg_of X G a6, F6.kp, b6⟩
  have D7 : Df l.prog w K mg base 2 "place_at" 2 m_place_at := ⟨f7, _, ["words", "at"], rfl, ok_place_at F7 (PySem.W.mg_none_of X G z5) ⟨PySem.W.mg_of X G z10, ⟨_, rfl⟩⟩ D6, PySem.W.mg_of X G a7, F7.kp, b7⟩
  have D8 : Df l.prog w K mg base 3 "step_at" 2 m_step_at := ⟨f8, _, ["words", "at"], rfl, ok_step_at F8 D7, PySem.W.mg_of X G a8, F8.kp, b8⟩
  have D9 : Df l.prog w K mg base 4 "read_log" 1 m_read_log := ⟨f9, _, ["thing"], rfl, ok_read_log F9 D4 D5 (PySem.W.mg_none_of X G z5) ⟨PySem.W.mg_of X G z11, ⟨_, rfl⟩⟩ D8, PySem.W.mg_of X G a9, F9.kp, b9⟩
  have D10 : Df l.prog w K mg base 1 "_law_deal" 2 m__law_deal := ⟨f10, _, ["cell", "many"], rfl, ok__law_deal F10 (PySem.W.mg_none_of X G z0), PySem.W.mg_of X G a10, F10.kp, b10⟩
  have D11 : Df l.prog w K mg base 9 "_law_same" 2 (m__law_same 8) := ⟨f11, _, ["found", "due"], rfl, ok__law_same F11 (PySem.W.mg_of X G a11) b11 (PySem.W.mg_none_of X G z2) (PySem.W.mg_none_of X G z12) (PySem.W.mg_none_of X G z13) (PySem.W.mg_none_of X G z5) (PySem.W.mg_none_of X G z14) (PySem.W.mg_none_of X G z8) (PySem.W.mg_none_of X G z3) (PySem.W.mg_none_of X G z9) (PySem.W.mg_none_of X G z15) 8, PySem.W.mg_of X G a11, F11.kp, b11⟩
  have D12 : Df l.prog w K mg base 1 "words_text" 1 m_words_text := ⟨f12, _, ["words"], rfl, ok_words_text F12 ⟨PySem.W.mg_of X G z4, ⟨_, rfl⟩⟩, PySem.W.mg_of X G a12, F12.kp, b12⟩
  have D13 : Df l.prog w K mg base 2 "numbers_text" 1 m_numbers_text := ⟨f13, _, ["row"], rfl, ok_numbers_text F13 (PySem.W.mg_none_of X G z3) D12, PySem.W.mg_of X G a13, F13.kp, b13⟩
  have D14 : Df l.prog w K mg base 2 "log_text" 1 m_log_text := ⟨f14, _, ["log"], rfl, ok_log_text F14 (PySem.W.mg_none_of X G z3) D12, PySem.W.mg_of X G a14, F14.kp, b14⟩
  have D15 : Df l.prog w K mg base 2 "read_numbers" 1 m_read_numbers := ⟨f15, _, ["thing"], rfl, ok_read_numbers F15 D4 D5 (PySem.W.mg_none_of X G z16) ⟨PySem.W.mg_of X G z17, ⟨_, rfl⟩⟩ D6 ⟨PySem.W.mg_of X G z18, ⟨_, rfl⟩⟩ (PySem.W.mg_none_of X G z12), PySem.W.mg_of X G a15, F15.kp, b15⟩
  exact ok_law (base := base) F16 D10 D1 D2 (PySem.W.mg_none_of X G z3) D3 (PySem.W.mg_none_of X G z13) D13 D11 (PySem.W.mg_none_of X G z12) D14 D9 D15
end K80
namespace K80
open PySem PySem.Spec PyProof.Rows L2 Rg
theorem take_eq {h : Hs} {l : Nat} {p n : Int} (e : h[l]? = some (.lst [.int p])) (hn : 0 < n) (hw : n.natAbs.log2 < 9000) : m__law_take [.ref l, .int n] h = .ok (.int (p % n)) (h.set l (.lst [.int (p / n)])) := by
  unfold m__law_take b__law_take
  rw [runF_ev, sl0_2 (N := 1)]
  have i0 : ixF h (.ref l) (.int 0) = .ok (.int p) h := ix_L (asL_ref e) at_0
  simp [i0, gd_pos hn, gd_pos (show CDivW p n from ⟨hn, hw⟩), stF_L e (show ixN [Val.int p].length 0 = some 0 from rfl)]
  exact leave_v0 rfl ((Old.refl h).set rfl)
/-- the pot at l holds p -/
abbrev pot (h : Hs) (l : Nat) (p : Int) : Hs := h.set l (.lst [.int p])
theorem take_in {h g : Hs} {l : Nat} {p n : Int} (hl : l < h.length) (hp : 0 ≤ p) (hn : 0 < n) (hw : n.natAbs.log2 < 9000) :
    ∃ i p', m__law_take [.ref l, .int n] (pot h l p ++ g) = .ok (.int i) (pot h l p' ++ g) ∧ 0 ≤ i ∧ i < n ∧ 0 ≤ p' := by
  have e : (pot h l p ++ g)[l]? = some (.lst [.int p]) := by
    rw [List.getElem?_append_left (by simpa using hl), List.getElem?_set_self hl]
  refine ⟨p % n, p / n, ?_, Int.emod_nonneg _ (by omega), Int.emod_lt_of_pos _ hn, Int.ediv_nonneg hp (by omega)⟩
  rw [take_eq e hn hw, List.set_append_left _ _ (by simpa using hl), List.set_set]
theorem log_small {n : Int} (h0 : 0 < n) (h1 : n ≤ 10 ^ 61) : n.natAbs.log2 < 9000 := by
  have : n.natAbs < 2 ^ 9000 := by
    have h2 : n.natAbs ≤ 10 ^ 61 := by omega
    exact Nat.lt_of_le_of_lt h2 (by decide +kernel)
  exact (Nat.log2_lt (by omega)).mpr this
theorem row_ex {h : Hs} {l : Nat} {p : Int} (hl : l < h.length) (hp : 0 ≤ p) : Sat (m__law_row [.ref l] (pot h l p)) fun v h' => ∃ (ns : List Int) (p' : Int), v = .tl (ns.map Val.int) ∧ h' = pot h l p' ∧ 0 ≤ p' ∧ ns.length ≤ 60 ∧ ∀ n ∈ ns, 0 ≤ n ∧ n ≤ 10 ^ 60 := by
  unfold m__law_row b__law_row
  rw [runF_ev, sl0_1 (N := 3)]
  obtain ⟨i, p1, e1, b1, b2, b3⟩ := take_in (g := [.lst []]) (n := 5) hl hp (by omega) (by decide)
  have cnt : ∃ c : Nat, c ≤ 60 ∧ ixF (pot h l p1 ++ [.lst []]) (.tl [.int 0, .int 1, .int 2, .int 7, .int 60]) (.int i) = .ok (.int c) (pot h l p1 ++ [.lst []]) := by
    have : i = 0 ∨ i = 1 ∨ i = 2 ∨ i = 3 ∨ i = 4 := by omega
    rcases this with rfl | rfl | rfl | rfl | rfl
    · exact ⟨0, by omega, ix_L rfl (at_nat (n := 0) rfl)⟩
    · exact ⟨1, by omega, ix_L rfl (at_nat (n := 1) rfl)⟩
    · exact ⟨2, by omega, ix_L rfl (at_nat (n := 2) rfl)⟩
    · exact ⟨7, by omega, ix_L rfl (at_nat (n := 3) rfl)⟩
    · exact ⟨60, by omega, ix_L rfl (at_nat (n := 4) rfl)⟩
  obtain ⟨c, hc, e2⟩ := cnt
  simp [lineN, e1, e2, r1R_int (h := pot h l p1 ++ [.lst []]) (j := (c : Int)) ⟨by rw [lineN]; omega, by omega⟩]
  generalize eo : forG _ _ _ _ _ _ _ = o
  obtain ⟨r', h', rfl, w⟩ := for_of eo (rgD 0 c) (fun i r h' => ∃ a b ns p', r = [some (Val.ref l), some (Val.ref h.length), a, b] ∧ h' = pot h l p' ++ [.lst (ns.map Val.int)] ∧ 0 ≤ p' ∧ ns.length = i ∧ ∀ n ∈ ns, (0 : Int) ≤ n ∧ n ≤ 10 ^ 60)
    (by simp) ⟨none, none, [], p1, rfl, rfl, b3, rfl, by simp⟩ (fun _ _ _ _ => itR_at) (fun i d r h' ed w => by
      obtain ⟨a, b, ns, p', rfl, rfl, w1, w2, w3⟩ := w
      rw [rgD_get] at ed
      split at ed <;> cases ed
      obtain ⟨i1, p2, e3, c1, c2, c3⟩ := take_in (g := [.lst (ns.map Val.int)]) (n := 4) hl w1 (by omega) (by decide)
      have most : ∃ m : Int, 0 < m ∧ m ≤ 10 ^ 60 + 1 ∧ ixF (pot h l p2 ++ [.lst (ns.map Val.int)]) (.tl [.int 1, .int 10, .int 41, .int (10 ^ 60 + 1)]) (.int i1) = .ok (.int m) (pot h l p2 ++ [.lst (ns.map Val.int)]) := by
        have : i1 = 0 ∨ i1 = 1 ∨ i1 = 2 ∨ i1 = 3 := by omega
        rcases this with rfl | rfl | rfl | rfl
        · exact ⟨1, by omega, by omega, ix_L rfl (at_nat (n := 0) rfl)⟩
        · exact ⟨10, by omega, by omega, ix_L rfl (at_nat (n := 1) rfl)⟩
        · exact ⟨41, by omega, by omega, ix_L rfl (at_nat (n := 2) rfl)⟩
        · exact ⟨10 ^ 60 + 1, by omega, by omega, ix_L rfl (at_nat (n := 3) rfl)⟩
      obtain ⟨m, m1, m2, e4⟩ := most
      simp only [Int.reducePow, Int.reduceAdd] at e4
      obtain ⟨i2, p3, e5, c4, c5, c6⟩ := take_in (g := [.lst (ns.map Val.int)]) (n := m) hl c3 m1 (log_small m1 (by omega))
      obtain ⟨i3, p4, e6, c7, c8, c9⟩ := take_in (g := [.lst (ns.map Val.int)]) (n := 9) hl c6 (by omega) (by decide)
      have cp : CPow 10 60 := ⟨by omega, by omega, by decide⟩
      have cd : CDivW i3 3 := ⟨by omega, by decide⟩
      simp [lineN, e3, gd_pos cp, e4, e5, e6, gd_pos cd]
      have hl0 : (pot h l p4).length = h.length := by simp
      have item : ∃ x : Int, 0 ≤ x ∧ x ≤ 10 ^ 60 ∧ ixF (pot h l p4 ++ [.lst (ns.map Val.int)]) (.tl [.int i2, .int 0, .int (10 ^ 60)]) (.int (if i3 / 3 < 2 then i3 / 3 else 2)) = .ok (.int x) (pot h l p4 ++ [.lst (ns.map Val.int)]) := by
        have : (if i3 / 3 < 2 then i3 / 3 else 2) = 0 ∨ (if i3 / 3 < 2 then i3 / 3 else 2) = 1 ∨ (if i3 / 3 < 2 then i3 / 3 else 2) = 2 := by split <;> omega
        rcases this with e | e | e <;> rw [e]
        · exact ⟨i2, by omega, by omega, ix_L rfl (at_nat (n := 0) rfl)⟩
        · exact ⟨0, by omega, by omega, ix_L rfl (at_nat (n := 1) rfl)⟩
        · exact ⟨10 ^ 60, by omega, by omega, ix_L rfl (at_nat (n := 2) rfl)⟩
      obtain ⟨x, x1, x2, e7⟩ := item
      simp only [Int.reducePow] at e7
      rw [asL_ref (get_last (by simp)), e7]
      simp [app_ref (h := pot h l p4 ++ [.lst (ns.map Val.int)]) (get_last hl0) (a := .int x) ⟨rfl, by rw [lineN, List.length_map]; omega⟩, set_last hl0]
      refine ⟨ns ++ [x], p4, by simp, c9, by simp [w2], fun n hn => ?_⟩
      rcases List.mem_append.mp hn with hn | hn
      · have := w3 n hn; omega
      · rw [List.mem_singleton.mp hn]; omega)
  obtain ⟨a, b, ns, p', rfl, rfl, w1, w2, w3⟩ := w
  simp
  rw [show leave (pot h l p) (Val.ref h.length) (pot h l p' ++ [.lst (ns.map Val.int)]) = .ok (.tl (ns.map Val.int)) (pot h l p') from by
    have := leave_l0 (h := pot h l p) (h1 := pot h l p') (ds := ns.map Val.int) ⟨by simp, fun i o e => by
      by_cases c : l = i
      · subst c
        rw [List.getElem?_set_self hl] at e
        cases e; exact .inr rfl
      · rw [List.getElem?_set_ne c] at e ⊢
        exact .inl e⟩ (by simp)
    simpa using this]
  simp at w2
  exact sat_ok.mpr ⟨ns, rfl, p', rfl, w1, by omega, fun n hn => by have := w3 n hn; omega⟩

theorem mulR {i j : Int} {h : Hs} (a : -(2 ^ 64) < j) (b : j < 2 ^ 64) : mulF h (.int i) (.int j) = .ok (.int (i * j)) h := mul_II (.inl (.inr ⟨a, b⟩))
section
variable (h : Hs) (c one number n k i : Int) (a b : Option Val)
theorem d1 (hk : 0 ≤ k ∧ k < 1000): setS 3 (op2 modF (op2 addF (op2 addF (op2 mulF (vM 3) (cM (.int 48271))) (op2 mulF (op2 mulF (cM (.int 7919)) (vM 4)) (vM 4))) (cM (.int 104729))) (cM (.int 2147483647))) [some (.int c), some (.int n), some (.int number), some (.int one), some (.int k), b] h
  = .nx [some (.int c), some (.int n), some (.int number), some (.int ((one * 48271 + 7919 * k * k + 104729) % 2147483647)), some (.int k), b] h := by
  have m1 : mulF h (.int one) (.int 48271) = _ := mulR (by omega) (by omega)
  have m2 : mulF h (.int 7919) (.int k) = _ := mulR (by omega) (by omega)
  have m3 : mulF h (.int (7919 * k)) (.int k) = _ := mulR (by omega) (by omega)
  simp [m1, m2, m3]
theorem d2 (ho : 0 ≤ one ∧ one < 3000000000): setS 5 (op2 modF (op2 mulF (vM 3) (vM 3)) (cM (.int 2147483629))) [some (.int c), some (.int n), some (.int number), some (.int one), some (.int k), b] h
  = .nx [some (.int c), some (.int n), some (.int number), some (.int one), some (.int k), some (.int (one * one % 2147483629))] h := by
  have m1 : mulF h (.int one) (.int one) = _ := mulR (by omega) (by omega)
  simp [m1]
theorem d3 : setS 2 (op2 addF (op2 mulF (vM 2) (cM (.int 65536))) (op2 modF (op2 fdivF (vM 5) (cM (.int 512))) (cM (.int 65536)))) [some (.int c), some (.int n), some (.int number), some (.int one), some (.int k), some (.int i)] h
  = .nx [some (.int c), some (.int n), some (.int (number * 65536 + i / 512 % 65536)), some (.int one), some (.int k), some (.int i)] h := by
  have m1 : mulF h (.int number) (.int 65536) = _ := mulR (by omega) (by omega)
  have cd : ∀ x : Int, CDivW x 512 := fun x => ⟨by omega, by decide⟩
  simp [m1, gd_pos (cd _)]
end
theorem deal_ex {c : Int} {h : Hs} {n : Nat} (hn : n ≤ 1000) : Sat (m__law_deal [.int c, .int (n : Int)] h) fun v h' => ∃ p : Int, v = .int p ∧ 0 ≤ p ∧ h' = h := by
  unfold m__law_deal b__law_deal
  rw [runF_ev, sl0_2 (N := 4)]
  have cp : CPow 10 18 := ⟨by omega, by omega, by decide⟩
  simp [gd_pos cp]
  split
  · simp [leave_v0 (h := h) (d := .int (c - 1000000000000000000)) rfl (Old.refl h)]
    omega
  · simp [r1R_int (h := h) (j := (n : Int)) ⟨by rw [lineN]; omega, by omega⟩]
    generalize eo : forG _ _ _ _ _ _ _ = o
    obtain ⟨r', h', rfl, w⟩ := for_of eo (rgD 0 n) (fun i r h' => ∃ (a b : Option Val) (number one : Int), r = [some (.int c), some (.int (n : Int)), some (.int number), some (.int one), a, b] ∧ h' = h ∧ 0 ≤ number ∧ 0 ≤ one ∧ one < 3000000000)
      (by simp) ⟨none, none, 0, _, rfl, rfl, by omega, by omega, by omega⟩ (fun _ _ _ _ => itR_at) (fun i d r h' ed w => by
        obtain ⟨a, b, number, one, rfl, rfl, w1, w2, w3⟩ := w
        rw [rgD_get] at ed
        split at ed <;> cases ed
        rename_i lt
        rw [show asgP h' (.nm 4) (.int (0 + (i : Int))) [some (.int c), some (.int (n : Int)), some (.int number), some (.int one), a, b] = some [some (.int c), some (.int (n : Int)), some (.int number), some (.int one), some (.int (0 + (i : Int))), b] from by simp]
        rw [goT_some, seqS_ev, d1 h' c one number n (0 + (i : Int)) b (by omega), sq_nx, seqS_ev, d2 h' c _ number n (0 + (i : Int)) b (by omega), sq_nx, d3, turn_nx]
        refine ⟨_, _, _, _, rfl, rfl, ?_, ?_, ?_⟩ <;> omega)
    obtain ⟨a, b, number, one, rfl, rfl, w1, w2, w3⟩ := w
    simp [leave_v0 (h := h') (d := .int number) rfl (Old.refl h')]
    exact w1

/-! ### steps -/
inductive Step where
  | one (w : Str) (p : Int)
  | many (p q : Int)
def kinds : List Str := ["lone", "two", "loop"]
def Step.enc : Step → Val
  | .one w p => .tup [.str w, .int p]
  | .many p q => .tup [.str "many", .int p, .int q]
def Step.ok : Step → Prop
  | .one w p => w ∈ kinds ∧ 0 ≤ p ∧ p ≤ 39
  | .many p q => 0 ≤ p ∧ p < q ∧ q ≤ 39
theorem kinds_many {w : Str} (h : w ∈ kinds) : w ≠ "many" := by
  intro e; subst e; revert h; decide +kernel
theorem steps_ex {h : Hs} {l : Nat} {p : Int} (hl : l < h.length) (hp : 0 ≤ p) : Sat (m__law_steps [.ref l] (pot h l p)) fun v h' => ∃ (ss : List Step) (p' : Int), v = .tl (ss.map Step.enc) ∧ h' = pot h l p' ∧ 0 ≤ p' ∧ ss.length ≤ 300 ∧ ∀ s ∈ ss, s.ok := by
  unfold m__law_steps b__law_steps
  rw [runF_ev, sl0_1 (N := 4)]
  obtain ⟨i, p1, e1, b1, b2, b3⟩ := take_in (g := [.lst []]) (n := 5) hl hp (by omega) (by decide)
  have cnt : ∃ c : Nat, c ≤ 300 ∧ ixF (pot h l p1 ++ [.lst []]) (.tl [.int 0, .int 1, .int 3, .int 12, .int 300]) (.int i) = .ok (.int c) (pot h l p1 ++ [.lst []]) := by
    have : i = 0 ∨ i = 1 ∨ i = 2 ∨ i = 3 ∨ i = 4 := by omega
    rcases this with rfl | rfl | rfl | rfl | rfl
    · exact ⟨0, by omega, ix_L rfl (at_nat (n := 0) rfl)⟩
    · exact ⟨1, by omega, ix_L rfl (at_nat (n := 1) rfl)⟩
    · exact ⟨3, by omega, ix_L rfl (at_nat (n := 2) rfl)⟩
    · exact ⟨12, by omega, ix_L rfl (at_nat (n := 3) rfl)⟩
    · exact ⟨300, by omega, ix_L rfl (at_nat (n := 4) rfl)⟩
  obtain ⟨c, hc, e2⟩ := cnt
  simp [lineN, e1, e2, r1R_int (h := pot h l p1 ++ [.lst []]) (j := (c : Int)) ⟨by rw [lineN]; omega, by omega⟩]
  generalize eo : forG _ _ _ _ _ _ _ = o
  obtain ⟨r', h', rfl, w⟩ := for_of eo (rgD 0 c) (fun i r h' => ∃ (a b d : Option Val) (ss : List Step) (p' : Int), r = [some (Val.ref l), some (Val.ref h.length), a, b, d] ∧ h' = pot h l p' ++ [.lst (ss.map Step.enc)] ∧ 0 ≤ p' ∧ ss.length = i ∧ ∀ s ∈ ss, s.ok)
    (by simp) ⟨none, none, none, [], p1, rfl, rfl, b3, rfl, by simp⟩ (fun _ _ _ _ => itR_at) (fun i d r h' ed w => by
      obtain ⟨a, b, d2, ss, p', rfl, rfl, w1, w2, w3⟩ := w
      rw [rgD_get] at ed
      split at ed <;> cases ed
      obtain ⟨i1, p2, e3, c1, c2, c3⟩ := take_in (g := [.lst (ss.map Step.enc)]) (n := 4) hl w1 (by omega) (by decide)
      have word : ∃ w : Str, (w ∈ kinds ∨ w = "many") ∧ ixF (pot h l p2 ++ [.lst (ss.map Step.enc)]) (.tl [.str "lone", .str "two", .str "loop", .str "many"]) (.int i1) = .ok (.str w) (pot h l p2 ++ [.lst (ss.map Step.enc)]) := by
        have : i1 = 0 ∨ i1 = 1 ∨ i1 = 2 ∨ i1 = 3 := by omega
        rcases this with rfl | rfl | rfl | rfl
        · exact ⟨"lone", .inl (by decide +kernel), ix_L rfl (at_nat (n := 0) rfl)⟩
        · exact ⟨"two", .inl (by decide +kernel), ix_L rfl (at_nat (n := 1) rfl)⟩
        · exact ⟨"loop", .inl (by decide +kernel), ix_L rfl (at_nat (n := 2) rfl)⟩
        · exact ⟨"many", .inr rfl, ix_L rfl (at_nat (n := 3) rfl)⟩
      obtain ⟨wd, m1, e4⟩ := word
      obtain ⟨i2, p3, e5, c4, c5, c6⟩ := take_in (g := [.lst (ss.map Step.enc)]) (n := 40) hl c3 (by omega) (by decide)
      have q3 : (pot h l p3).length = h.length := by simp
      simp [lineN, e3, e4, e5]
      by_cases ew : wd = "many"
      · subst ew
        obtain ⟨i3, p4, e6, c7, c8, c9⟩ := take_in (g := [.lst (ss.map Step.enc)]) (n := 39 - i2 % 39) hl c6 (by omega) (log_small (by omega) (by omega))
        have q4 : (pot h l p4).length = h.length := by simp
        simp [e6, asL_ref (get_last (o := .lst (ss.map Step.enc)) q3), lineN, app_ref (get_last (o := .lst (ss.map Step.enc)) q4) (a := .tup [.str "many", .int (i2 % 39), .int (i2 % 39 + 1 + i3)]) ⟨rfl, by rw [lineN, List.length_map]; omega⟩, set_last q4]
        refine ⟨ss ++ [.many (i2 % 39) (i2 % 39 + 1 + i3)], p4, by simp [Step.enc], c9, by simp [w2], fun s hs => ?_⟩
        rcases List.mem_append.mp hs with hs | hs
        · exact w3 s hs
        · rw [List.mem_singleton.mp hs]; exact ⟨by omega, by omega, by omega⟩
      · simp [ew, asL_ref (get_last (o := .lst (ss.map Step.enc)) q3), lineN, app_ref (get_last (o := .lst (ss.map Step.enc)) q3) (a := .tup [.str wd, .int i2]) ⟨rfl, by rw [lineN, List.length_map]; omega⟩, set_last q3]
        refine ⟨ss ++ [.one wd i2], p3, by simp [Step.enc], c6, by simp [w2], fun s hs => ?_⟩
        rcases List.mem_append.mp hs with hs | hs
        · exact w3 s hs
        · rw [List.mem_singleton.mp hs]; exact ⟨m1.resolve_right ew, by omega, by omega⟩)
  obtain ⟨a, b, d, ss, p', rfl, rfl, w1, w2, w3⟩ := w
  simp
  rw [show leave (pot h l p) (Val.ref h.length) (pot h l p' ++ [.lst (ss.map Step.enc)]) = .ok (.tl (ss.map Step.enc)) (pot h l p') from by
    have := leave_l0 (h := pot h l p) (h1 := pot h l p') (ds := ss.map Step.enc) ⟨by simp, fun i o e => by
      by_cases c : l = i
      · subst c
        rw [List.getElem?_set_self hl] at e
        cases e; exact .inr rfl
      · rw [List.getElem?_set_ne c] at e ⊢
        exact .inl e⟩ (noRefs_all fun d hd => by
          obtain ⟨s, _, rfl⟩ := List.mem_map.mp hd
          cases s <;> rfl)
    simpa using this]
  simp at w2
  exact sat_ok.mpr ⟨ss, rfl, p', rfl, w1, by omega, w3⟩
end K80
namespace K80
open PySem PySem.Spec PyProof.Rows L2 Rg TL
/-! ### texts written -/
def ws0 (ws : List Str) : List Str := if ws = [] then ["-"] else ws
theorem ws0_ne (ws : List Str) : ws0 ws ≠ [] := by
  unfold ws0; split
  · simp
  · assumption
def wt (ws : List Str) : Str := Txt.join " " (ws0 ws)
/-- short words, few -/
def Few (ws : List Str) : Prop := ws.length ≤ 900 ∧ ∀ w ∈ ws, Word w ∧ w.length ≤ 61
theorem Few.sum {ws : List Str} (f : Few ws) : (ws.map (·.length)).sum ≤ 54900 := by
  have := sum_le fun w hw => (f.2 w hw).2
  have := f.1
  have : ws.length * 61 ≤ 900 * 61 := Nat.mul_le_mul_right _ f.1
  omega
theorem dash_word : Word "-" := ⟨by decide +kernel, by decide +kernel⟩
theorem few0 {ws : List Str} (f : Few ws) : Few (ws0 ws) := by
  unfold ws0; split
  · exact ⟨by simp, fun w hw => by rw [List.mem_singleton.mp hw]; exact ⟨dash_word, by decide +kernel⟩⟩
  · exact f
theorem one_sp : (" " : Str).length = 1 := by decide +kernel
theorem text_ok {a : Val} {h : Hs} {ws : List Str} (e : asL h a = some (ws.map Val.str)) (f : Few ws) : m__law_text [a] h = .ok (.str (wt ws)) h := by
  unfold m__law_text b__law_text
  rw [runF_ev, sl0_1 (N := 0)]
  have sh := shaped_strs fun w hw => (f.2 w hw).1.2
  have e1 : eqF h a (.tl []) = .ok (.bl (ws.map Val.str).isEmpty) h := by
    rw [eq_LL e (asL_tl (ds := [])) sh shaped_nil, eqv_nil]
  simp [e1]
  by_cases c : ws = []
  · subst c
    simp
    rw [leave_v0 rfl (Old.refl h)]
    rfl
  · have j : joinF h (.str " ") a = .ok (.str (Txt.join " " ws)) h := join_Q (asQ_L e) (by have := f.sum; have := f.1; rw [one_sp]; omega)
    simp [c, j]
    rw [leave_v0 rfl (Old.refl h)]
    unfold wt ws0
    rw [if_neg c]
theorem wtext_ok {a : Val} {h : Hs} {ws : List Str} (e : asL h a = some (ws.map Val.str)) (f : Few ws) : m_words_text [a] h = .ok (.str (wt ws)) h := by
  unfold m_words_text b_words_text
  rw [runF_ev, sl0_1 (N := 0)]
  have sh := shaped_strs fun w hw => (f.2 w hw).1.2
  have e1 : eqF h a (.tl []) = .ok (.bl (ws.map Val.str).isEmpty) h := by
    rw [eq_LL e (asL_tl (ds := [])) sh shaped_nil, eqv_nil]
  simp [e1]
  by_cases c : ws = []
  · subst c
    simp
    rw [leave_v0 rfl (Old.refl h)]
    rfl
  · have j : joinF h (.str " ") a = .ok (.str (Txt.join " " ws)) h := join_Q (asQ_L e) (by have := f.sum; have := f.1; rw [one_sp]; omega)
    simp [c, j]
    rw [leave_v0 rfl (Old.refl h)]
    unfold wt ws0
    rw [if_neg c]
/-! ### a row of numbers -/
def iS (i : Int) : Str := nS i.toNat
theorem iS_eq {i : Int} (h : 0 ≤ i) : (Str.ofString (toString i)) = iS i := by
  unfold iS nS
  rw [Int.toNat_of_nonneg h]
theorem str_iS {i : Int} {h : Hs} (h0 : 0 ≤ i) (h1 : i ≤ 10 ^ 60) : strF h (.int i) = .ok (.str (iS i)) h := by
  have := str_I (h := h) (i := i) (by
    by_cases c : i.natAbs = 0
    · rw [c]; decide
    · refine (Nat.log2_lt c).mpr ?_
      have h2 : i.natAbs ≤ 10 ^ 60 := by omega
      exact Nat.lt_of_le_of_lt h2 (by decide +kernel))
  rw [this]
  show R.ok (Val.str (Str.ofString (toString i))) h = _
  rw [iS_eq h0]
theorem iS_len {i : Int} (h1 : i ≤ 10 ^ 60) : (iS i).length ≤ 61 := by
  unfold iS
  rw [nS_len]
  exact numL_len (by omega) (by omega)
abbrev NOk (ns : List Int) : Prop := ns.length ≤ 60 ∧ ∀ n ∈ ns, (0 : Int) ≤ n ∧ n ≤ 10 ^ 60
theorem few_ns {ns : List Int} (h : NOk ns) : Few (ns.map iS) := by
  refine ⟨by rw [List.length_map]; have := h.1; omega, fun w hw => ?_⟩
  obtain ⟨n, hn, rfl⟩ := List.mem_map.mp hw
  exact ⟨nS_word _, iS_len (h.2 n hn).2⟩
theorem ntext_ok {a : Val} {h : Hs} {ns : List Int} (e : seR h a = .ok (itL (ns.map Val.int)) h) (o : NOk ns) : m_numbers_text [a] h = .ok (.str (wt (ns.map iS))) h := by
  unfold m_numbers_text b_numbers_text
  rw [runF_ev, sl0_1 (N := 1)]
  simp [e]
  generalize eo : lcG _ _ _ _ _ _ _ _ _ = o'
  have := lc_of eo (ns.map Val.int) (fun d => match d with | .int i => .str (iS i) | d => d) (by simp) (fun i => rfl) (fun d hd => by
    obtain ⟨n, hn, rfl⟩ := List.mem_map.mp hd
    simp [wipeS, str_iS (o.2 n hn).1 (o.2 n hn).2])
  rw [this]
  have e2 : (ns.map Val.int).map (fun d => match d with | .int i => Val.str (iS i) | d => d) = (ns.map iS).map Val.str := by
    rw [List.map_map, List.map_map]; rfl
  rw [e2]
  have q := wtext_ok (h := h) (a := .lst ((ns.map iS).map Val.str)) rfl (few_ns o)
  rw [List.map_map] at q
  simp [q]
  exact leave_v0 noRef_str (Old.refl h)
/-! ### reading a number -/
theorem ix_S {h : Hs} {z : Str} {i : Int} {c : Nat} (hz : z.length ≤ sizeLine) (e : atI z.cps.toList i = some c) : ixF h (.str z) (.int i) = .ok (.str ⟨#[c]⟩) h := by
  unfold ixF or2 onTI onLI onDK onSI
  simp only [asT_str, asL_str, orElse_no, asD, gd_pos hz, e]
theorem figs : ("0123456789" : Str).cps.toList = [48, 49, 50, 51, 52, 53, 54, 55, 56, 57] := by decide +kernel
theorem in_figs {c : Nat} {h : Hs} (hc : 48 ≤ c ∧ c ≤ 57) : inF false h (.str ⟨#[c]⟩) d_FIGURES = .ok (.bl true) h := by
  unfold inF or2 onSS d_FIGURES
  have : oneSign ⟨#[c]⟩ = some c := rfl
  simp only [this, figs]
  have : c = 48 ∨ c = 49 ∨ c = 50 ∨ c = 51 ∨ c = 52 ∨ c = 53 ∨ c = 54 ∨ c = 55 ∨ c = 56 ∨ c = 57 := by omega
  rcases this with rfl | rfl | rfl | rfl | rfl | rfl | rfl | rfl | rfl | rfl <;> rfl
theorem nread_ok {n most : Int} {h : Hs} (h0 : 0 ≤ n) (h1 : n ≤ 10 ^ 60) (h2 : n ≤ most) : m_number_read [.str (iS n), .int most] h = .ok (.int n) h := by
  unfold m_number_read b_number_read
  rw [runF_ev, sl0_2 (N := 1)]
  have len := iS_len h1
  have ne : iS n ≠ "" := by
    intro e
    have := congrArg (fun s : Str => s.cps.toList) e
    simp only [iS, nS_tl] at this
    exact numL_ne _ (this.trans (by decide +kernel))
  have l1 : lenF h (.str (iS n)) = .ok (.int (iS n).length) h := len_S (by rw [lineN]; omega)
  have s1 : seR h (.str (iS n)) = .ok (itS (iS n)) h := seR_str (by rw [lineN]; exact Nat.le_trans len (by omega))
  have i1 : intF h (.str (iS n)) = .ok (.int n) h := by
    have := int_S (h := h) (nS_int n.toNat (by unfold iS at len; omega)) (by unfold iS at len; omega)
    rw [Int.toNat_of_nonneg h0] at this
    exact this
  simp [ne, l1, s1, i1, d_MOST_FIGURES]
  generalize eo : lcG _ _ _ _ _ _ _ _ _ = o'
  have := lc_of eo ((iS n).cps.toList.map fun c => Val.str ⟨#[c]⟩) (fun _ => .bl true) (by simp [itS]) (fun i => by simp [itS]) (fun d hd => by
    obtain ⟨c, hc, rfl⟩ := List.mem_map.mp hd
    have := numL_digits n.toNat c (by rw [← nS_tl]; exact hc)
    simp [wipeS, in_figs this])
  rw [this]
  have e2 : ((iS n).cps.toList.map fun c => Val.str ⟨#[c]⟩).map (fun _ => Val.bl true) = ((iS n).cps.toList.map fun _ => true).map Val.bl := by
    rw [List.map_map, List.map_map]; rfl
  rw [e2]
  have q1 : allF h (.tl (((iS n).cps.toList.map fun _ => true).map Val.bl)) = .ok (.bl true) h := by
    rw [all_L (h := h) (d := .tl (((iS n).cps.toList.map fun _ => true).map Val.bl)) rfl]
    simp
  rw [List.map_map] at q1
  have q2 : ¬ (61 : Int) < ((iS n).length : Int) := by omega
  simp [q1, q2]
  -- the first sign
  have hd : ∃ c r, (iS n).cps.toList = c :: r := by
    cases e : (iS n).cps.toList with
    | nil =>
      simp only [iS, nS_tl] at e
      exact absurd e (numL_ne _)
    | cons c r => exact ⟨c, r, rfl⟩
  obtain ⟨c, r, ec⟩ := hd
  have x1 : ixF h (.str (iS n)) (.int 0) = .ok (.str ⟨#[c]⟩) h := ix_S (by rw [lineN]; omega) (by rw [ec]; exact at_nat (n := 0) rfl)
  have q3 : ¬ most < n := by omega
  by_cases z : n = 0
  · subst z
    have e0 : iS 0 = "0" := nS_zero
    have c1 : (⟨#[c]⟩ : Str) = "0" := by
      have e2 : ("0" : Str).cps.toList = [48] := by decide +kernel
      rw [e0, e2] at ec
      rw [← (List.cons.inj ec).1]
      decide +kernel
    rw [c1, e0] at x1
    rw [e0] at i1
    rw [e0]
    simp [x1, i1, q3]
    exact leave_v0 noRef_int (Old.refl h)
  · have c0 : (⟨#[c]⟩ : Str) ≠ "0" := by
      intro e
      have e1 : c = 48 := by
        have := congrArg (fun s : Str => s.cps.toList) e
        have e2 : ("0" : Str).cps.toList = [48] := by decide +kernel
        simp only [e2] at this
        simpa using this
      obtain ⟨c', r', e3, h3⟩ := numL_head n.toNat (by omega)
      have : (iS n).cps.toList = numL n.toNat := nS_tl _
      rw [this, e3] at ec
      have := (List.cons.inj ec).1
      omega
    simp [x1, c0, i1, q3]
    exact leave_v0 noRef_int (Old.refl h)
end K80
namespace Rg
@[simp] theorem asgP_tup {h : Hs} {ps : List Pt} {ds : List Val} {r : Sl} : asgP h (.tp ps) (.tup ds) r = asgPs h ps ds r := by unfold asgP; rfl
@[simp] theorem asgP_lst {h : Hs} {ps : List Pt} {ds : List Val} {r : Sl} : asgP h (.tp ps) (.lst ds) r = asgPs h ps ds r := by unfold asgP; rfl
@[simp] theorem asgPs_cons {h : Hs} {p : Pt} {ps : List Pt} {d : Val} {ds : List Val} {r : Sl} : asgPs h (p :: ps) (d :: ds) r = (asgP h p d r).bind fun r1 => asgPs h ps ds r1 := by
  rw [asgPs]; cases asgP h p d r <;> rfl
@[simp] theorem asgPs_nil {h : Hs} {r : Sl} : asgPs h [] [] r = some r := by rw [asgPs]
end Rg
namespace K80
open PySem PySem.Spec PyProof.Rows L2 Rg TL
theorem wt_len {ws : List Str} (f : Few ws) : (wt ws).length ≤ 60000 := by
  have f0 := few0 f
  have := join_len (ws := ws0 ws)
  have := f0.sum
  have := f0.1
  unfold wt; omega
theorem wof_ok {ws : List Str} {h : Hs} (f : Few ws) : m_words_of [.str (wt ws)] h = .ok (.tl ((ws0 ws).map .str)) h := by
  unfold m_words_of b_words_of
  rw [runF_ev, sl0_1 (N := 0)]
  have f0 := few0 f
  have l := wt_len f
  have i1 : isiF "str" h (.str (wt ws)) = .ok (.bl true) h := rfl
  have s1 : splitF h (.str (wt ws)) (.str " ") = .ok (.tl ((ws0 ws).map .str)) h := by
    rw [split_S ⟨by rw [one_sp]; rfl, by rw [lineN]; omega⟩]
    unfold wt
    rw [split_words (ws0_ne ws) fun w hw => (f0.2 w hw).1]
  simp [i1, s1]
  exact leave_v0 (by simp) (Old.refl h)
theorem empty_ok {w : Str} {ws : List Str} {h : Hs} (c : w = "-" → ws = []) (l : ws.length ≤ 1000) : m_is_empty [.lst ((w :: ws).map .str)] h = .ok (.bl (decide (w = "-"))) h := by
  unfold m_is_empty b_is_empty
  rw [runF_ev, sl0_1 (N := 0)]
  have x1 : ixF h (.lst ((w :: ws).map .str)) (.int 0) = .ok (.str w) h := ix_L rfl (at_nat (n := 0) rfl)
  have l1 : lenF h (.lst ((w :: ws).map .str)) = .ok (.int ((w :: ws).map Val.str).length) h := len_Q rfl
  rw [List.map_cons] at x1 l1
  by_cases z : w = "-"
  · have := c z
    subst this
    simp [x1, l1, d_EMPTY, z]
    rw [z] at x1
    simp at x1
    simp [x1]
    exact leave_v0 noRef_bl (Old.refl h)
  · simp [x1, l1, d_EMPTY, z]
    exact leave_v0 noRef_bl (Old.refl h)
theorem iS_dash (n : Int) : iS n ≠ "-" := by
  intro e
  have := congrArg (fun s : Str => s.cps.toList) e
  have e2 : ("-" : Str).cps.toList = [45] := by decide +kernel
  simp only [iS, nS_tl, e2] at this
  have := numL_digits n.toNat 45 (by rw [this]; simp)
  omega
theorem iS_nonneg {n : Int} : True := trivial
theorem rnum_ok {ns : List Int} {h : Hs} (o : NOk ns) : m_read_numbers [.str (wt (ns.map iS))] h = .ok (.tup (ns.map Val.int)) h := by
  unfold m_read_numbers b_read_numbers
  rw [runF_ev, sl0_1 (N := 5)]
  have f := few_ns o
  have w1 := wof_ok (h := h) f
  by_cases cn : ns = []
  · subst cn
    have e1 := empty_ok (w := "-") (ws := []) (h := h) (fun _ => rfl) (by simp)
    simp [ws0] at w1 e1
    simp [w1, e1]
    exact leave_v0 (by simp) (Old.refl h)
  · have e1 : m_is_empty [.lst ((ns.map iS).map .str)] h = .ok (.bl false) h := by
      cases ns with
      | nil => exact absurd rfl cn
      | cons n ns =>
        have e1 := empty_ok (w := iS n) (ws := ns.map iS) (h := h) (fun c => absurd c (iS_dash n)) (by have := o.1; simp at this ⊢; omega)
        rw [decide_eq_false (iS_dash n)] at e1
        exact e1
    have e0 : ws0 (ns.map iS) = ns.map iS := by unfold ws0; rw [if_neg (by simpa using cn)]
    rw [e0] at w1
    rw [List.map_map] at w1 e1
    simp [w1, e1]
    generalize eo : forG _ _ _ _ _ _ _ = o'
    obtain ⟨r', h', rfl, w⟩ := for_of eo (enD 0 (ns.map (Val.str ∘ iS))) (fun i r h' => ∃ a b c, r = [some (.str (wt (ns.map iS))), some (.lst (ns.map (Val.str ∘ iS))), some (.ref h.length), a, b, c] ∧ h' = h ++ [.lst ((ns.map Val.int).take i)])
      rfl ⟨none, none, none, rfl, rfl⟩ (fun _ _ _ _ => enV_at) (fun i d r h' ed w => by
        obtain ⟨a, b, c, rfl, rfl⟩ := w
        rw [enD_get, List.getElem?_map] at ed
        cases en : ns[i]? with
        | none => rw [en] at ed; cases ed
        | some n =>
          rw [en] at ed
          cases ed
          have lt : i < ns.length := (List.getElem?_eq_some_iff.mp en).1
          have mem : n ∈ ns := List.mem_of_getElem? en
          obtain ⟨n0, n1⟩ := o.2 n mem
          have rd := nread_ok (h := h ++ [.lst ((ns.map Val.int).take i)]) n0 n1 n1
          simp only [Int.reducePow] at rd
          have i60 : (i : Int) ≠ 60 := by have := o.1; omega
          have ap := app_ref (h := h ++ [.lst ((ns.map Val.int).take i)]) (l := h.length) (a := .int n) (get_last rfl) ⟨rfl, by rw [lineN]; have := o.1; simp; omega⟩
          rw [set_last rfl] at ap
          simp [rd, d_MOST_NUMBER, d_MOST_NUMBERS, i60, asL_ref (get_last (h := h) rfl), ap]
          rw [List.take_add_one, List.getElem?_map, en]; rfl)
    obtain ⟨a, b, c, rfl, rfl⟩ := w
    rw [enD_len, List.length_map, ← List.length_map (f := Val.int), List.take_length]
    have t1 : tupleF (h ++ [.lst (ns.map Val.int)]) (.ref h.length) = .ok (.tup (ns.map Val.int)) (h ++ [.lst (ns.map Val.int)]) := tuple_L (asL_ref (get_last rfl))
    simp [t1]
    exact leave_v (Old.refl h) (by simp)
end K80
namespace Rg
@[simp] theorem slM_ev {x : EM} {lo hi : OM} {r : Sl} {h : Hs} : slM x lo hi r h = (x r h).bind fun d h1 => (lo r h1).bind fun l h2 => (hi r h2).bind fun u h3 => sliceF h3 d l u := rfl
@[simp] theorem oNo_ev {r : Sl} {h : Hs} : oNo r h = .ok none h := rfl
def oR (d : Val) (h : Hs) : R (Option Int) := match d with
  | .int i => .ok (some i) h
  | _ => .no
@[simp] theorem oSo_ev {x : EM} {r : Sl} {h : Hs} : oSo x r h = (x r h).bind fun d h1 => oR d h1 := rfl
@[simp] theorem oR_int {i : Int} {h : Hs} : oR (.int i) h = .ok (some i) h := rfl
@[simp] theorem slice_tup {h : Hs} {ds : List Val} {l u : Option Int} : sliceF h (.tup ds) l u = .ok (.tup (cutD ds l u)) h := rfl
@[simp] theorem slice_lst {h : Hs} {ds : List Val} {l u : Option Int} : sliceF h (.lst ds) l u = .ok (.tl (cutD ds l u)) h := rfl
theorem cut_1 {d : Val} {ds : List Val} : cutD (d :: ds) (some 1) none = ds := by
  unfold cutD
  rw [show HT.sIx (d :: ds).length 0 (some 1) = min 1 (d :: ds).length from HT.sIx_nat _ 0 1, HT.sIx_none, show min 1 (d :: ds).length = 1 by simp]
  simp
end Rg
namespace K80
open PySem PySem.Spec PyProof.Rows L2 Rg TL
def Step.words : Step → List Str
  | .one w p => [w, iS p]
  | .many p q => ["many", iS p, iS q]
/-- first the word, then the numbers -/
def Step.nums : Step → List Int
  | .one _ p => [p]
  | .many p q => [p, q]
def Step.word : Step → Str
  | .one w _ => w
  | .many _ _ => "many"
theorem Step.words_eq (s : Step) : s.words = s.word :: s.nums.map iS := by cases s <;> rfl
theorem Step.enc_eq (s : Step) : s.enc = .tup (.str s.word :: s.nums.map .int) := by cases s <;> rfl
theorem Step.nums_ok {s : Step} (h : s.ok) : ∀ n ∈ s.nums, 0 ≤ n ∧ n ≤ 39 := by
  cases s with
  | one w p =>
    intro n hn
    rw [List.mem_singleton.mp hn]
    exact ⟨h.2.1, h.2.2⟩
  | many p q =>
    intro n hn
    obtain ⟨h1, h2, h3⟩ := h
    rcases List.mem_cons.mp hn with rfl | hn
    · omega
    · rw [List.mem_singleton.mp hn]; omega
theorem Step.len (s : Step) : s.words.length ≤ 3 := by cases s <;> simp [Step.words]
theorem word_ok {s : Step} (h : s.ok) : Word s.word ∧ s.word.length ≤ 61 := by
  have k : ∀ w ∈ (("many" : Str) :: kinds), (32 ∉ w.cps.toList ∧ PyData.strOk w = true) ∧ w.length ≤ 61 := by decide +kernel
  cases s with
  | one w p => exact k w (List.mem_cons_of_mem _ h.1)
  | many p q => exact k "many" List.mem_cons_self
abbrev SOk (ss : List Step) : Prop := ss.length ≤ 300 ∧ ∀ s ∈ ss, s.ok
def wds (ss : List Step) : List Str := ss.flatMap Step.words
theorem wds_len : ∀ ss : List Step, (wds ss).length ≤ ss.length * 3
  | [] => by simp [wds]
  | s :: ss => by
    have := wds_len ss
    have := s.len
    unfold wds at *
    rw [List.flatMap_cons, List.length_append, List.length_cons]
    omega
theorem few_ss {ss : List Step} (o : SOk ss) : Few (wds ss) := by
  refine ⟨by have := wds_len ss; have := o.1; omega, fun w hw => ?_⟩
  obtain ⟨s, hs, hm⟩ := List.mem_flatMap.mp hw
  rw [s.words_eq] at hm
  rcases List.mem_cons.mp hm with rfl | hm
  · exact word_ok (o.2 s hs)
  · obtain ⟨n, hn, rfl⟩ := List.mem_map.mp hm
    have := Step.nums_ok (o.2 s hs) n hn
    exact ⟨nS_word _, iS_len (by omega)⟩
/-- [str(place) for place in ..] -/
theorem strs_ok {ns : List Int} {h : Hs} {o' : R (List Val)} {r : Sl} {k m : Nat} (o : ∀ n ∈ ns, (0 : Int) ≤ n ∧ n ≤ 39) (hm : m = ns.length) (eo : lcG (itL (ns.map Val.int)) (.nm k) (cM (.bl true)) (op1 strF (vM k)) [k] m 0 r h = o') (hk : k < r.length := by simp) : o' = .ok ((ns.map iS).map Val.str) h := by
  have := lc_of eo (ns.map Val.int) (fun d => match d with | .int i => .str (iS i) | d => d) (by simp [hm]) (fun i => rfl) (fun d hd => by
    obtain ⟨n, hn, rfl⟩ := List.mem_map.mp hd
    have := o n hn
    simp [wipeS, hk, str_iS this.1 (by omega)])
  rw [this, List.map_map, List.map_map]; rfl
theorem ltext_ok {a : Val} {h : Hs} {ss : List Step} (e : seR h a = .ok (itL (ss.map Step.enc)) h) (hx : seR (h ++ [.lst []]) a = .ok (itL (ss.map Step.enc)) (h ++ [.lst []])) (o : SOk ss) : m_log_text [a] h = .ok (.str (wt (wds ss))) h := by
  unfold m_log_text b_log_text
  rw [runF_ev, sl0_1 (N := 3)]
  simp [lineN, hx]
  generalize eo : forG _ _ _ _ _ _ _ = o'
  obtain ⟨r', h', rfl, w⟩ := for_of eo (ss.map Step.enc) (fun i r h' => ∃ b c, r = [some a, some (.ref h.length), b, c] ∧ h' = h ++ [.lst ((wds (ss.take i)).map Val.str)])
    (by simp) ⟨none, none, rfl, rfl⟩ (fun _ _ _ _ => rfl) (fun i d r h' ed w => by
      obtain ⟨b, c, rfl, rfl⟩ := w
      rw [List.getElem?_map] at ed
      cases en : ss[i]? with
      | none => rw [en] at ed; cases ed
      | some s =>
        rw [en] at ed
        cases ed
        have sok := o.2 s (List.mem_of_getElem? en)
        have lt : i < ss.length := (List.getElem?_eq_some_iff.mp en).1
        have wl := wds_len (ss.take i)
        have tl : (ss.take i).length ≤ 300 := by have := o.1; simp; omega
        have ap := app_ref (h := h ++ [.lst ((wds (ss.take i)).map Val.str)]) (l := h.length) (a := .str s.word) (get_last rfl) ⟨rfl, by rw [lineN]; simp; omega⟩
        rw [set_last rfl] at ap
        have x1 : ∀ h, ixF h (.tup (.str s.word :: s.nums.map .int)) (.int 0) = .ok (.str s.word) h := fun h => ix_T at_0
        rw [s.enc_eq]
        simp [x1, ap, asL_ref (get_last (h := h) rfl), cut_1]
        generalize eo2 : lcG _ _ _ _ _ _ _ _ _ = o2
        have q := strs_ok (Step.nums_ok sok) rfl eo2
        subst q
        clear eo2
        have ex := ext_ref (h := h ++ [.lst ((wds (ss.take i)).map Val.str ++ [.str s.word])]) (l := h.length) (a := .tl ((s.nums.map iS).map Val.str)) (get_last rfl) rfl (by rw [lineN]; have := s.len; rw [s.words_eq] at this; simp at this ⊢; omega)
        rw [set_last rfl] at ex
        rw [List.map_map] at ex
        simp [ex]
        rw [List.take_add_one, en]
        simp [wds, s.words_eq])
  obtain ⟨b, c, rfl, rfl⟩ := w
  rw [List.length_map, List.take_length]
  simp [wtext_ok (h := h ++ [.lst ((wds ss).map Val.str)]) (a := .ref h.length) (asL_ref (get_last rfl)) (few_ss o)]
  exact leave_v (Old.refl h) noRef_str
end K80
namespace K80
open PySem PySem.Spec PyProof.Rows L2 Rg TL
theorem place_ok {ws : List Str} {h : Hs} {at_ : Nat} {p : Int} (e : ws[at_]? = some (iS p)) (h0 : 0 ≤ p) (h1 : p ≤ 39) : m_place_at [.lst (ws.map .str), .int (at_ : Int)] h = .ok (.int p) h := by
  unfold m_place_at b_place_at
  rw [runF_ev, sl0_2 (N := 1)]
  have lt := (List.getElem?_eq_some_iff.mp e).1
  have l1 : lenF h (.lst (ws.map Val.str)) = .ok (.int (ws.map Val.str).length) h := len_Q rfl
  have x1 : ixF h (.lst (ws.map Val.str)) (.int (at_ : Int)) = .ok (.str (iS p)) h := ix_L rfl (by rw [at_nat (n := at_) rfl, List.getElem?_map, e]; rfl)
  have ne : (at_ : Int) ≠ (ws.length : Int) := by omega
  have rd := nread_ok (h := h) (n := p) (most := 39) h0 (by omega) h1
  simp [l1, x1, ne, rd, d_MOST_PLACES]
  exact leave_v0 noRef_int (Old.refl h)
theorem in_kinds {w : Str} (hw : w ∈ (("many" : Str) :: kinds)) (h : Hs) : inF true h (.str w) (.tup [.str "lone", .str "two", .str "loop", .str "many"]) = .ok (.bl false) h := by
  have q : ∀ w ∈ (("many" : Str) :: kinds), (oneSign w = none ∨ oneSign w ≠ none) ∧ SeqAt.shaped (.str w) = true ∧ ([PyData.str "lone", .str "two", .str "loop", .str "many"].any fun z => PyData.eqv z (.str w)) = true := by decide +kernel
  obtain ⟨_, q1, q2⟩ := q w hw
  have sh : SeqAt.shaped (.tuple [PyData.str "lone", .str "two", .str "loop", .str "many"]) = true := by decide +kernel
  refine (show inF true h (.str w) (.tup [.str "lone", .str "two", .str "loop", .str "many"]) = gd (SeqAt.shaped (.str w) = true ∧ SeqAt.shaped (.tuple [PyData.str "lone", .str "two", .str "loop", .str "many"]) = true) (R.ok (Val.bl (true != ([PyData.str "lone", .str "two", .str "loop", .str "many"].any fun z => PyData.eqv z (.str w)))) h) from rfl).trans ?_
  rw [gd_pos ⟨q1, sh⟩, q2]; rfl
theorem step_ok {ws : List Str} {h : Hs} {at_ : Nat} {s : Step} (o : s.ok) (e : ∀ j w, s.words[j]? = some w → ws[at_ + j]? = some w) : m_step_at [.lst (ws.map .str), .int (at_ : Int)] h = .ok s.enc h := by
  unfold m_step_at b_step_at
  rw [runF_ev, sl0_2 (N := 3)]
  have e0 := e 0 s.word (by rw [s.words_eq]; rfl)
  have x1 : ixF h (.lst (ws.map Val.str)) (.int (at_ : Int)) = .ok (.str s.word) h := ix_L rfl (by rw [at_nat (n := at_) rfl, List.getElem?_map, show ws[at_]? = _ from e0]; rfl)
  cases s with
  | one w p =>
    have k1 := in_kinds (w := w) (List.mem_cons_of_mem _ o.1) h
    have p1 := place_ok (h := h) (ws := ws) (at_ := at_ + 1) (p := p) (e 1 _ rfl) o.2.1 o.2.2
    rw [Int.natCast_add, show ((1 : Nat) : Int) = 1 from rfl] at p1
    have nm := kinds_many o.1
    simp only [Step.word] at x1
    simp [x1, k1, p1, nm, lineN]
    exact leave_v0 rfl (Old.refl h)
  | many p q =>
    have k1 := in_kinds (w := "many") List.mem_cons_self h
    obtain ⟨o1, o2, o3⟩ := o
    have p1 := place_ok (h := h) (ws := ws) (at_ := at_ + 1) (p := p) (e 1 _ rfl) o1 (by omega)
    have p2 := place_ok (h := h) (ws := ws) (at_ := at_ + 2) (p := q) (e 2 _ rfl) (by omega) o3
    rw [Int.natCast_add, show ((1 : Nat) : Int) = 1 from rfl] at p1
    rw [Int.natCast_add, show ((2 : Nat) : Int) = 2 from rfl] at p2
    simp only [Step.word] at x1
    have ge : ¬ q ≤ p := by omega
    simp [x1, k1, p1, p2, ge, lineN]
    exact leave_v0 rfl (Old.refl h)
theorem wds_split {ss : List Step} {i : Nat} {s : Step} (e : ss[i]? = some s) : ∀ j w, s.words[j]? = some w → (wds ss)[(wds (ss.take i)).length + j]? = some w := by
  intro j w hj
  have lt := (List.getElem?_eq_some_iff.mp e).1
  have e1 : ss = ss.take i ++ s :: ss.drop (i + 1) := by
    have := List.take_append_drop i ss
    rw [List.drop_eq_getElem_cons lt, (List.getElem?_eq_some_iff.mp e).2] at this
    exact this.symm
  have e2 : wds ss = wds (ss.take i) ++ (s.words ++ wds (ss.drop (i + 1))) := by
    conv => lhs; rw [e1]
    unfold wds
    rw [List.flatMap_append, List.flatMap_cons]
  rw [e2, List.getElem?_append_right (by omega), Nat.add_sub_cancel_left, List.getElem?_append_left (List.getElem?_eq_some_iff.mp hj).1, hj]
theorem wds_lt {ss : List Step} {i : Nat} : (wds (ss.take i)).length < (wds ss).length ↔ i < ss.length := by
  constructor
  · intro h
    by_cases c : i < ss.length
    · exact c
    · rw [List.take_of_length_le (by omega)] at h; omega
  · intro h
    have := wds_split (List.getElem?_eq_getElem h) 0 (ss[i]).word (by rw [Step.words_eq]; rfl)
    exact (List.getElem?_eq_some_iff.mp this).1
theorem enc_len (s : Step) {h : Hs} : lenF h s.enc = .ok (.int s.words.length) h := by
  cases s with
  | one w p => exact len_Q (d := .tup [.str w, .int p]) rfl
  | many p q => exact len_Q (d := .tup [.str "many", .int p, .int q]) rfl
theorem enc_tmp (s : Step) : isTmp s.enc = false := by cases s <;> rfl
theorem enc_fz (s : Step) : fzV s.enc = s.enc := by cases s <;> rfl
theorem enc_refs (ss : List Step) : noRefs (ss.map Step.enc) = true := noRefs_all fun d hd => by
  obtain ⟨s, _, rfl⟩ := List.mem_map.mp hd
  cases s <;> rfl
theorem wds_nil {ss : List Step} (h : ss ≠ []) : wds ss ≠ [] := by
  cases ss with
  | nil => exact absurd rfl h
  | cons s ss => unfold wds; rw [List.flatMap_cons, s.words_eq]; simp
theorem rlog_ok {ss : List Step} {h : Hs} (o : SOk ss) : m_read_log [.str (wt (wds ss))] h = .ok (.tl (ss.map Step.enc)) h := by
  unfold m_read_log b_read_log
  rw [runF_ev, sl0_1 (N := 4)]
  have f := few_ss o
  have w1 := wof_ok (h := h) f
  by_cases cn : ss = []
  · subst cn
    have e1 := empty_ok (w := "-") (ws := []) (h := h) (fun _ => rfl) (by simp)
    simp [ws0, wds] at w1 e1
    simp [w1, e1, wds, lineN]
    exact leave_v0 (by simp) (Old.refl h)
  · have e1 : m_is_empty [.lst ((wds ss).map .str)] h = .ok (.bl false) h := by
      cases ss with
      | nil => exact absurd rfl cn
      | cons s ss =>
        have nd : s.word ≠ "-" := by
          intro e
          have k : ∀ w ∈ (("many" : Str) :: kinds), w ≠ "-" := by decide +kernel
          have sok := o.2 s List.mem_cons_self
          cases s with
          | one w p => exact k w (List.mem_cons_of_mem _ sok.1) e
          | many p q => exact k "many" List.mem_cons_self e
        have e2 : wds (s :: ss) = s.word :: (s.nums.map iS ++ wds ss) := by
          unfold wds; rw [List.flatMap_cons, s.words_eq]; rfl
        have l3 := wds_len (s :: ss)
        have l4 := o.1
        rw [e2] at l3
        have e1 := empty_ok (w := s.word) (ws := s.nums.map iS ++ wds ss) (h := h) (fun c => absurd c nd) (by rw [List.length_cons] at l3; omega)
        rw [decide_eq_false nd, ← e2] at e1
        exact e1
    have e0 : ws0 (wds ss) = wds ss := by unfold ws0; rw [if_neg (wds_nil cn)]
    rw [e0] at w1
    simp [w1, e1, lineN]
    generalize eo : whileS _ _ _ _ = o'
    have l1 : ∀ h, lenF h (.lst ((wds ss).map Val.str)) = .ok (.int ((wds ss).map Val.str).length) h := fun h => len_Q rfl
    obtain ⟨n', r', h', rfl, ⟨i, b, rfl, rfl, _, il⟩, wc⟩ := while_of eo (fun n r h' => ∃ i b, r = [some (.str (wt (wds ss))), some (.lst ((wds ss).map .str)), some (.ref h.length), some (.int ((wds (ss.take i)).length : Int)), b] ∧ h' = h ++ [.lst ((ss.map Step.enc).take i)] ∧ n = ss.length - i ∧ i ≤ ss.length)
      ss.length ⟨0, none, rfl, rfl, rfl, by omega⟩ (fun n r h' w => by
        obtain ⟨i, b, rfl, rfl, rfl, il⟩ := w
        refine ⟨_, by simp [l1]; rfl, fun z => ?_⟩
        have lt : i < ss.length := wds_lt.mp (by simpa using z)
        have en : ss[i]? = some ss[i] := List.getElem?_eq_getElem lt
        generalize ss[i] = s at en
        have sok := o.2 s (List.mem_of_getElem? en)
        have i3 : ((min i ss.length : Nat) : Int) ≠ 300 := by have := o.1; omega
        have l2 : lenF (h ++ [.lst ((ss.map Step.enc).take i)]) (.ref h.length) = .ok (.int (((ss.map Step.enc).take i).length : Nat)) (h ++ [.lst ((ss.map Step.enc).take i)]) := len_Q (asQ_L (asL_ref (get_last rfl)))
        have st := step_ok (h := h ++ [.lst ((ss.map Step.enc).take i)]) (at_ := (wds (ss.take i)).length) sok (wds_split en)
        have ap := app_ref (h := h ++ [.lst ((ss.map Step.enc).take i)]) (l := h.length) (a := s.enc) (get_last rfl) ⟨enc_tmp s, by rw [lineN]; have := o.1; simp; omega⟩
        rw [set_last rfl] at ap
        simp [l2, d_MOST_STEPS, i3, st, enc_fz, enc_tmp, asL_ref (get_last (h := h) rfl), ap, enc_len]
        refine ⟨ss.length - (i + 1), by omega, i + 1, ?_, ?_, rfl, by omega⟩
        · rw [List.take_add_one, en]
          simp [wds]
        · rw [List.take_add_one, List.getElem?_map, en]; rfl)
    simp [l1] at wc
    have ie : i = ss.length := by
      by_cases c : i < ss.length
      · have := wds_lt.mpr c; omega
      · omega
    subst ie
    rw [← List.length_map (f := Step.enc) (as := ss), List.take_length]
    simp
    exact leave_l0 (Old.refl h) (enc_refs ss)
end K80
namespace Rg
open PySem PySem.Spec PyProof.Rows L2
@[simp] theorem eq_BB {h : Hs} {i j : Bool} : eqF h (.bl i) (.bl j) = .ok (.bl (decide (i = j))) h := by
  show R.ok (Val.bl (decide (V.bl i = V.bl j))) h = _
  rw [dec_iff (show V.bl i = V.bl j ↔ i = j from ⟨fun e => V.bl.inj e, fun e => by rw [e]⟩)]
@[simp] theorem ne_BB {h : Hs} {i j : Bool} : neF h (.bl i) (.bl j) = .ok (.bl (!decide (i = j))) h := by
  show R.ok (Val.bl (!decide (V.bl i = V.bl j))) h = _
  rw [dec_iff (show V.bl i = V.bl j ↔ i = j from ⟨fun e => V.bl.inj e, fun e => by rw [e]⟩)]
end Rg
namespace K80
open PySem PySem.Spec PyProof.Rows L2 Rg TL
/-- plain data less than n deep -/
def Pl : Nat → Val → Prop
  | 0, _ => False
  | n + 1, v => match v with
    | .int _ => True
    | .str _ => True
    | .tup ds => ∀ d ∈ ds, Pl n d
    | .lst ds => ∀ d ∈ ds, Pl n d
    | _ => False
theorem same_step {n : Nat} {h : Hs} {ds : List Val} (ih : ∀ v h, Pl n v → m__law_same n [v, v] h = .ok (.bl true) h) (hp : ∀ d ∈ ds, Pl n d) {it : ItV} {r : Sl} {o' : R (List Val)} {m : Nat} (hm : m = ds.length) (hat : ∀ i, it.at_ h i = some (zpD ds ds)[i]?)
    (eo : lcG it (.tp [.nm 2, .nm 3]) (cM (.bl true)) (fzE (callE 2 (m__law_same n) (aCons (vM 2) (aCons (vM 3) aNil)))) [2, 3] m 0 r h = o') (hr : r.length = 4) : o' = .ok ((ds.map fun _ => true).map Val.bl) h := by
  have zl : (zpD ds ds).length = ds.length := by rw [zpD_len, Nat.min_self]
  have := lc_of eo (zpD ds ds) (fun _ => .bl true) (by omega) hat (fun d hd => by
    obtain ⟨i, hi⟩ := List.getElem?_of_mem hd
    rw [zpD_get] at hi
    cases e : ds[i]? with
    | none => rw [e] at hi; cases hi
    | some x =>
      rw [e] at hi
      cases hi
      have px := hp x (List.mem_of_getElem? e)
      have q := ih x h px
      have tx : isTmp x = false := by
        cases n with
        | zero => exact px.elim
        | succ n => cases x <;> first | rfl | exact px.elim
      match r, hr with
      | [a, b, c, d], _ => simp [wipeS, tx, q])
  rw [this]
  congr 1
  apply List.ext_getElem?
  intro i
  rw [List.getElem?_map, List.getElem?_map, List.getElem?_map, zpD_get]
  cases ds[i]? <;> rfl
theorem all_true {ds : List Val} {h : Hs} : allF h (.tl ((ds.map fun _ => true).map Val.bl)) = .ok (.bl true) h := by
  rw [all_L (h := h) (d := .tl ((ds.map fun _ => true).map Val.bl)) rfl]
  simp
theorem same_ok : ∀ (n : Nat) (v : Val) (h : Hs), Pl n v → m__law_same n [v, v] h = .ok (.bl true) h
  | 0, _, _, p => p.elim
  | n + 1, v, h, p => by
    show runF 4 (b__law_same (m__law_same n)) [v, v] h = _
    unfold b__law_same
    rw [runF_ev, sl0_2 (N := 2)]
    have ih := fun v h p => same_ok n v h p
    cases v with
    | int i =>
      have i1 : isi2F "tuple" "list" h (.int i) = .ok (.bl false) h := rfl
      have i2 : isiF "str" h (.int i) = .ok (.bl false) h := rfl
      have i3 : isiF "int" h (.int i) = .ok (.bl true) h := rfl
      have i4 : isiF "bool" h (.int i) = .ok (.bl false) h := rfl
      simp [i1, i2, i3, i4]
      exact leave_v0 noRef_bl (Old.refl h)
    | str i =>
      have i1 : isi2F "tuple" "list" h (.str i) = .ok (.bl false) h := rfl
      have i2 : isiF "str" h (.str i) = .ok (.bl true) h := rfl
      simp [i1, i2]
      exact leave_v0 noRef_bl (Old.refl h)
    | tup ds =>
      have i1 : isi2F "tuple" "list" h (.tup ds) = .ok (.bl true) h := rfl
      have i2 : isiF "tuple" h (.tup ds) = .ok (.bl true) h := rfl
      have l1 : lenF h (.tup ds) = .ok (.int ds.length) h := len_Q rfl
      simp [i1, i2, l1]
      generalize eo : lcG _ _ _ _ _ _ _ _ _ = o'
      have q := same_step ih p (by rw [zpD_len, Nat.min_self]) (fun _ => zpV_at) eo rfl
      subst q
      have at_ := all_true (ds := ds) (h := h)
      simp [← List.map_map, at_]
      exact leave_v0 noRef_bl (Old.refl h)
    | lst ds =>
      have i1 : isi2F "tuple" "list" h (.lst ds) = .ok (.bl true) h := rfl
      have i2 : isiF "tuple" h (.lst ds) = .ok (.bl false) h := rfl
      have l1 : lenF h (.lst ds) = .ok (.int ds.length) h := len_Q rfl
      simp [i1, i2, l1]
      generalize eo : lcG _ _ _ _ _ _ _ _ _ = o'
      have q := same_step ih p (by rw [zpD_len, Nat.min_self]) (fun _ => zpV_at) eo rfl
      subst q
      have at_ := all_true (ds := ds) (h := h)
      simp [← List.map_map, at_]
      exact leave_v0 noRef_bl (Old.refl h)
    | non => exact p.elim
    | bl _ => exact p.elim
    | ref _ => exact p.elim
    | tl _ => exact p.elim
    | td _ _ => exact p.elim
    | dct _ _ => exact p.elim
theorem same_ref {n : Nat} {l : Nat} {ds : List Val} {h : Hs} (e : h[l]? = some (.lst ds)) (p : Pl (n + 1) (.lst ds)) : m__law_same (n + 1) [.ref l, .lst ds] h = .ok (.bl true) h := by
  show runF 4 (b__law_same (m__law_same n)) [.ref l, .lst ds] h = _
  unfold b__law_same
  rw [runF_ev, sl0_2 (N := 2)]
  have ih := fun v h p => same_ok n v h p
  have t1 : tyN h (.ref l) = some "list" := by unfold tyN; simp only [e]
  have i1 : isi2F "tuple" "list" h (.lst ds) = .ok (.bl true) h := rfl
  have i2 : isiF "tuple" h (.lst ds) = .ok (.bl false) h := rfl
  have i3 : isi2F "tuple" "list" h (.ref l) = .ok (.bl true) h := by unfold isi2F; rw [t1]; rfl
  have i4 : isiF "tuple" h (.ref l) = .ok (.bl false) h := by unfold isiF; rw [t1]; rfl
  have l1 : lenF h (.lst ds) = .ok (.int ds.length) h := len_Q rfl
  have l2 : lenF h (.ref l) = .ok (.int ds.length) h := len_Q (asQ_L (asL_ref e))
  have z1 : zpR h (.ref l) (.lst ds) = .ok (zpV (itC l ds.length) (itL ds)) h := by
    unfold zpR seqV; simp only [e]; rfl
  have zn : (zpV (itC l ds.length) (itL ds)).n = ds.length := by show min ds.length ds.length = _; simp
  simp [i1, i2, i3, i4, l1, l2, z1, zn]
  generalize eo : lcG _ _ _ _ _ _ _ _ _ = o'
  have q := same_step (it := zpV (itC l ds.length) (itL ds)) (h := h) ih p rfl (fun i => by
    have a1 := itC_at (n := ds.length) (i := i) e
    rw [zpD_get]
    unfold zpV
    dsimp only
    rw [a1]
    show (match some ds[i]?, some ds[i]? with
      | some (some d), some (some e) => some (some (Val.tup [d, e]))
      | some _, some _ => some none
      | _, _ => none) = _
    cases ds[i]? <;> rfl) eo rfl
  subst q
  have at_ := all_true (ds := ds) (h := h)
  simp [← List.map_map, at_]
  exact leave_v0 noRef_bl (Old.refl h)
end K80
namespace K80
open PySem PySem.Spec PyProof.Rows L2 Rg TL
noncomputable def q13 : SM := (ifS (notE (truE (callE 2 (m__law_same 8) (aCons (fzE (callE 1 m_read_log (aCons (vM 8) aNil))) (aCons (vM 4) aNil))))) (retS (cM (.bl false))) skipS)
noncomputable def q12 : SM := seqS (dropS (mt1 "list" appF (vM 10) (tupM (aCons (cM (.str "lone")) (aCons (cM (.int 0)) aNil))))) q13
noncomputable def q11 : SM := seqS (ifS (orE (notE (truE (callE 2 (m__law_same 8) (aCons (fzE (callE 1 m_read_numbers (aCons (vM 7) aNil))) (aCons (op1 tupleF (vM 3)) aNil))))) (notE (truE (callE 2 (m__law_same 8) (aCons (vM 10) (aCons (vM 4) aNil)))))) (retS (cM (.bl false))) skipS) q12
noncomputable def q10 : SM := seqS (setS 10 (mtE (callE 1 m_read_log (aCons (vM 8) aNil)))) q11
noncomputable def q9 : SM := seqS (ifS (orE (notE (truE (callE 2 (m__law_same 8) (aCons (fzE (callE 1 m_log_text (aCons (vM 9) aNil))) (aCons (vM 8) aNil))))) (orE (notE (truE (callE 2 (m__law_same 8) (aCons (fzE (callE 1 m_log_text (aCons (op1 tupleF (vM 4)) aNil))) (aCons (vM 8) aNil))))) (op2 neF (vM 9) (vM 4)))) (retS (cM (.bl false))) skipS) q10
noncomputable def q8 : SM := seqS (ifS (orE (notE (truE (callE 2 (m__law_same 8) (aCons (fzE (callE 1 m_numbers_text (aCons (fzE (op1 listF (vM 3))) aNil))) (aCons (vM 7) aNil))))) (notE (truE (callE 2 (m__law_same 8) (aCons (fzE (callE 1 m_numbers_text (aCons (op1 tupleF (vM 3)) aNil))) (aCons (vM 7) aNil)))))) (retS (cM (.bl false))) skipS) q9
noncomputable def q7 : SM := seqS (setS 9 (fzE (op1 listF (vM 4)))) q8
noncomputable def q6 : SM := seqS (setS 8 (fzE (callE 1 m__law_text (aCons (vM 5) aNil)))) q7
noncomputable def q5 : SM := seqS (setS 7 (fzE (callE 1 m__law_text (aCons (fzE (lcM (seqI (vM 3)) (.nm 11) (cM (.bl true)) (op1 strF (vM 11)) [11])) aNil)))) q6
noncomputable def q4 : SM := seqS (forS (seqI (vM 4)) (.nm 6) (dropS (mt1 "list" extF (vM 5) (op2 addF (lstM (aCons (op2 ixF (vM 6) (cM (.int 0))) aNil)) (lcM (seqI (slM (vM 6) (oSo (cM (.int 1))) oNo)) (.nm 12) (cM (.bl true)) (op1 strF (vM 12)) [12]))))) q5
noncomputable def q3 : SM := seqS (setS 5 (mtE (lstM aNil))) q4
noncomputable def q2 : SM := seqS (setS 4 (fzE (callE 1 m__law_steps (aCons (vM 2) aNil)))) q3
noncomputable def q1 : SM := seqS (setS 3 (fzE (callE 1 m__law_row (aCons (vM 2) aNil)))) q2
noncomputable def q0 : SM := seqS (setS 2 (mtE (lstM (aCons (fzE (callE 2 m__law_deal (aCons (vM 1) (aCons (cM (.int 300)) aNil)))) aNil)))) q1
theorem row_at {h : Hs} {p : Int} (hp : 0 ≤ p) : Sat (m__law_row [.ref h.length] (h ++ [.lst [.int p]])) fun v h' => ∃ (ns : List Int) (p' : Int), v = .tl (ns.map Val.int) ∧ h' = h ++ [.lst [.int p']] ∧ 0 ≤ p' ∧ NOk ns := by
  have := row_ex (h := h ++ [.lst [.int p]]) (l := h.length) (p := p) (by simp) hp
  rw [show pot (h ++ [.lst [.int p]]) h.length p = h ++ [.lst [.int p]] from set_last rfl] at this
  refine this.imp fun v h' q => ?_
  obtain ⟨ns, p', e1, e2, e3, e4, e5⟩ := q
  rw [show pot (h ++ [.lst [.int p]]) h.length p' = h ++ [.lst [.int p']] from set_last rfl] at e2
  exact ⟨ns, p', e1, e2, e3, e4, e5⟩
theorem steps_at {h : Hs} {p : Int} (hp : 0 ≤ p) : Sat (m__law_steps [.ref h.length] (h ++ [.lst [.int p]])) fun v h' => ∃ (ss : List Step) (p' : Int), v = .tl (ss.map Step.enc) ∧ h' = h ++ [.lst [.int p']] ∧ SOk ss := by
  have := steps_ex (h := h ++ [.lst [.int p]]) (l := h.length) (p := p) (by simp) hp
  rw [show pot (h ++ [.lst [.int p]]) h.length p = h ++ [.lst [.int p]] from set_last rfl] at this
  refine this.imp fun v h' q => ?_
  obtain ⟨ss, p', e1, e2, e3, e4, e5⟩ := q
  rw [show pot (h ++ [.lst [.int p]]) h.length p' = h ++ [.lst [.int p']] from set_last rfl] at e2
  exact ⟨ss, p', e1, e2, e4, e5⟩
theorem enc_shaped (ss : List Step) (o : ∀ s ∈ ss, s.ok) : SeqAt.shaped (.list (pys (ss.map Step.enc))) = true ∧ PyData.canLayAll0 (pys (ss.map Step.enc)) = true := by
  have h1 : PyData.canLayAll0 (pys (ss.map Step.enc)) = true := by
    induction ss with
    | nil => rfl
    | cons s ss ih =>
      show (PyData.canLay0 (py s.enc) && PyData.canLayAll0 (pys (ss.map Step.enc))) = true
      rw [ih fun s hs => o s (List.mem_cons_of_mem _ hs), Bool.and_true]
      have w := (word_ok (o s List.mem_cons_self)).1.2
      cases s with
      | one w' p =>
        show (PyData.canLay0 (.str w') && (PyData.canLay0 (.int p) && PyData.canLayAll0 [])) = true
        have : PyData.canLay0 (.str w') = true := w
        rw [this]; rfl
      | many p q =>
        show (PyData.canLay0 (.str "many") && (PyData.canLay0 (.int p) && (PyData.canLay0 (.int q) && PyData.canLayAll0 []))) = true
        have : PyData.canLay0 (.str "many") = true := w
        rw [this]; rfl
  refine ⟨?_, h1⟩
  have h2 : PyData.depthAll (pys (ss.map Step.enc)) ≤ 1 := by
    clear h1 o
    induction ss with
    | nil => exact Nat.zero_le _
    | cons s ss ih =>
      show max (PyData.depth (py s.enc)) (PyData.depthAll (pys (ss.map Step.enc))) ≤ 1
      have : PyData.depth (py s.enc) = 1 := by cases s <;> rfl
      rw [this]; omega
  unfold SeqAt.shaped
  have h3 : PyData.canLay0 (.list (pys (ss.map Step.enc))) = true := h1
  rw [h3]
  have h4 : PyData.depth (.list (pys (ss.map Step.enc))) ≤ 64 := by
    show PyData.depthAll (pys (ss.map Step.enc)) + 1 ≤ 64
    omega
  simp [h4]
theorem pl_ints (ns : List Int) : Pl 8 (.lst (ns.map Val.int)) ∧ Pl 8 (.tup (ns.map Val.int)) := by
  constructor <;> (intro d hd; obtain ⟨n, _, rfl⟩ := List.mem_map.mp hd; trivial)
theorem pl_encs (ss : List Step) : Pl 8 (.lst (ss.map Step.enc)) := by
  intro d hd
  obtain ⟨s, _, rfl⟩ := List.mem_map.mp hd
  cases s <;> (intro d hd; simp at hd; rcases hd with rfl | rfl | rfl <;> trivial)
section
variable {S C : Val} {a2 a3 a4 a5 a6 a7 a8 a9 a10 a11 a12 : Option Val} {h : Hs}
theorem q0_ex {c : Int} : ∃ (ns : List Int) (ss : List Step) (g : Hs), NOk ns ∧ SOk ss ∧ q0 [some S, some (.int c), a2, a3, a4, a5, a6, a7, a8, a9, a10, a11, a12] h = q3 [some S, some (.int c), some (.ref h.length), some (.lst (ns.map Val.int)), some (.lst (ss.map Step.enc)), a5, a6, a7, a8, a9, a10, a11, a12] g := by
  obtain ⟨v, h1, e1, p, rfl, hp, rfl⟩ := deal_ex (c := c) (h := h) (n := 300) (by omega)
  obtain ⟨v, h2, e2, ns, p1, rfl, rfl, hp1, nok⟩ := row_at (h := h1) hp
  obtain ⟨v, h3, e3, ss, p2, rfl, rfl, sok⟩ := steps_at (h := h1) hp1
  refine ⟨ns, ss, h1 ++ [.lst [.int p2]], nok, sok, ?_⟩
  unfold q0 q1 q2
  have e1' : m__law_deal [.int c, .int 300] h1 = .ok (.int p) h1 := e1
  simp [e1', lineN, e2, e3]
theorem q3_ex {ns : List Int} {ss : List Step} {x1 x2 : Val} {g : Hs} (nok : NOk ns) (sok : SOk ss) : ∃ b6, q3 [some S, some x1, some x2, some (.lst (ns.map Val.int)), some (.lst (ss.map Step.enc)), a5, a6, a7, a8, a9, a10, a11, a12] g
    = q5 [some S, some x1, some x2, some (.lst (ns.map Val.int)), some (.lst (ss.map Step.enc)), some (.ref g.length), b6, a7, a8, a9, a10, a11, a12] (g ++ [.lst ((wds ss).map Val.str)]) := by
  unfold q3 q4
  simp [lineN]
  generalize eo : forG _ _ _ _ _ _ _ = o'
  obtain ⟨r', h', rfl, w⟩ := for_of eo (ss.map Step.enc) (fun i r h' => ∃ b, r = [some S, some x1, some x2, some (.lst (ns.map Val.int)), some (.lst (ss.map Step.enc)), some (.ref g.length), b, a7, a8, a9, a10, a11, a12] ∧ h' = g ++ [.lst ((wds (ss.take i)).map Val.str)])
    (by simp) ⟨a6, rfl, rfl⟩ (fun _ _ _ _ => rfl) (fun i d r h' ed w => by
      obtain ⟨b, rfl, rfl⟩ := w
      rw [List.getElem?_map] at ed
      cases en : ss[i]? with
      | none => rw [en] at ed; cases ed
      | some s =>
        rw [en] at ed
        cases ed
        have so := sok.2 s (List.mem_of_getElem? en)
        have lt : i < ss.length := (List.getElem?_eq_some_iff.mp en).1
        have wl := wds_len (ss.take i)
        have tl : (ss.take i).length ≤ 300 := by have := sok.1; simp; omega
        have x1 : ∀ h, ixF h (.tup (.str s.word :: s.nums.map .int)) (.int 0) = .ok (.str s.word) h := fun h => ix_T at_0
        have e2 := s.enc_eq
        simp [enc_tmp, e2, lineN, x1, asL_ref (get_last (h := g) rfl), cut_1]
        generalize eo2 : lcG _ _ _ _ _ _ _ _ _ = o2
        have q := strs_ok (Step.nums_ok so) rfl eo2
        subst q
        clear eo2
        have sl := s.len
        rw [s.words_eq] at sl
        simp at sl
        have ad : ∀ h, addF h (.tl [.str s.word]) (.tl ((s.nums.map iS).map Val.str)) = .ok (.tl (.str s.word :: (s.nums.map iS).map Val.str)) h := fun h => add_L (xs := [.str s.word]) (ys := (s.nums.map iS).map Val.str) rfl rfl (by rw [lineN, List.length_map, List.length_map, List.length_singleton]; omega)
        have ex := ext_ref (h := g ++ [.lst ((wds (ss.take i)).map Val.str)]) (l := g.length) (a := .tl (.str s.word :: (s.nums.map iS).map Val.str)) (get_last rfl) rfl (by rw [lineN, List.length_map, List.length_cons, List.length_map, List.length_map]; omega)
        rw [set_last rfl] at ex
        rw [List.map_map] at ex ad
        simp [ad, ex]
        rw [List.take_add_one, en]
        simp [wds, s.words_eq])
  obtain ⟨b, rfl, rfl⟩ := w
  rw [List.length_map, List.take_length]
  exact ⟨b, rfl⟩
theorem q5_ex {ns : List Int} {ss : List Step} {x1 x2 : Val} {b6 : Option Val} {g : Hs} {l : Nat} (nok : NOk ns) (sok : SOk ss) (eg : asL g (.ref l) = some ((wds ss).map Val.str)) :
    q5 [some S, some x1, some x2, some (.lst (ns.map Val.int)), some (.lst (ss.map Step.enc)), some (.ref l), b6, a7, a8, a9, a10, a11, a12] g
    = q8 [some S, some x1, some x2, some (.lst (ns.map Val.int)), some (.lst (ss.map Step.enc)), some (.ref l), b6, some (.str (wt (ns.map iS))), some (.str (wt (wds ss))), some (.lst (ss.map Step.enc)), a10, a11, a12] g := by
  unfold q5 q6 q7
  simp
  generalize eo : lcG _ _ _ _ _ _ _ _ _ = o'
  have := lc_of eo (ns.map Val.int) (fun d => match d with | .int i => .str (iS i) | d => d) (by simp) (fun i => rfl) (fun d hd => by
    obtain ⟨n, hn, rfl⟩ := List.mem_map.mp hd
    have := nok.2 n hn
    simp [wipeS, str_iS this.1 this.2])
  rw [this]
  have e2 : (ns.map Val.int).map (fun d => match d with | .int i => Val.str (iS i) | d => d) = (ns.map iS).map Val.str := by
    rw [List.map_map, List.map_map]; rfl
  rw [e2]
  have t1 := text_ok (h := g) (a := .lst ((ns.map iS).map Val.str)) rfl (few_ns nok)
  rw [List.map_map] at t1
  have t2 := text_ok (h := g) (a := .ref l) eg (few_ss sok)
  have l1 : listF g (.lst (ss.map Step.enc)) = .ok (.tl (ss.map Step.enc)) g := list_Q rfl
  simp [t1, t2, l1]
theorem q8_ex {ns : List Int} {ss : List Step} {x1 x2 x5 : Val} {b6 : Option Val} {g : Hs} (nok : NOk ns) (sok : SOk ss) :
    q8 [some S, some x1, some x2, some (.lst (ns.map Val.int)), some (.lst (ss.map Step.enc)), some x5, b6, some (.str (wt (ns.map iS))), some (.str (wt (wds ss))), some (.lst (ss.map Step.enc)), a10, a11, a12] g
    = q10 [some S, some x1, some x2, some (.lst (ns.map Val.int)), some (.lst (ss.map Step.enc)), some x5, b6, some (.str (wt (ns.map iS))), some (.str (wt (wds ss))), some (.lst (ss.map Step.enc)), a10, a11, a12] g := by
  unfold q8 q9
  have l1 : listF g (.lst (ns.map Val.int)) = .ok (.tl (ns.map Val.int)) g := list_Q rfl
  have l2 : tupleF g (.lst (ns.map Val.int)) = .ok (.tup (ns.map Val.int)) g := tuple_L rfl
  have l3 : tupleF g (.lst (ss.map Step.enc)) = .ok (.tup (ss.map Step.enc)) g := tuple_L rfl
  have t1 := ntext_ok (h := g) (a := .lst (ns.map Val.int)) rfl nok
  have t2 := ntext_ok (h := g) (a := .tup (ns.map Val.int)) rfl nok
  have t3 := ltext_ok (h := g) (a := .lst (ss.map Step.enc)) rfl rfl sok
  have t4 := ltext_ok (h := g) (a := .tup (ss.map Step.enc)) rfl rfl sok
  have s1 := same_ok 8 (.str (wt (ns.map iS))) g trivial
  have s2 := same_ok 8 (.str (wt (wds ss))) g trivial
  obtain ⟨sh, cl⟩ := enc_shaped ss sok.2
  have n1 : neF g (.lst (ss.map Step.enc)) (.lst (ss.map Step.enc)) = .ok (.bl false) g := by
    rw [ne_LL rfl rfl sh sh, eqvAll_refl _ cl]; rfl
  simp [l1, l2, l3, t1, t2, t3, t4, s1, s2, n1]
theorem q10_ex {ns : List Int} {ss : List Step} {x1 x2 x5 x9 : Val} {b6 : Option Val} {g : Hs} (nok : NOk ns) (sok : SOk ss) :
    ∃ b10 g', q10 [some S, some x1, some x2, some (.lst (ns.map Val.int)), some (.lst (ss.map Step.enc)), some x5, b6, some (.str (wt (ns.map iS))), some (.str (wt (wds ss))), some x9, a10, a11, a12] g
    = .nx [some S, some x1, some x2, some (.lst (ns.map Val.int)), some (.lst (ss.map Step.enc)), some x5, b6, some (.str (wt (ns.map iS))), some (.str (wt (wds ss))), some x9, b10, a11, a12] g' := by
  unfold q10 q11 q12 q13
  have r1 := rlog_ok (h := g) sok
  have r2 := rnum_ok (h := g ++ [.lst (ss.map Step.enc)]) nok
  have l2 : tupleF (g ++ [.lst (ss.map Step.enc)]) (.lst (ns.map Val.int)) = .ok (.tup (ns.map Val.int)) (g ++ [.lst (ss.map Step.enc)]) := tuple_L rfl
  have s1 := same_ok 8 (.tup (ns.map Val.int)) (g ++ [.lst (ss.map Step.enc)]) (pl_ints ns).2
  have s2 := same_ref (n := 7) (l := g.length) (ds := ss.map Step.enc) (h := g ++ [.lst (ss.map Step.enc)]) (get_last rfl) (pl_encs ss)
  have ap := app_ref (h := g ++ [.lst (ss.map Step.enc)]) (l := g.length) (a := .tup [.str "lone", .int 0]) (get_last rfl) ⟨rfl, by rw [lineN, List.length_map]; have := sok.1; omega⟩
  rw [set_last rfl] at ap
  have r3 := rlog_ok (h := g ++ [.lst (ss.map Step.enc ++ [.tup [.str "lone", .int 0]])]) sok
  have s3 := same_ok 8 (.lst (ss.map Step.enc)) (g ++ [.lst (ss.map Step.enc ++ [.tup [.str "lone", .int 0]])]) (pl_encs ss)
  simp [r1, r2, l2, s1, s2, lineN, asL_ref (get_last (h := g) rfl), ap, r3, s3]
/-- one cell -/
theorem q0_nx {c : Int} : ∃ b2 b3 b4 b5 b6 b7 b8 b9 b10 g', q0 [some S, some (.int c), a2, a3, a4, a5, a6, a7, a8, a9, a10, a11, a12] h = .nx [some S, some (.int c), b2, b3, b4, b5, b6, b7, b8, b9, b10, a11, a12] g' := by
  obtain ⟨ns, ss, g, nok, sok, e0⟩ := q0_ex (S := S) (a2 := a2) (a3 := a3) (a4 := a4) (a5 := a5) (a6 := a6) (a7 := a7) (a8 := a8) (a9 := a9) (a10 := a10) (a11 := a11) (a12 := a12) (h := h) (c := c)
  obtain ⟨b6, e3⟩ := q3_ex (S := S) (x1 := .int c) (x2 := .ref h.length) (a5 := a5) (a6 := a6) (a7 := a7) (a8 := a8) (a9 := a9) (a10 := a10) (a11 := a11) (a12 := a12) (g := g) nok sok
  rw [e0, e3, q5_ex nok sok (asL_ref (get_last rfl)), q8_ex nok sok]
  obtain ⟨b10, g', e4⟩ := q10_ex (S := S) (x1 := .int c) (x2 := .ref h.length) (x5 := .ref g.length) (x9 := .lst (ss.map Step.enc)) (b6 := b6) (a10 := a10) (a11 := a11) (a12 := a12) (g := g ++ [.lst ((wds ss).map Val.str)]) nok sok
  exact ⟨_, _, _, _, _, _, _, _, _, _, e4⟩
end
theorem law_true : ∀ ns : List Int, ns.length ≤ 63 → ∃ h1, m_law [.lst (ns.map Val.int)] [] = .ok (.bl true) h1 := by
  intro ns hl
  unfold m_law
  rw [runF_ev, sl0_1 (N := 12)]
  show ∃ h1, endR [] ((seqS (forS (seqI (op2 addF (slM (vM 0) oNo (oSo (cM (.int 10)))) (lstM (aCons (cM (.int 8)) aNil)))) (.nm 1) q0) (retS (cM (.bl true)))) (some (.lst (ns.map Val.int)) :: List.replicate 12 none) []) = .ok (.bl true) h1
  obtain ⟨cs, ec, lc⟩ : ∃ cs : List Int, Rg.cutD (ns.map Val.int) none (some 10) = cs.map Val.int ∧ cs.length ≤ 63 := by
    unfold Rg.cutD
    rw [← List.map_drop, ← List.map_take]
    exact ⟨_, rfl, by rw [List.length_take, List.length_drop]; omega⟩
  have ad : addF [] (.tl (cs.map Val.int)) (.tl [.int 8]) = .ok (.tl (cs.map Val.int ++ [.int 8])) [] := add_L rfl rfl (by rw [lineN, List.length_map, List.length_singleton]; omega)
  have e8 : cs.map Val.int ++ [.int 8] = (cs ++ [8]).map Val.int := by simp
  rw [e8] at ad
  simp [ec, lineN, ad, List.replicate]
  generalize eo : forG _ _ _ _ _ _ _ = o'
  obtain ⟨r', h', rfl, w⟩ := for_of eo ((cs ++ [8]).map Val.int) (fun i r h' => ∃ b1 b2 b3 b4 b5 b6 b7 b8 b9 b10 b11 b12, r = [some (.lst (ns.map Val.int)), b1, b2, b3, b4, b5, b6, b7, b8, b9, b10, b11, b12])
    (by simp) ⟨_, _, _, _, _, _, _, _, _, _, _, _, rfl⟩ (fun _ _ _ _ => by simp) (fun i d r h' ed w => by
      obtain ⟨b1, b2, b3, b4, b5, b6, b7, b8, b9, b10, b11, b12, rfl⟩ := w
      rw [List.getElem?_map] at ed
      cases en : (cs ++ [8])[i]? with
      | none => rw [en] at ed; cases ed
      | some c =>
        rw [en] at ed
        cases ed
        obtain ⟨c2, c3, c4, c5, c6, c7, c8, c9, c10, g', e⟩ := q0_nx (S := .lst (ns.map Val.int)) (c := c) (a2 := b2) (a3 := b3) (a4 := b4) (a5 := b5) (a6 := b6) (a7 := b7) (a8 := b8) (a9 := b9) (a10 := b10) (a11 := b11) (a12 := b12) (h := h')
        rw [show asgP h' (.nm 1) (.int c) [some (.lst (ns.map Val.int)), b1, b2, b3, b4, b5, b6, b7, b8, b9, b10, b11, b12] = some [some (.lst (ns.map Val.int)), some (.int c), b2, b3, b4, b5, b6, b7, b8, b9, b10, b11, b12] from by simp]
        rw [goT_some, e, turn_nx]
        exact ⟨_, _, _, _, _, _, _, _, _, _, _, _, rfl⟩)
  simp
  exact ⟨[], leave_v (h1 := []) (g := h') (Old.refl []) noRef_bl⟩
end K80
open PySem PySem.W PyProof.Rows
set_option maxHeartbeats 0 in
theorem PySem.Challenge.cw_ringfell_k80_numbers_and_logs_written_holds : PySem.Challenge.rw_ringfell_k80_numbers_and_logs_written.Holds := by
  w_on; o_law; k_head; (case hw => w_witness2)
  k_fill
  refine L2.walk_of (l := PySem.Challenge.rw_ringfell_k80_numbers_and_logs_written) (n := 63) (k := 10) (x := "script") (CX := fun w => L2.CX PySem.Challenge.rw_ringfell_k80_numbers_and_logs_written.prog w) (sp := fun w => Rg.spL _) rfl (by decide) rfl ⟨rfl, by decide, by decide⟩ (fun w h Y => PySem.W.kIn_of Y) ?F (fun _ _ a ns hl _ hS => ⟨a, ns, rfl, hS, hl, fun _ => rfl⟩) (fun _ _ _ _ _ h => Rg.cx_false h)
  case F =>
    intro w mg fa h KX G hmg
    refine' K80.all_mk KX G hmg K80.law_true ?a0 ?l0 ?c0 ?k0 ?a1 ?l1 ?c1 ?k1 ?a2 ?l2 ?c2 ?k2 ?a3 ?l3 ?c3 ?k3 ?a4 ?l4 ?c4 ?k4 ?a5 ?l5 ?c5 ?k5 ?a6 ?l6 ?c6 ?k6 ?a7 ?l7 ?c7 ?k7 ?a8 ?l8 ?c8 ?k8 ?a9 ?l9 ?c9 ?k9 ?a10 ?l10 ?c10 ?k10 ?a11 ?l11 ?c11 ?k11 ?a12 ?l12 ?c12 ?k12 ?a13 ?l13 ?c13 ?k13 ?a14 ?l14 ?c14 ?k14 ?a15 ?l15 ?c15 ?k15 ?a16 ?l16 ?c16 ?k16 ?z0 ?z1 ?z2 ?z3 ?z4 ?z5 ?z6 ?z7 ?z8 ?z9 ?z10 ?z11 ?z12 ?z13 ?z14 ?z15 ?z16 ?z17 ?z18
    (case a0 => k_is); (case l0 => k_is); (case c0 => k_is); (case k0 => k_is); (case a1 => k_is); (case l1 => k_is); (case c1 => k_is); (case k1 => k_is); (case a2 => k_is); (case l2 => k_is); (case c2 => k_is); (case k2 => k_is); (case a3 => k_is); (case l3 => k_is); (case c3 => k_is); (case k3 => k_is); (case a4 => k_is); (case l4 => k_is); (case c4 => k_is); (case k4 => k_is); (case a5 => k_is); (case l5 => k_is); (case c5 => k_is); (case k5 => k_is); (case a6 => k_is); (case l6 => k_is); (case c6 => k_is); (case k6 => k_is); (case a7 => k_is); (case l7 => k_is); (case c7 => k_is); (case k7 => k_is); (case a8 => k_is); (case l8 => k_is); (case c8 => k_is); (case k8 => k_is); (case a9 => k_is); (case l9 => k_is); (case c9 => k_is); (case k9 => k_is); (case a10 => k_is); (case l10 => k_is); (case c10 => k_is); (case k10 => k_is); (case a11 => k_is); (case l11 => k_is); (case c11 => k_is); (case k11 => k_is); (case a12 => k_is); (case l12 => k_is); (case c12 => k_is); (case k12 => k_is); (case a13 => k_is); (case l13 => k_is); (case c13 => k_is); (case k13 => k_is); (case a14 => k_is); (case l14 => k_is); (case c14 => k_is); (case k14 => k_is); (case a15 => k_is); (case l15 => k_is); (case c15 => k_is); (case k15 => k_is); (case a16 => k_is); (case l16 => k_is); (case c16 => k_is); (case k16 => k_is); (case z0 => k_is); (case z1 => k_is); (case z2 => k_is); (case z3 => k_is); (case z4 => k_is); (case z5 => k_is); (case z6 => k_is); (case z7 => k_is); (case z8 => k_is); (case z9 => k_is); (case z10 => k_is); (case z11 => k_is); (case z12 => k_is); (case z13 => k_is); (case z14 => k_is); (case z15 => k_is); (case z16 => k_is); (case z17 => k_is); (case z18 => k_is)
