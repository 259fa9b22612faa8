import PyProof.Rows.All
import Wide.All
import OpenK.AllK
import Wide.FinOn
import HandS.ForMost
import HandS.Exc
import HandS.Defaults
import HandS.Lambda
import HandS.HeadHook1
import HandS.ExcIs
import HandS.RaiseMore
import HandS.IsInst
import HandS.Flow
import HandS.Wide
import HandS.TupAny
import HandS.DictComp
import HandS.Style
import HandS.HeadHook4
import HandS.ExcField
import HandS.ExcValue
import HandS.Small
import HandS.Codes
import HandS.Words
import HandS.HeadEnd
import HandS.EndTab
import HandS.HeadWalk
import KE.KStateDown
import HandS.Head0
import HandS.Head1
import HandS.Head2
import HandS.HeadHook2
import HandS.HeadHook3
import HandS.NestedK
import PySem.Challenge.RW_rootwalk_k03_kinds_and_ties_asked
set_option Elab.async false
set_option linter.all false
set_option maxRecDepth 100000
/-! RkA: values without addresses, a heap of one's own, what it is of the layer's heap. -/
namespace Rk
open PySem PySem.Spec L2

/-- a value: immutable things by what they are; `lst`, `dct`: a list, a dict that is never changed; `ref n`: the n-th object of the own heap -/
inductive PV where
  | non | bl (b : Bool) | int (i : Int) | str (x : Str) | ty (n : String)
  | tup (xs : List PV) | lst (xs : List PV) | dct (kvs : List (Key × PV))
  | ref (n : Nat) | exc (c : Str) (fs : List (Str × PV)) | clo (n : Nat) (own : List PV)
  deriving Inhabited
/-- an object of the own heap -/
inductive PO where
  | lst (xs : List PV) | dct (lk : Bool) (kvs : List (Key × PV)) | ins (c : Str) (fs : List (Str × PV))
  deriving Inhabited
abbrev PH := List PO
abbrev Lo := List (Option PV)
/-- an exception on its way -/
structure PX where
  c : Str
  fs : List (Str × PV)

/-- addresses: r of the own heap's objects, z of things that are being made -/
structure Rz where
  r : List Addr
  z : List Addr
instance : Membership Addr Rz := ⟨fun ρ a => a ∈ ρ.r ∨ a ∈ ρ.z⟩
theorem Rz.mem_r {ρ : Rz} {a : Addr} (h : a ∈ ρ.r) : a ∈ ρ := .inl h
theorem Rz.mem_z {ρ : Rz} {a : Addr} (h : a ∈ ρ.z) : a ∈ ρ := .inr h
theorem Rz.out_r {ρ : Rz} {a : Addr} (h : a ∉ ρ) : a ∉ ρ.r := fun m => h (.inl m)
theorem Rz.out_z {ρ : Rz} {a : Addr} (h : a ∉ ρ) : a ∉ ρ.z := fun m => h (.inr m)
theorem Rz.out {ρ : Rz} {a : Addr} (h : a ∉ ρ.r) (g : a ∉ ρ.z) : a ∉ ρ := fun m => m.elim h g
def Rz.push (ρ : Rz) (a : Addr) : Rz := ⟨ρ.r ++ [a], ρ.z⟩
def Rz.mk1 (ρ : Rz) (a : Addr) : Rz := ⟨ρ.r, a :: ρ.z⟩
/-- a list, a tuple, a dict that is read and never changed -/
def FzL (K : PySem.W.Frag) (ρ : Rz) (H : Hp) (a : Addr) (xs : List V) : Prop :=
  (Rd H a (.lst xs) ∧ a ∉ ρ) ∨
    ∃ (o : Obj) (its : Array Value) (n : Nat), K.lookup a = some o ∧ o.cls = .type "list" ∧ o.dict = none ∧ o.data = .seq its n ∧ its.size ≤ sizeLine ∧ Vals xs its.toList
def FzT (K : PySem.W.Frag) (ρ : Rz) (H : Hp) (a : Addr) (xs : List V) : Prop :=
  (Rd H a (.tup xs) ∧ a ∉ ρ) ∨
    ∃ (o : Obj) (its : Array Value) (n : Nat), K.lookup a = some o ∧ o.cls = .type "tuple" ∧ o.data = .seq its n ∧ its.size ≤ sizeLine ∧ Vals xs its.toList
theorem FzL.sq {K : PySem.W.Frag} {ρ : Rz} {H : Hp} {a : Addr} {xs : List V} (h : FzL K ρ H a xs) : SqL K H a xs := h.imp (·.1) id
theorem FzT.sq {K : PySem.W.Frag} {ρ : Rz} {H : Hp} {a : Addr} {xs : List V} (h : FzT K ρ H a xs) : SqT K H a xs := h.imp (·.1) id

/-- an exception that was caught: its class, its own attributes -/
def ExV (cls : Value) (d : Option Addr) (a : Addr) : HO := .ext fun h => ∃ (oe : Obj) (vs : Array Value), h.get? a = some oe ∧ Zc cls d oe ∧ oe.data = .fields vs
theorem exV_ne {cls : Value} {d : Option Addr} {a : Addr} (ps : Array Value) : ExV cls d a ≠ .tbl ps := fun z => by
  unfold ExV at z
  cases z
theorem xd_ne {vs : List (Str × V)} (ps : Array Value) : HO.xd vs ≠ .tbl ps := fun z => nomatch z
mutual
/-- the layer's value v in the layer's heap H is the value p -/
inductive Den (K : PySem.W.Frag) (ρ : Rz) (H : Hp) : V → PV → Prop
  | non : Den K ρ H .non .non
  | bl (b : Bool) : Den K ρ H (.bl b) (.bl b)
  | int (i : Int) : Den K ρ H (.int i) (.int i)
  | str (x : Str) : x.length ≤ sizeLine → Den K ρ H (.str x) (.str x)
  | tup {a : Addr} {vs : List V} {xs : List PV} : FzT K ρ H a vs → DenL K ρ H vs xs → Den K ρ H (.ref a) (.tup xs)
  | lst {a : Addr} {vs : List V} {xs : List PV} : FzL K ρ H a vs → DenL K ρ H vs xs → Den K ρ H (.ref a) (.lst xs)
  | dct {a : Addr} {vs : List (Key × V)} {xs : List (Key × PV)} : H a = some (.dK vs) → a ∉ ρ → DenK K ρ H vs xs → Den K ρ H (.ref a) (.dct xs)
  | ref {n : Nat} {a : Addr} : ρ.r[n]? = some a → Den K ρ H (.ref a) (.ref n)
  | exc0 {a : Addr} {c : Str} : H a = some (ExV (.ref (He.ga K c)) none a) → a ∉ ρ → Den K ρ H (.ref a) (.exc c [])
  | exc1 {a d : Addr} {c : Str} {vs : List (Str × V)} {fs : List (Str × PV)} : H a = some (ExV (.ref (He.ga K c)) (some d) a) → H d = some (.xd vs) → a ∉ ρ → d ∉ ρ → fs ≠ [] → DenF K ρ H vs fs → Den K ρ H (.ref a) (.exc c fs)
  | clo {f c : Addr} {q : Str} : H c = some (LamX.CodeO c q) → c ∉ ρ → Den K ρ H (.ref f) (.clo f [.int c, .str q])
inductive DenL (K : PySem.W.Frag) (ρ : Rz) (H : Hp) : List V → List PV → Prop
  | nil : DenL K ρ H [] []
  | cons {v : V} {vs : List V} {x : PV} {xs : List PV} : Den K ρ H v x → DenL K ρ H vs xs → DenL K ρ H (v :: vs) (x :: xs)
inductive DenK (K : PySem.W.Frag) (ρ : Rz) (H : Hp) : List (Key × V) → List (Key × PV) → Prop
  | nil : DenK K ρ H [] []
  | cons {k : Key} {v : V} {vs : List (Key × V)} {x : PV} {xs : List (Key × PV)} : Den K ρ H v x → DenK K ρ H vs xs → DenK K ρ H ((k, v) :: vs) ((k, x) :: xs)
/-- attributes, in order -/
inductive DenF (K : PySem.W.Frag) (ρ : Rz) (H : Hp) : List (Str × V) → List (Str × PV) → Prop
  | nil : DenF K ρ H [] []
  | cons {k : Str} {v : V} {vs : List (Str × V)} {x : PV} {xs : List (Str × PV)} : Den K ρ H v x → DenF K ρ H vs xs → DenF K ρ H ((k, v) :: vs) ((k, x) :: xs)
end

/-- from one state to a later one: objects of the own heap may change, all else that is tracked stays (tables of code objects grow) -/
structure Ext (ρ : Rz) (H : Hp) (ρ' : Rz) (H' : Hp) : Prop where
  pre : ∃ t, ρ'.r = ρ.r ++ t
  zs : ρ'.z = ρ.z
  keep : ∀ b o, H b = some o → b ∉ ρ.r → (∀ ps, o ≠ .tbl ps) → H' b = some o
  tbls : ∀ b ps, H b = some (.tbl ps) → b ∉ ρ.r → ∃ more, H' b = some (.tbl (ps ++ more))
  new : ∀ a, a ∈ ρ'.r → a ∉ ρ.r → H a = none
theorem Ext.refl (ρ : Rz) (H : Hp) : Ext ρ H ρ H := ⟨⟨[], by simp⟩, rfl, fun _ _ h _ _ => h, fun _ ps h _ => ⟨#[], by simpa using h⟩, fun a h n => absurd h n⟩
theorem Ext.at {ρ ρ' : Rz} {H H' : Hp} (e : Ext ρ H ρ' H') {n : Nat} {a : Addr} (h : ρ.r[n]? = some a) : ρ'.r[n]? = some a := by
  obtain ⟨t, e⟩ := e.pre
  obtain ⟨hl, _⟩ := List.getElem?_eq_some_iff.mp h
  rw [e, List.getElem?_append_left hl]
  exact h
theorem Ext.mem {ρ ρ' : Rz} {H H' : Hp} (e : Ext ρ H ρ' H') {a : Addr} (h : a ∈ ρ.r) : a ∈ ρ'.r := by
  obtain ⟨t, e⟩ := e.pre
  rw [e]
  exact List.mem_append_left _ h
theorem Ext.outr {ρ ρ' : Rz} {H H' : Hp} (e : Ext ρ H ρ' H') {a : Addr} {o : HO} (h : H a = some o) (n : a ∉ ρ.r) : a ∉ ρ'.r := fun m => by
  rw [e.new a m n] at h
  cases h
theorem Ext.out {ρ ρ' : Rz} {H H' : Hp} (e : Ext ρ H ρ' H') {a : Addr} {o : HO} (h : H a = some o) (n : a ∉ ρ) : a ∉ ρ' :=
  Rz.out (e.outr h (Rz.out_r n)) (by rw [e.zs]; exact Rz.out_z n)
theorem Ext.any {ρ ρ' : Rz} {H H' : Hp} (e : Ext ρ H ρ' H') {a : Addr} {o : HO} (h : H a = some o) (n : a ∉ ρ.r) : ∃ o', H' a = some o' := by
  by_cases t : ∃ ps, o = .tbl ps
  · obtain ⟨ps, rfl⟩ := t
    obtain ⟨m, h'⟩ := e.tbls a ps h n
    exact ⟨_, h'⟩
  · exact ⟨o, e.keep a o h n fun ps h => t ⟨ps, h⟩⟩
theorem Ext.trans {ρ ρ1 ρ2 : Rz} {H H1 H2 : Hp} (e : Ext ρ H ρ1 H1) (f : Ext ρ1 H1 ρ2 H2) : Ext ρ H ρ2 H2 := by
  refine ⟨?_, f.zs.trans e.zs, fun b o h n t => f.keep b o (e.keep b o h n t) (e.outr h n) t, fun b ps h n => ?_, fun a m n => ?_⟩
  · obtain ⟨t, h1⟩ := e.pre
    obtain ⟨u, h2⟩ := f.pre
    exact ⟨t ++ u, by rw [h2, h1, List.append_assoc]⟩
  · obtain ⟨m1, h1⟩ := e.tbls b ps h n
    obtain ⟨m2, h2⟩ := f.tbls b _ h1 (e.outr h n)
    exact ⟨m1 ++ m2, by rw [h2, Array.append_assoc]⟩
  · cases q : H a with
    | none => rfl
    | some o =>
      have n1 := e.outr q n
      obtain ⟨o', q'⟩ := e.any q n
      rw [f.new a m n1] at q'
      cases q'

section
variable {K : PySem.W.Frag} {ρ ρ' : Rz} {H H' : Hp}
theorem FzL.ext (e : Ext ρ H ρ' H') {a : Addr} {xs : List V} (h : FzL K ρ H a xs) : FzL K ρ' H' a xs := by
  rcases h with ⟨h | ⟨o, h⟩, n⟩ | h
  · exact .inl ⟨.inl (e.keep _ _ h (Rz.out_r n) fun _ z => nomatch z), e.out h n⟩
  · exact .inl ⟨.inr ⟨o, e.keep _ _ h (Rz.out_r n) fun _ z => nomatch z⟩, e.out h n⟩
  · exact .inr h
theorem FzT.ext (e : Ext ρ H ρ' H') {a : Addr} {xs : List V} (h : FzT K ρ H a xs) : FzT K ρ' H' a xs := by
  rcases h with ⟨h | ⟨o, h⟩, n⟩ | h
  · exact .inl ⟨.inl (e.keep _ _ h (Rz.out_r n) fun _ z => nomatch z), e.out h n⟩
  · exact .inl ⟨.inr ⟨o, e.keep _ _ h (Rz.out_r n) fun _ z => nomatch z⟩, e.out h n⟩
  · exact .inr h
mutual
theorem Den.ext (e : Ext ρ H ρ' H') : ∀ {v : V} {x : PV}, Den K ρ H v x → Den K ρ' H' v x
  | _, _, .non => .non
  | _, _, .bl b => .bl b
  | _, _, .int i => .int i
  | _, _, .str x h => .str x h
  | _, _, .tup h r => .tup (h.ext e) (DenL.ext e r)
  | _, _, .lst h r => .lst (h.ext e) (DenL.ext e r)
  | _, _, .dct h n r => .dct (e.keep _ _ h (Rz.out_r n) fun _ z => nomatch z) (e.out h n) (DenK.ext e r)
  | _, _, .ref h => .ref (e.at h)
  | _, _, .exc0 h n => .exc0 (e.keep _ _ h (Rz.out_r n) exV_ne) (e.out h n)
  | _, _, .exc1 h g n m z r => .exc1 (e.keep _ _ h (Rz.out_r n) exV_ne) (e.keep _ _ g (Rz.out_r m) xd_ne) (e.out h n) (e.out g m) z (DenF.ext e r)
  | _, _, .clo h n => .clo (e.keep _ _ h (Rz.out_r n) LamX.codeO_ne) (e.out h n)
theorem DenL.ext (e : Ext ρ H ρ' H') : ∀ {vs : List V} {xs : List PV}, DenL K ρ H vs xs → DenL K ρ' H' vs xs
  | _, _, .nil => .nil
  | _, _, .cons h r => .cons (Den.ext e h) (DenL.ext e r)
theorem DenK.ext (e : Ext ρ H ρ' H') : ∀ {vs : List (Key × V)} {xs : List (Key × PV)}, DenK K ρ H vs xs → DenK K ρ' H' vs xs
  | _, _, .nil => .nil
  | _, _, .cons h r => .cons (Den.ext e h) (DenK.ext e r)
theorem DenF.ext (e : Ext ρ H ρ' H') : ∀ {vs : List (Str × V)} {xs : List (Str × PV)}, DenF K ρ H vs xs → DenF K ρ' H' vs xs
  | _, _, .nil => .nil
  | _, _, .cons h r => .cons (Den.ext e h) (DenF.ext e r)
end
theorem DenL.length : ∀ {vs : List V} {xs : List PV}, DenL K ρ H vs xs → vs.length = xs.length
  | _, _, .nil => rfl
  | _, _, .cons _ r => congrArg (· + 1) (DenL.length r)
theorem DenL.get : ∀ {vs : List V} {xs : List PV} {i : Nat} {x : PV}, DenL K ρ H vs xs → xs[i]? = some x → ∃ v, vs[i]? = some v ∧ Den K ρ H v x
  | _, _, _, _, .nil, e => by simp at e
  | _, _, 0, x, .cons h _, e => by
    simp at e
    subst e
    exact ⟨_, rfl, h⟩
  | _, _, i + 1, x, .cons _ r, e => by
    obtain ⟨v, h1, h2⟩ := DenL.get (i := i) (x := x) r (by simpa using e)
    exact ⟨v, by simpa using h1, h2⟩
theorem DenL.getV : ∀ {vs : List V} {xs : List PV} {i : Nat} {v : V}, DenL K ρ H vs xs → vs[i]? = some v → ∃ x, xs[i]? = some x ∧ Den K ρ H v x
  | _, _, _, _, .nil, e => by simp at e
  | _, _, 0, x, .cons h _, e => by
    simp at e
    subst e
    exact ⟨_, rfl, h⟩
  | _, _, i + 1, x, .cons _ r, e => by
    obtain ⟨v, h1, h2⟩ := DenL.getV (i := i) (v := x) r (by simpa using e)
    exact ⟨v, by simpa using h1, h2⟩
theorem DenL.append : ∀ {vs us : List V} {xs ys : List PV}, DenL K ρ H vs xs → DenL K ρ H us ys → DenL K ρ H (vs ++ us) (xs ++ ys)
  | _, _, _, _, .nil, s => s
  | _, _, _, _, .cons h r, s => .cons h (DenL.append r s)
theorem DenL.snoc {vs : List V} {xs : List PV} {v : V} {x : PV} (r : DenL K ρ H vs xs) (h : Den K ρ H v x) : DenL K ρ H (vs ++ [v]) (xs ++ [x]) := r.append (.cons h .nil)
theorem DenL.take : ∀ {vs : List V} {xs : List PV} (n : Nat), DenL K ρ H vs xs → DenL K ρ H (vs.take n) (xs.take n)
  | _, _, 0, _ => .nil
  | _, _, _ + 1, .nil => .nil
  | _, _, n + 1, .cons h r => .cons h (DenL.take n r)
theorem DenL.drop : ∀ {vs : List V} {xs : List PV} (n : Nat), DenL K ρ H vs xs → DenL K ρ H (vs.drop n) (xs.drop n)
  | _, _, 0, r => r
  | _, _, _ + 1, .nil => .nil
  | _, _, n + 1, .cons _ r => DenL.drop n r
theorem DenL.set {v : V} {x : PV} (h : Den K ρ H v x) : ∀ {vs : List V} {xs : List PV} (i : Nat), DenL K ρ H vs xs → DenL K ρ H (vs.set i v) (xs.set i x)
  | _, _, _, .nil => .nil
  | _, _, 0, .cons _ r => .cons h r
  | _, _, i + 1, .cons q r => .cons q (DenL.set h i r)
theorem DenL.reverse : ∀ {vs : List V} {xs : List PV}, DenL K ρ H vs xs → DenL K ρ H vs.reverse xs.reverse
  | _, _, .nil => .nil
  | _, _, .cons h r => by
    rw [List.reverse_cons, List.reverse_cons]
    exact (DenL.reverse r).snoc h
theorem DenK.length : ∀ {vs : List (Key × V)} {xs : List (Key × PV)}, DenK K ρ H vs xs → vs.length = xs.length
  | _, _, .nil => rfl
  | _, _, .cons _ r => congrArg (· + 1) (DenK.length r)
theorem DenK.keys : ∀ {vs : List (Key × V)} {xs : List (Key × PV)}, DenK K ρ H vs xs → vs.map (·.1) = xs.map (·.1)
  | _, _, .nil => rfl
  | _, _, .cons _ r => by
    simp only [List.map_cons]
    rw [DenK.keys r]
theorem DenL.append_inv : ∀ {vs : List V} {xs ys : List PV}, DenL K ρ H vs (xs ++ ys) → ∃ us ws, vs = us ++ ws ∧ DenL K ρ H us xs ∧ DenL K ρ H ws ys
  | vs, [], ys, r => ⟨[], vs, rfl, .nil, r⟩
  | _, x :: xs, ys, .cons h r => by
    obtain ⟨us, ws, rfl, r1, r2⟩ := DenL.append_inv r
    exact ⟨_ :: us, ws, rfl, .cons h r1, r2⟩
end

/-! ### the own heap -/
/-- values stay what they are: the addresses that may not be theirs, the heap at those that are -/
structure Mov (ρ : Rz) (H : Hp) (ρ' : Rz) (H' : Hp) : Prop where
  rs : ∀ (n : Nat) (a : Addr), ρ.r[n]? = some a → ρ'.r[n]? = some a
  out : ∀ a o, H a = some o → a ∉ ρ → a ∉ ρ'
  keep : ∀ a o, H a = some o → a ∉ ρ → (∀ ps, o ≠ .tbl ps) → H' a = some o
/-- what the text's names stand for: the written part, the classes' addresses; tables of code objects; what else is to stay -/
structure GI where
  K : PySem.W.Frag
  cls : Str → Addr
  T : List (Addr × Str)
  inv : Rz → Hp → Prop
  mov : ∀ ρ H ρ' H', Mov ρ H ρ' H' → inv ρ H → inv ρ' H'
inductive ObR (Γ : GI) (ρ : Rz) (H : Hp) (a : Addr) : PO → Prop
  | lst {vs : List V} {xs : List PV} : H a = some (.lst vs) → DenL Γ.K ρ H vs xs → ObR Γ ρ H a (.lst xs)
  | dct {vs : List (Key × V)} {xs : List (Key × PV)} : H a = some (.dK vs) → DenK Γ.K ρ H vs xs → ObR Γ ρ H a (.dct false xs)
  | dctL {o : Obj} {vs : List (Key × V)} {xs : List (Key × PV)} : H a = some (.frz o (.dK vs)) → DenK Γ.K ρ H vs xs → ObR Γ ρ H a (.dct true xs)
  | ins {c : Str} {dx : Addr} {vs : List (Str × V)} {xs : List (Str × PV)} : H a = some (.ins (Γ.cls c) dx vs) → DenF Γ.K ρ H vs xs → ObR Γ ρ H a (.ins c xs)
/-- no table, no thing of other kinds -/
def Plain (o : HO) : Prop := (∀ ps, o ≠ .tbl ps) ∧ ∀ f, o ≠ .ext f
theorem plain_lst {vs : List V} : Plain (.lst vs) := ⟨fun _ z => (nomatch z), fun _ z => nomatch z⟩
theorem plain_dK {vs : List (Key × V)} : Plain (.dK vs) := ⟨fun _ z => (nomatch z), fun _ z => nomatch z⟩
theorem ObR.isP {Γ : GI} {ρ : Rz} {H : Hp} {a : Addr} {o : PO} (h : ObR Γ ρ H a o) : ∃ u, H a = some u ∧ Plain u := by
  cases h with
  | lst h _ => exact ⟨_, h, fun _ z => (nomatch z), fun _ z => nomatch z⟩
  | dct h _ => exact ⟨_, h, fun _ z => (nomatch z), fun _ z => nomatch z⟩
  | dctL h _ => exact ⟨_, h, fun _ z => (nomatch z), fun _ z => nomatch z⟩
  | ins h _ => exact ⟨_, h, fun _ z => (nomatch z), fun _ z => nomatch z⟩
theorem ObR.is {Γ : GI} {ρ : Rz} {H : Hp} {a : Addr} {o : PO} (h : ObR Γ ρ H a o) : ∃ u, H a = some u ∧ ∀ ps, u ≠ .tbl ps :=
  let ⟨u, e, p⟩ := h.isP; ⟨u, e, p.1⟩
/-- an object that stands as it stood -/
theorem ObR.ext {Γ : GI} {ρ ρ' : Rz} {H H' : Hp} {a : Addr} {o : PO} (e : Ext ρ H ρ' H') (q : H' a = H a) (h : ObR Γ ρ H a o) : ObR Γ ρ' H' a o := by
  cases h with
  | lst h r => exact .lst (q.trans h) (r.ext e)
  | dct h r => exact .dct (q.trans h) (r.ext e)
  | dctL h r => exact .dctL (q.trans h) (r.ext e)
  | ins h r => exact .ins (q.trans h) (r.ext e)
theorem tabs_upd {T : List (Addr × Str)} {H : Hp} {p : Addr} {o : HO} (t : LamX.Tabs T H) (n : ∀ u, H p = some u → Plain u) : LamX.Tabs T (upd H p o) := fun q hq => by
  obtain ⟨ps, h1, h2, h3⟩ := t q hq
  refine ⟨ps, ?_, h2, fun pos cv hc => ?_⟩
  · rw [upd_ne fun z => (n _ (by rw [← z]; exact h1)).1 ps rfl]
    exact h1
  · obtain ⟨c, e1, e2⟩ := h3 pos cv hc
    refine ⟨c, e1, ?_⟩
    rw [upd_ne fun z => (n _ (by rw [← z]; exact e2)).2 _ rfl]
    exact e2
theorem tabs_new {T : List (Addr × Str)} {H : Hp} {p : Addr} {o : HO} (t : LamX.Tabs T H) (n : H p = none) : LamX.Tabs T (upd H p o) := tabs_upd t fun u e => by
  rw [n] at e
  cases e
structure HR (Γ : GI) (ρ : Rz) (H : Hp) (ph : PH) : Prop where
  len : ρ.r.length = ph.length
  nd : ρ.r.Nodup
  ob : ∀ (n : Nat) (a : Addr) (o : PO), ρ.r[n]? = some a → ph[n]? = some o → ObR Γ ρ H a o
  zo : ∀ a, a ∈ ρ.z → a ∉ ρ.r ∧ ∃ o, H a = some o ∧ Plain o
  tb : LamX.Tabs Γ.T H
  fr : Γ.inv ρ H
section
variable {Γ : GI} {ρ ρ' : Rz} {H H' : Hp} {ph : PH}
theorem HR.at (h : HR Γ ρ H ph) {n : Nat} {o : PO} (e : ph[n]? = some o) : ∃ a, ρ.r[n]? = some a ∧ ObR Γ ρ H a o := by
  obtain ⟨hl, _⟩ := List.getElem?_eq_some_iff.mp e
  have hl' : n < ρ.r.length := by rw [h.len]; exact hl
  exact ⟨ρ.r[n], List.getElem?_eq_getElem hl', h.ob n _ o (List.getElem?_eq_getElem hl') e⟩
theorem HR.is (h : HR Γ ρ H ph) {a : Addr} (m : a ∈ ρ.r) : ∃ u, H a = some u ∧ ∀ ps, u ≠ .tbl ps := by
  obtain ⟨n, hn, e⟩ := List.getElem_of_mem m
  have hl : n < ph.length := by rw [← h.len]; exact hn
  exact (h.ob n a ph[n] (by rw [List.getElem?_eq_getElem hn, e]) (List.getElem?_eq_getElem hl)).is
theorem HR.outr (h : HR Γ ρ H ph) {p : Addr} (n : H p = none) : p ∉ ρ.r := fun m => by
  obtain ⟨u, e, _⟩ := h.is m
  rw [n] at e
  cases e
theorem HR.out (h : HR Γ ρ H ph) {p : Addr} (n : H p = none) : p ∉ ρ := Rz.out (h.outr n) fun m => by
  obtain ⟨_, o, e, _⟩ := h.zo p m
  rw [n] at e
  cases e
/-- a new thing that is never changed -/
theorem Ext.laid {p : Addr} {o : HO} (n : H p = none) : Ext ρ H ρ (upd H p o) :=
  ⟨⟨[], by simp⟩, rfl, fun b u h _ _ => by rw [upd_ne (ne_of_none h n)]; exact h, fun b ps h _ => ⟨#[], by rw [upd_ne (ne_of_none h n)]; simpa using h⟩, fun a h m => absurd h m⟩
theorem HR.isP (h : HR Γ ρ H ph) {a : Addr} (m : a ∈ ρ.r) : ∃ u, H a = some u ∧ Plain u := by
  obtain ⟨n, hn, e⟩ := List.getElem_of_mem m
  have hl : n < ph.length := by rw [← h.len]; exact hn
  exact (h.ob n a ph[n] (by rw [List.getElem?_eq_getElem hn, e]) (List.getElem?_eq_getElem hl)).isP
theorem zo_ne {p : Addr} {o : HO} (h : ∀ a, a ∈ ρ.z → a ∉ ρ.r ∧ ∃ o, H a = some o ∧ Plain o) (n : p ∉ ρ.z) : ∀ a, a ∈ ρ.z → a ∉ ρ.r ∧ ∃ u, upd H p o a = some u ∧ Plain u := fun a m => by
  obtain ⟨h1, u, h2, h3⟩ := h a m
  exact ⟨h1, u, by rw [upd_ne fun z => n (by rw [← z]; exact m)]; exact h2, h3⟩
theorem zo_upd {p : Addr} {o : HO} (h : ∀ a, a ∈ ρ.z → a ∉ ρ.r ∧ ∃ o, H a = some o ∧ Plain o) (q : Plain o) : ∀ a, a ∈ ρ.z → a ∉ ρ.r ∧ ∃ u, upd H p o a = some u ∧ Plain u := fun a m => by
  obtain ⟨h1, u, h2, h3⟩ := h a m
  refine ⟨h1, ?_⟩
  by_cases e : a = p
  · subst e
    exact ⟨o, upd_same, q⟩
  · exact ⟨u, by rw [upd_ne e]; exact h2, h3⟩
theorem Mov.laid {p : Addr} {o : HO} (n : H p = none) : Mov ρ H ρ (upd H p o) :=
  ⟨fun _ _ h => h, fun _ _ _ m => m, fun a u h _ _ => by rw [upd_ne (ne_of_none h n)]; exact h⟩
theorem Mov.alloc {p : Addr} {o : HO} (n : H p = none) : Mov ρ H (ρ.push p) (upd H p o) :=
  ⟨fun i a h => by
    obtain ⟨hl, _⟩ := List.getElem?_eq_some_iff.mp h
    show (ρ.r ++ [p])[i]? = some a
    rw [List.getElem?_append_left hl]
    exact h, fun a u h m => Rz.out (fun z => (List.mem_append.mp z).elim (Rz.out_r m) fun z => ne_of_none h n (List.mem_singleton.mp z)) (show a ∉ ρ.z from Rz.out_z m), fun a u h _ _ => by rw [upd_ne (ne_of_none h n)]; exact h⟩
theorem Mov.set {n : Nat} {a : Addr} {o : HO} (e : ρ.r[n]? = some a) : Mov ρ H ρ (upd H a o) :=
  ⟨fun _ _ h => h, fun _ _ _ m => m, fun b u h m _ => by
    rw [upd_ne fun z => Rz.out_r m (by rw [z]; exact List.mem_of_getElem? e)]
    exact h⟩
theorem HR.laid (h : HR Γ ρ H ph) {p : Addr} {o : HO} (n : H p = none) : HR Γ ρ (upd H p o) ph :=
  ⟨h.len, h.nd, fun i a u e1 e2 => (h.ob i a u e1 e2).ext (Ext.laid n) (by
    obtain ⟨w, q, _⟩ := (h.ob i a u e1 e2).is
    rw [upd_ne (ne_of_none q n)]), zo_ne h.zo (Rz.out_z (h.out n)), tabs_new h.tb n, Γ.mov _ _ _ _ (Mov.laid n) h.fr⟩
/-- a new object of the own heap -/
theorem Ext.alloc {p : Addr} {o : HO} (n : H p = none) : Ext ρ H (ρ.push p) (upd H p o) :=
  ⟨⟨[p], rfl⟩, rfl, fun b u h _ _ => by rw [upd_ne (ne_of_none h n)]; exact h, fun b ps h _ => ⟨#[], by rw [upd_ne (ne_of_none h n)]; simpa using h⟩, fun a h m => by
    rcases List.mem_append.mp h with z | z
    · exact absurd z m
    · rw [List.mem_singleton.mp z]; exact n⟩
theorem HR.alloc (h : HR Γ ρ H ph) {p : Addr} {o : HO} {po : PO} (n : H p = none) (ob : ObR Γ (ρ.push p) (upd H p o) p po) : HR Γ (ρ.push p) (upd H p o) (ph ++ [po]) := by
  refine ⟨by show (ρ.r ++ [p]).length = _; simp [h.len], ?_, fun i a u e1 e2 => ?_, fun a m => ?_, tabs_new h.tb n, Γ.mov _ _ _ _ (Mov.alloc n) h.fr⟩
  · refine List.nodup_append.mpr ⟨h.nd, by simp, fun a ha b hb => ?_⟩
    rw [List.mem_singleton.mp hb]
    rintro rfl
    exact h.outr n ha
  · have e1 : (ρ.r ++ [p])[i]? = some a := e1
    by_cases hi : i < ρ.r.length
    · rw [List.getElem?_append_left hi] at e1
      rw [List.getElem?_append_left (by rw [← h.len]; exact hi)] at e2
      exact (h.ob i a u e1 e2).ext (Ext.alloc n) (by
        obtain ⟨w, q, _⟩ := (h.ob i a u e1 e2).is
        rw [upd_ne (ne_of_none q n)])
    · have hlt : i < (ρ.r ++ [p]).length := (List.getElem?_eq_some_iff.mp e1).1
      have hi' : i = ρ.r.length := by
        rw [List.length_append] at hlt
        simp at hlt
        omega
      subst hi'
      rw [List.getElem?_append_right (Nat.le_refl _)] at e1
      rw [List.getElem?_append_right (by rw [h.len]; exact Nat.le_refl _)] at e2
      have z : a = p := by simpa using e1.symm
      have z2 : u = po := by
        rw [h.len] at e2
        simpa using e2.symm
      subst z
      subst z2
      exact ob
  · obtain ⟨h1, u, h2, h3⟩ := h.zo a m
    have na : a ≠ p := ne_of_none h2 n
    refine ⟨fun z => ?_, u, by rw [upd_ne na]; exact h2, h3⟩
    rcases List.mem_append.mp z with z | z
    · exact h1 z
    · exact na (List.mem_singleton.mp z)
/-- an object of the own heap is changed -/
theorem Ext.set {n : Nat} {a : Addr} {o : HO} (e : ρ.r[n]? = some a) : Ext ρ H ρ (upd H a o) := by
  have m : a ∈ ρ.r := List.mem_of_getElem? e
  refine ⟨⟨[], by simp⟩, rfl, fun b u h q _ => ?_, fun b ps h q => ?_, fun b h q => absurd h q⟩
  · have hb : b ≠ a := fun z => q (by rw [z]; exact m)
    rw [upd_ne hb]
    exact h
  · have hb : b ≠ a := fun z => q (by rw [z]; exact m)
    exact ⟨#[], by rw [upd_ne hb]; simpa using h⟩
theorem HR.set (h : HR Γ ρ H ph) {n : Nat} {a : Addr} {o : HO} {po : PO} (e : ρ.r[n]? = some a) (ob : ObR Γ ρ (upd H a o) a po) : HR Γ ρ (upd H a o) (ph.set n po) := by
  have ma : a ∈ ρ.r := List.mem_of_getElem? e
  refine ⟨by simp [h.len], h.nd, fun i b u e1 e2 => ?_, zo_ne h.zo fun z => (h.zo a z).1 ma, tabs_upd h.tb fun u eu => ?_, Γ.mov _ _ _ _ (Mov.set e) h.fr⟩
  rotate_left
  · obtain ⟨w, q, pw⟩ := h.isP ma
    rw [q] at eu
    cases eu
    exact pw
  by_cases hi : i = n
  · subst hi
    rw [e] at e1
    cases e1
    obtain ⟨hl, _⟩ := List.getElem?_eq_some_iff.mp e2
    rw [List.getElem?_set_self (by simpa using hl)] at e2
    cases e2
    exact ob
  · rw [List.getElem?_set_ne (Ne.symm hi)] at e2
    refine (h.ob i b u e1 e2).ext (Ext.set e) ?_
    refine upd_ne fun z => hi ?_
    subst z
    obtain ⟨h1, q1⟩ := List.getElem?_eq_some_iff.mp e1
    obtain ⟨h2, q2⟩ := List.getElem?_eq_some_iff.mp e
    exact (List.getElem_inj h.nd).mp (q1.trans q2.symm)
end

/-! ### things that are being made -/
section
variable {K : PySem.W.Frag} {ρ ρ' : Rz} {H H' : Hp}
theorem FzL.mov (e : Mov ρ H ρ' H') {a : Addr} {xs : List V} (h : FzL K ρ H a xs) : FzL K ρ' H' a xs := by
  rcases h with ⟨h | ⟨o, h⟩, n⟩ | h
  · exact .inl ⟨.inl (e.keep _ _ h n fun _ z => nomatch z), e.out _ _ h n⟩
  · exact .inl ⟨.inr ⟨o, e.keep _ _ h n fun _ z => nomatch z⟩, e.out _ _ h n⟩
  · exact .inr h
theorem FzT.mov (e : Mov ρ H ρ' H') {a : Addr} {xs : List V} (h : FzT K ρ H a xs) : FzT K ρ' H' a xs := by
  rcases h with ⟨h | ⟨o, h⟩, n⟩ | h
  · exact .inl ⟨.inl (e.keep _ _ h n fun _ z => nomatch z), e.out _ _ h n⟩
  · exact .inl ⟨.inr ⟨o, e.keep _ _ h n fun _ z => nomatch z⟩, e.out _ _ h n⟩
  · exact .inr h
mutual
theorem Den.mov (e : Mov ρ H ρ' H') : ∀ {v : V} {x : PV}, Den K ρ H v x → Den K ρ' H' v x
  | _, _, .non => .non
  | _, _, .bl b => .bl b
  | _, _, .int i => .int i
  | _, _, .str x h => .str x h
  | _, _, .tup h r => .tup (h.mov e) (DenL.mov e r)
  | _, _, .lst h r => .lst (h.mov e) (DenL.mov e r)
  | _, _, .dct h n r => .dct (e.keep _ _ h n fun _ z => nomatch z) (e.out _ _ h n) (DenK.mov e r)
  | _, _, .ref h => .ref (e.rs _ _ h)
  | _, _, .exc0 h n => .exc0 (e.keep _ _ h n exV_ne) (e.out _ _ h n)
  | _, _, .exc1 h g n m z r => .exc1 (e.keep _ _ h n exV_ne) (e.keep _ _ g m xd_ne) (e.out _ _ h n) (e.out _ _ g m) z (DenF.mov e r)
  | _, _, .clo h n => .clo (e.keep _ _ h n LamX.codeO_ne) (e.out _ _ h n)
theorem DenL.mov (e : Mov ρ H ρ' H') : ∀ {vs : List V} {xs : List PV}, DenL K ρ H vs xs → DenL K ρ' H' vs xs
  | _, _, .nil => .nil
  | _, _, .cons h r => .cons (Den.mov e h) (DenL.mov e r)
theorem DenK.mov (e : Mov ρ H ρ' H') : ∀ {vs : List (Key × V)} {xs : List (Key × PV)}, DenK K ρ H vs xs → DenK K ρ' H' vs xs
  | _, _, .nil => .nil
  | _, _, .cons h r => .cons (Den.mov e h) (DenK.mov e r)
theorem DenF.mov (e : Mov ρ H ρ' H') : ∀ {vs : List (Str × V)} {xs : List (Str × PV)}, DenF K ρ H vs xs → DenF K ρ' H' vs xs
  | _, _, .nil => .nil
  | _, _, .cons h r => .cons (Den.mov e h) (DenF.mov e r)
end
theorem ObR.mov {Γ : GI} {a : Addr} {o : PO} (e : Mov ρ H ρ' H') (q : H' a = H a) (h : ObR Γ ρ H a o) : ObR Γ ρ' H' a o := by
  cases h with
  | lst h r => exact .lst (q.trans h) (r.mov e)
  | dct h r => exact .dct (q.trans h) (r.mov e)
  | dctL h r => exact .dctL (q.trans h) (r.mov e)
  | ins h r => exact .ins (q.trans h) (r.mov e)
/-- a new thing at D is being made -/
theorem Mov.make {D : Addr} {o : HO} (n : H D = none) : Mov ρ H (ρ.mk1 D) (upd H D o) :=
  ⟨fun _ _ h => h, fun a u h m => Rz.out (show a ∉ ρ.r from Rz.out_r m) fun z => (List.mem_cons.mp z).elim (ne_of_none h n) (Rz.out_z m), fun a u h _ _ => by rw [upd_ne (ne_of_none h n)]; exact h⟩
theorem HR.make {Γ : GI} {ph : PH} {D : Addr} {o : HO} (h : HR Γ ρ H ph) (n : H D = none) (po : Plain o) : HR Γ (ρ.mk1 D) (upd H D o) ph :=
  ⟨h.len, h.nd, fun i a u e1 e2 => (h.ob i a u e1 e2).mov (Mov.make n) (by
    obtain ⟨w, q, _⟩ := (h.ob i a u e1 e2).is
    rw [upd_ne (ne_of_none q n)]), fun a m => by
    rcases List.mem_cons.mp m with z | z
    · rw [z]
      exact ⟨h.outr n, o, upd_same, po⟩
    · exact zo_upd h.zo po a z, tabs_new h.tb n, Γ.mov _ _ _ _ (Mov.make n) h.fr⟩
/-- it grows -/
theorem Mov.grow {D : Addr} {o : HO} (m : D ∈ ρ.z) : Mov ρ H ρ (upd H D o) :=
  ⟨fun _ _ h => h, fun a u h n => n, fun a u h n _ => by
    have na : a ≠ D := fun z => Rz.out_z n (by rw [z]; exact m)
    rw [upd_ne na]
    exact h⟩
theorem HR.grow {Γ : GI} {ph : PH} {D : Addr} {o : HO} (h : HR Γ ρ H ph) (m : D ∈ ρ.z) (po : Plain o) : HR Γ ρ (upd H D o) ph :=
  ⟨h.len, h.nd, fun i a u e1 e2 => (h.ob i a u e1 e2).mov (Mov.grow m) (by
    refine upd_ne fun z => (h.zo D m).1 ?_
    rw [← z]
    exact List.mem_of_getElem? e1), zo_upd h.zo po, tabs_upd h.tb fun u eu => by
      obtain ⟨_, w, q, pw⟩ := h.zo D m
      rw [q] at eu
      cases eu
      exact pw, Γ.mov _ _ _ _ (Mov.grow m) h.fr⟩
/-- it is made -/
theorem Mov.made {D : Addr} : Mov (ρ.mk1 D) H ρ H :=
  ⟨fun _ _ h => h, fun a u h n => Rz.out (show a ∉ ρ.r from Rz.out_r (ρ := ρ.mk1 D) n) fun z => Rz.out_z (ρ := ρ.mk1 D) n (List.mem_cons_of_mem _ z), fun a u h _ _ => h⟩
theorem HR.made {Γ : GI} {ph : PH} {D : Addr} (h : HR Γ (ρ.mk1 D) H ph) : HR Γ ρ H ph :=
  ⟨h.len, h.nd, fun i a u e1 e2 => (h.ob i a u e1 e2).mov Mov.made rfl, fun a m => h.zo a (List.mem_cons_of_mem _ m), h.tb, Γ.mov _ _ _ _ Mov.made h.fr⟩
/-- it becomes an object of the own heap -/
theorem Mov.adopt {D : Addr} : Mov (ρ.mk1 D) H (ρ.push D) H :=
  ⟨fun n a h => by
    have h : ρ.r[n]? = some a := h
    obtain ⟨hl, _⟩ := List.getElem?_eq_some_iff.mp h
    show (ρ.r ++ [D])[n]? = some a
    rw [List.getElem?_append_left hl]
    exact h, fun a u h n => Rz.out (fun z => (List.mem_append.mp z).elim (show a ∉ ρ.r from Rz.out_r (ρ := ρ.mk1 D) n) fun z => Rz.out_z (ρ := ρ.mk1 D) n (List.mem_cons.mpr (.inl (List.mem_singleton.mp z))))
      fun z => Rz.out_z (ρ := ρ.mk1 D) n (List.mem_cons_of_mem _ z), fun a u h _ _ => h⟩
theorem HR.adopt {Γ : GI} {ph : PH} {D : Addr} {po : PO} (h : HR Γ (ρ.mk1 D) H ph) (hz : D ∉ ρ.z) (ob : ObR Γ (ρ.push D) H D po) : HR Γ (ρ.push D) H (ph ++ [po]) := by
  have nD : D ∉ ρ.r := (h.zo D (List.mem_cons_self ..)).1
  have hlen : ρ.r.length = ph.length := h.len
  refine ⟨by show (ρ.r ++ [D]).length = _; simp [hlen], List.nodup_append.mpr ⟨h.nd, by simp, fun a ha b hb => ?_⟩, fun i a u e1 e2 => ?_, fun a m => ?_, h.tb, Γ.mov _ _ _ _ Mov.adopt h.fr⟩
  · rw [List.mem_singleton.mp hb]
    rintro rfl
    exact nD ha
  · have e1 : (ρ.r ++ [D])[i]? = some a := e1
    by_cases hi : i < ρ.r.length
    · rw [List.getElem?_append_left hi] at e1
      rw [List.getElem?_append_left (by rw [← hlen]; exact hi)] at e2
      exact (h.ob i a u e1 e2).mov Mov.adopt rfl
    · have hlt : i < (ρ.r ++ [D]).length := (List.getElem?_eq_some_iff.mp e1).1
      have hi' : i = ρ.r.length := by
        rw [List.length_append] at hlt
        simp at hlt
        omega
      subst hi'
      rw [List.getElem?_append_right (Nat.le_refl _)] at e1
      rw [List.getElem?_append_right (by rw [hlen]; exact Nat.le_refl _)] at e2
      have z : a = D := by simpa using e1.symm
      have z2 : u = po := by
        rw [hlen] at e2
        simpa using e2.symm
      subst z
      subst z2
      exact ob
  · obtain ⟨h1, u, h2, h3⟩ := h.zo a (List.mem_cons_of_mem _ m)
    refine ⟨fun z => ?_, u, h2, h3⟩
    rcases List.mem_append.mp z with z | z
    · exact h1 z
    · exact hz (List.mem_singleton.mp z ▸ m)
theorem Ext.unmk {D : Addr} (e : Ext (ρ.mk1 D) H ρ' H') : Ext ρ H ⟨ρ'.r, ρ.z⟩ H' ∧ ρ' = Rz.mk1 ⟨ρ'.r, ρ.z⟩ D := by
  refine ⟨⟨e.pre, rfl, e.keep, e.tbls, e.new⟩, ?_⟩
  have h : ρ'.z = D :: ρ.z := e.zs
  cases ρ'
  cases h
  rfl
theorem Ext.updz {D : Addr} {o : HO} (e : Ext ρ H ρ' H') (n : H D = none) : Ext ρ H ρ' (upd H' D o) :=
  ⟨e.pre, e.zs, fun b u h q t => by rw [upd_ne (ne_of_none h n)]; exact e.keep b u h q t, fun b ps h q => by rw [upd_ne (ne_of_none h n)]; exact e.tbls b ps h q, e.new⟩
theorem Ext.adopt {D : Addr} (e : Ext ρ H ρ' H') (n : H D = none) : Ext ρ H (ρ'.push D) H' :=
  ⟨let ⟨t, h⟩ := e.pre; ⟨t ++ [D], by show ρ'.r ++ [D] = _; rw [h, List.append_assoc]⟩, e.zs, e.keep, e.tbls, fun a m q => by
    rcases List.mem_append.mp m with z | z
    · exact e.new a z q
    · rw [List.mem_singleton.mp z]; exact n⟩
end

/-! ### results -/
inductive R (α : Type) where
  | ok (a : α) (h : PH) | exc (e : PX) (h : PH) | stuck
def M (α : Type) := PH → R α
def M.pure {α : Type} (a : α) : M α := fun h => .ok a h
def M.bind {α β : Type} (m : M α) (k : α → M β) : M β := fun h => match m h with
  | .ok a h' => k a h'
  | .exc e h' => .exc e h'
  | .stuck => .stuck
instance : Monad M where
  pure := M.pure
  bind := M.bind
def M.stuck {α : Type} : M α := fun _ => .stuck
theorem bind_def {α β : Type} (m : M α) (k : α → M β) (h : PH) : (m >>= k) h = match m h with
  | .ok a h' => k a h'
  | .exc e h' => .exc e h'
  | .stuck => .stuck := rfl
theorem pure_def {α : Type} (a : α) (h : PH) : (Pure.pure a : M α) h = .ok a h := rfl
/-- what is wanted behind a run from (ρ, H) -/
def Post {α : Type} (Γ : GI) (W : PX → Rz → Hp → Prop) (ρ : Rz) (H : Hp) (Q : α → Rz → Hp → PH → Prop) : R α → Prop
  | .ok a ph => ∀ ρ' H', Ext ρ H ρ' H' → HR Γ ρ' H' ph → Q a ρ' H' ph
  | .exc e ph => ∀ ρ' H', Ext ρ H ρ' H' → HR Γ ρ' H' ph → W e ρ' H'
  | .stuck => False
section
variable {α β : Type} {Γ : GI} {W : PX → Rz → Hp → Prop} {ρ ρ1 : Rz} {H H1 : Hp}
theorem Post.from {Q : α → Rz → Hp → PH → Prop} (e : Ext ρ H ρ1 H1) : ∀ {r : R α}, Post Γ W ρ H Q r → Post Γ W ρ1 H1 Q r
  | .ok _ _, h => fun ρ' H' x hr => h ρ' H' (e.trans x) hr
  | .exc _ _, h => fun ρ' H' x hr => h ρ' H' (e.trans x) hr
theorem Post.imp {Q Q' : α → Rz → Hp → PH → Prop} (f : ∀ a ρ' H' ph, Ext ρ H ρ' H' → HR Γ ρ' H' ph → Q a ρ' H' ph → Q' a ρ' H' ph) : ∀ {r : R α}, Post Γ W ρ H Q r → Post Γ W ρ H Q' r
  | .ok _ _, h => fun ρ' H' x hr => f _ _ _ _ x hr (h ρ' H' x hr)
  | .exc _ _, h => fun ρ' H' x hr => h ρ' H' x hr
theorem Post.bind {m : M α} {k : α → M β} {ph : PH} {Q : β → Rz → Hp → PH → Prop} (h : Post Γ W ρ H Q ((m >>= k) ph)) :
    Post Γ W ρ H (fun a ρ' H' ph' => Post Γ W ρ' H' Q (k a ph')) (m ph) := by
  rw [bind_def] at h
  cases q : m ph with
  | ok a ph' =>
    rw [q] at h
    exact fun ρ' H' x hr => Post.from x h
  | exc e ph' =>
    rw [q] at h
    exact h
  | stuck =>
    rw [q] at h
    exact h
end
end Rk

set_option Elab.async false
set_option linter.all false
set_option maxRecDepth 100000
/-! RkB: a code without places of the text, and what it does. -/
namespace Rk
open PySem PySem.Spec L2

/-! ### values -/
def toD : Nat → PH → PV → Option PyData
  | 0, _, _ => none
  | _ + 1, _, .non => some .none
  | _ + 1, _, .bl b => some (.bool b)
  | _ + 1, _, .int i => some (.int i)
  | _ + 1, _, .str s => some (.str s)
  | n + 1, h, .tup xs => (xs.mapM (toD n h)).map .tuple
  | n + 1, h, .lst xs => (xs.mapM (toD n h)).map .list
  | n + 1, h, .dct kvs => (kvs.mapM fun kv => (toD n h kv.2).map fun d => ((match kv.1 with | .inl i => PyData.int i | .inr s => PyData.str s), d)).map .dict
  | n + 1, h, .ref k => match h[k]? with
    | some (.lst xs) => (xs.mapM (toD n h)).map .list
    | some (.dct _ kvs) => (kvs.mapM fun kv => (toD n h kv.2).map fun d => ((match kv.1 with | .inl i => PyData.int i | .inr s => PyData.str s), d)).map .dict
    | _ => none
  | _ + 1, _, _ => none
/-- what is seen of a value, in a heap -/
inductive Vw where
  | non | bl (b : Bool) | int (i : Int) | str (x : Str) | tup (xs : List PV) | lst (xs : List PV) | dct (lk : Bool) (kvs : List (Key × PV)) | ins (c : Str) (fs : List (Str × PV)) | oth
def PO.vw : PO → Vw
  | .lst xs => .lst xs
  | .dct lk kvs => .dct lk kvs
  | .ins c fs => .ins c fs
def view (h : PH) : PV → Vw
  | .non => .non
  | .bl b => .bl b
  | .int i => .int i
  | .str x => .str x
  | .tup xs => .tup xs
  | .lst xs => .lst xs
  | .dct kvs => .dct false kvs
  | .ref n => match h[n]? with
    | some o => o.vw
    | none => .oth
  | .ty _ => .oth
  | .exc _ _ => .oth
  | .clo _ _ => .oth
/-- a list that is new -/
def fresh (fz : Bool) (xs : List PV) : M PV := fun h =>
  if xs.length ≤ sizeLine then (if fz then .ok (.lst xs) h else .ok (.ref h.length) (h ++ [.lst xs])) else .stuck
def truS (v : PV) : M Bool := fun h => match view h v with
  | .non => .ok false h
  | .bl b => .ok b h
  | .int i => .ok (i != 0) h
  | .str s => .ok ((s.length : Int) != 0) h
  | .tup xs => .ok (!xs.isEmpty) h
  | .lst xs => .ok (!xs.isEmpty) h
  | .dct false kvs => .ok (!kvs.isEmpty) h
  | _ => .stuck
def eqS (x y : PV) : M Bool := fun h => match x, y with
  | .str a, .str b => .ok (decide (a = b)) h
  | x, y => (match toD 70 h x, toD 70 h y with
    | some d, some e => if SeqAt.shaped d && SeqAt.shaped e then .ok (PyData.eqv d e) h else .stuck
    | _, _ => .stuck)
def asKey : PV → Option Key
  | .int i => some (.inl i)
  | .str s => some (.inr s)
  | _ => none
section
variable {κ α : Type} [DecidableEq κ]
def lookK (kvs : List (κ × α)) (k : κ) : Option α := (kvs.find? fun kv => decide (kv.1 = k)).map (·.2)
def insK (kvs : List (κ × α)) (k : κ) (v : α) : List (κ × α) :=
  if (kvs.any fun kv => decide (kv.1 = k)) = true then kvs.map (fun kv => if kv.1 = k then (kv.1, v) else kv) else kvs ++ [(k, v)]
def outK (kvs : List (κ × α)) (k : κ) : List (κ × α) := kvs.filter fun kv => decide (kv.1 ≠ k)
end
/-- the part of a list, as a slice cuts it -/
def cutL {α : Type} (xs : List α) (lo hi : Option Int) : List α := (xs.drop (HT.sIx xs.length 0 lo)).take (HT.sIx xs.length xs.length hi - HT.sIx xs.length 0 lo)
def R.opt {α : Type} (h : PH) : Option α → R α
  | some a => .ok a h
  | none => .stuck

/-! ### operators -/
def addS (fz : Bool) (p q : PV) : M PV := fun h => match view h p, view h q with
  | .int i, .int j => .ok (.int (i + j)) h
  | .str x, .str y => if x.length + y.length ≤ sizeLine then .ok (.str (x ++ y)) h else .stuck
  | .tup xs, .tup ys => if xs.length + ys.length ≤ sizeLine then .ok (.tup (xs ++ ys)) h else .stuck
  | .lst xs, .lst ys => fresh fz (xs ++ ys) h
  | _, _ => .stuck
/-- two numbers -/
def int2 (c : Int → Int → Bool) (k : Int → Int → Int) (p q : PV) : M PV := fun h => match view h p, view h q with
  | .int i, .int j => if c i j then .ok (.int (k i j)) h else .stuck
  | _, _ => .stuck
def binS (fz : Bool) : Operator → PV → PV → M PV
  | .Add => addS fz
  | .Sub => int2 (fun _ _ => true) fun i j => i - j
  | .Mult => int2 (fun i j => decide (i.natAbs < 2 ^ 64 ∨ j.natAbs < 2 ^ 64)) fun i j => i * j
  | .FloorDiv => int2 (fun _ j => decide (j ≠ 0 ∧ j.natAbs < 1073741824)) fun i j => i.fdiv j
  | .Mod => int2 (fun _ j => decide (j ≠ 0)) fun i j => i.fmod j
  | .Pow => int2 (fun i j => decide (0 ≤ j ∧ j ≤ 1000000 ∧ i.natAbs < 2 ^ 64)) fun i j => i ^ j.toNat
  | _ => fun _ _ => M.stuck
def negS (x : PV) : M PV := fun h => match view h x with
  | .int i => .ok (.int (-i)) h
  | _ => .stuck
def isNon : PV → Bool
  | .non => true
  | _ => false
/-- is the first text within the second one -/
def strIn (x y : Str) : Bool := !(Builtin.Str.occurrences y x 0 y.length 1).isEmpty
def inS (x c : PV) : M Bool := fun h => match view h c, view h x with
  | .str y, .str x => .ok (strIn x y) h
  | .dct _ kvs, .int i => .ok (lookK kvs (.inl i)).isSome h
  | .dct _ kvs, .str s => .ok (lookK kvs (.inr s)).isSome h
  | _, _ => .stuck
/-- an order of numbers or texts -/
def ordS (f : Int → Int → Bool) (g : List Nat → List Nat → Bool) (p q : PV) : M Bool := fun h => match view h p, view h q with
  | .int i, .int j => .ok (f i j) h
  | .str x, .str y => .ok (g x.cps.toList y.cps.toList) h
  | _, _ => .stuck
def isNoneS (p q : PV) : M Bool := fun h => match view h q with
  | .non => .ok (isNon p) h
  | _ => .stuck
def notM (m : M Bool) : M Bool := fun h => match m h with
  | .ok b h' => .ok (!b) h'
  | .exc e h' => .exc e h'
  | .stuck => .stuck
def cmpS : CmpOp → PV → PV → M Bool
  | .Lt => ordS (fun i j => decide (i < j)) fun x y => decide (x < y)
  | .LtE => ordS (fun i j => decide (i ≤ j)) fun x y => !decide (y < x)
  | .Gt => ordS (fun i j => decide (j < i)) fun x y => decide (y < x)
  | .GtE => ordS (fun i j => decide (j ≤ i)) fun x y => !decide (x < y)
  | .Eq => eqS
  | .NotEq => fun x y => notM (eqS x y)
  | .Is => isNoneS
  | .IsNot => fun x y => notM (isNoneS x y)
  | .In => inS
  | .NotIn => fun x y => notM (inS x y)
def cmpV (op : CmpOp) (x y : PV) : M PV := cmpS op x y >>= fun c => pure (.bl c)
def subS (p k : PV) : M PV := fun h => match view h p, view h k with
  | .tup xs, .int i => .opt h (atI xs i)
  | .lst xs, .int i => .opt h (atI xs i)
  | .str s, .int i => .opt h ((atI s.cps.toList i).map fun c => .str ⟨#[c]⟩)
  | .dct _ kvs, .int i => .opt h (lookK kvs (.inl i))
  | .dct _ kvs, .str s => .opt h (lookK kvs (.inr s))
  | _, _ => .stuck
def ixM (v : PV) : M (Option Int) := fun h => match view h v with
  | .int i => .ok (some i) h
  | _ => .stuck
/-- x[lo:hi] -/
def slS (fz : Bool) (x : PV) (lo hi : Option Int) : M PV := fun h => match view h x with
  | .str s => .ok (.str (cutS s lo hi)) h
  | .tup xs => .ok (.tup (cutL xs lo hi)) h
  | .lst xs => fresh fz (cutL xs lo hi) h
  | _ => .stuck
def setS (o k v : PV) : M Unit := fun h => match o with
  | .ref n => (match view h o, view h k with
    | .lst xs, .int i => (match ixN xs.length i with | some j => .ok () (h.set n (.lst (xs.set j v))) | none => .stuck)
    | .dct false kvs, .int i => if kvs.length < sizeLine then .ok () (h.set n (.dct false (insK kvs (.inl i) v))) else .stuck
    | .dct false kvs, .str s => if kvs.length < sizeLine then .ok () (h.set n (.dct false (insK kvs (.inr s) v))) else .stuck
    | _, _ => .stuck)
  | _ => .stuck

/-! ### built-in functions, methods -/
inductive Pr where
  | len | min2 | max2 | abs | repr | all | any | str | int | bool | tuple | list | sum | sorted
  deriving DecidableEq, Repr
inductive Mt where
  | append | join | reverse | extend | insert | pop | popAt | index | remove | get | get2
  deriving DecidableEq, Repr
def lenS (v : PV) : M PV := fun h => match view h v with
  | .str s => .ok (.int s.length) h
  | .tup xs => .ok (.int xs.length) h
  | .lst xs => .ok (.int xs.length) h
  | .dct false kvs => .ok (.int kvs.length) h
  | _ => .stuck
mutual
def noList : PyData → Bool
  | .list _ => false
  | .tuple xs => noListL xs
  | .dict kvs => noListK kvs
  | .none => true
  | .bool _ => true
  | .int _ => true
  | .str _ => true
def noListL : List PyData → Bool
  | [] => true
  | x :: xs => noList x && noListL xs
def noListK : List (PyData × PyData) → Bool
  | [] => true
  | (k, v) :: r => noList k && (noList v && noListK r)
end
def reprOk (d : PyData) : Bool := d.showable && (decide (d.depth ≤ 64) && (decide (d.shown.length ≤ sizeLine) && (!d.hasDict || noList d)))
def reprS (v : PV) : M PV := fun h => match toD 70 h v with
  | some d => if reprOk d then .ok (.str d.shown) h else .stuck
  | none => .stuck
def allBl : List PV → Option (List Bool)
  | [] => some []
  | .bl b :: r => (allBl r).map (b :: ·)
  | _ => none
def allStr : List PV → Option (List Str)
  | [] => some []
  | .str s :: r => (allStr r).map (s :: ·)
  | _ => none
def absS (x : PV) : M PV := fun h => match view h x with
  | .int i => .ok (.int (if i < 0 then -i else i)) h
  | _ => .stuck
def allS (x : PV) : M PV := fun h => match view h x with
  | .lst xs => .opt h ((allBl xs).map fun bs => .bl (bs.all id))
  | _ => .stuck
def anyS (x : PV) : M PV := fun h => match view h x with
  | .lst xs => .opt h ((allBl xs).map fun bs => .bl (bs.any id))
  | _ => .stuck
def strS (x : PV) : M PV := fun h => match view h x with
  | .int i => if i.natAbs.log2 < 1920 then .ok (.str (toString i)) h else .stuck
  | _ => .stuck
def intS (x : PV) : M PV := fun h => match view h x with
  | .int i => .ok (.int i) h
  | .bl b => .ok (.int (if b then 1 else 0)) h
  | _ => .stuck
def boolS (x : PV) : M PV := fun h => match view h x with
  | .int i => .ok (.bl (i != 0)) h
  | .bl b => .ok (.bl b) h
  | _ => .stuck
def tupleS (x : PV) : M PV := fun h => match view h x with
  | .tup xs => .ok (.tup xs) h
  | .lst xs => .ok (.tup xs) h
  | _ => .stuck
def listS (fz : Bool) (x : PV) : M PV := fun h => match view h x with
  | .tup xs => fresh fz xs h
  | .lst xs => fresh fz xs h
  | _ => .stuck
/-- a function of one thing -/
def pr1 (fz : Bool) (p : Pr) : PV → M PV := match p with
  | .len => lenS
  | .repr => reprS
  | .abs => absS
  | .all => allS
  | .any => anyS
  | .str => strS
  | .int => intS
  | .bool => boolS
  | .tuple => tupleS
  | .list => listS fz
  | _ => fun _ => M.stuck
/-- of two things -/
def pr2 (p : Pr) (x y : PV) : M PV := match p with
  | .min2 => int2 (fun _ _ => true) (fun i j => if j < i then j else i) x y
  | .max2 => int2 (fun _ _ => true) (fun i j => if j > i then j else i) x y
  | _ => M.stuck
def primS (fz : Bool) (p : Pr) : List PV → M PV
  | [x] => pr1 fz p x
  | [x, y] => pr2 p x y
  | _ => M.stuck
def joinS (o x : PV) : M PV := fun h => match view h o, view h x with
  | .str s, .lst xs => (match allStr xs with
    | some ys => if (ys.map (·.length)).sum + ys.length * s.length ≤ sizeLine then .ok (.str (Txt.join s ys)) h else .stuck
    | none => .stuck)
  | .str s, .tup xs => (match allStr xs with
    | some ys => if (ys.map (·.length)).sum + ys.length * s.length ≤ sizeLine then .ok (.str (Txt.join s ys)) h else .stuck
    | none => .stuck)
  | _, _ => .stuck
def appendS (o x : PV) : M PV := fun h => match o with
  | .ref n => (match view h o with
    | .lst xs => if xs.length < sizeLine then .ok .non (h.set n (.lst (xs ++ [x]))) else .stuck
    | _ => .stuck)
  | _ => .stuck
/-- a method of one argument -/
def mt1 (fz : Bool) (m : Mt) : PV → PV → M PV := match m with
  | .join => joinS
  | .append => appendS
  | _ => fun _ _ => M.stuck
/-- a module's constant -/
inductive GC where
  | int (i : Int) | str (s : Str) | strs (xs : List Str)
  deriving DecidableEq
def GC.pv : GC → PV
  | .int i => .int i
  | .str s => .str s
  | .strs xs => .tup (xs.map .str)
/-- the built-in classes that isinstance asks for -/
inductive Ty where
  | int | bool | str | tuple | list | dict
  deriving DecidableEq, Repr
def Mt.ty : Mt → Ty
  | .join => .str
  | .get => .dict
  | .get2 => .dict
  | _ => .list
def kindS (t : Ty) (x : PV) : M Unit := fun h => match view h x with
  | .str _ => if t = .str then .ok () h else .stuck
  | .lst _ => if t = .list then .ok () h else .stuck
  | .dct false _ => if t = .dict then .ok () h else .stuck
  | _ => .stuck
def mthS (fz : Bool) (m : Mt) (o : PV) : List PV → M PV
  | [x] => mt1 fz m o x
  | _ => M.stuck

/-! ### the code -/
inductive Tg where
  | nm (i : Nat) | tup (is : List Nat)
inductive Cst where
  | int (i : Int) | str (s : Str) | bl (b : Bool) | non
def Cst.pv : Cst → PV
  | .int i => .int i
  | .str s => .str s
  | .bl b => .bl b
  | .non => .non
mutual
inductive CE where
  | var (i : Nat) | cst (c : Cst) | glob (x : Str) (v : GC)
  | tup (es : CEs) | lst (fz : Bool) (es : CEs) | dct (es : CEs)
  | bin (fz : Bool) (op : Operator) (a b : CE) | neg (a : CE)
  | cmp (op : CmpOp) (a b : CE) | chain (o1 o2 : CmpOp) (a b c : CE)
  | band (es : CEs) | bor (es : CEs) | bnot (a : CE) | ife (c : CT) (a b : CE)
  | call (f : Nat) (es : CEs) | pr (fz : Bool) (p : Pr) (es : CEs) | mt (fz : Bool) (m : Mt) (o : CE) (es : CEs)
  | isi (a : CE) (t : Ty)
  | sub (a i : CE) | sl (fz : Bool) (a : CE) (lo hi : CEs)
  | comp (fz : Bool) (elt : CE) (tg : Tg) (it : IT) (ifs : CTs) (own : List Nat)
  | act (i : Nat) | lam (f : Nat) (body : CE) | callK (f : Nat) (n : Nat) (es : CEs) (nks : List Str) (ks : CEs) (pm : List Nat) | isx (a : CE) (cs : List Str) (tab : List (Str × Bool))
  | rev (fz : Bool) (a : CE) | dcomp (k v : CE) (tg : Tg) (it : IT) (ifs : CTs) (own : List Nat) | rep (fz : Bool) (es : CEs) (n : CE) | wall
/-- a test -/
inductive CT where
  | and (es : CTs) | or (es : CTs) | not (a : CT) | ife (c a b : CT) | cmp (op : CmpOp) (a b : CE) | chain (o1 o2 : CmpOp) (a b c : CE) | val (e : CE)
inductive CTs where
  | nil | cons (c : CT) (r : CTs)
inductive CEs where
  | nil | cons (e : CE) (r : CEs)
inductive IT where
  | seq (e : CE) | range1 (a : CE) | range2 (a b : CE) | enum (e : CE)
end
inductive CS where
  | asg (tg : Tg) (e : CE) | par (is : List Nat) (es : CEs) | aug (i : Nat) (op : Operator) (e : CE) | setI (o i e : CE)
  | expr (e : CE) | ret (e : CE) | retN
  | ifS (c : CT) (a b : List CS) | whl (c : CT) (b : List CS) | forS (tg : Tg) (it : IT) (b : List CS)
  | pass | brk | cont
  | raise (c : Str) (es : CEs) | tryX (b : List CS) (cs : List Str) (tab : List (Str × Bool)) (i j : Nat) | tryN (b : List CS) | wall
def CEs.toList : CEs → List CE
  | .nil => []
  | .cons e r => e :: r.toList
def CEs.of : List CE → CEs
  | [] => .nil
  | e :: r => .cons e (.of r)

/-! ### what it does -/
def setAll (L : Lo) : List Nat → List PV → Option Lo
  | [], [] => some L
  | i :: is, x :: xs => setAll (L.set i (some x)) is xs
  | _, _ => none
def Tg.bind : Tg → PV → Lo → Option Lo
  | .nm i, x, L => some (L.set i (some x))
  | .tup is, .tup xs, L => setAll L is xs
  | _, _, _ => none
/-- what a for walks: things that stay, or an object of the heap -/
inductive Sr where
  | fx (xs : List PV) | rf (n : Nat)
def Sr.now : Sr → PH → Option (List PV)
  | .fx xs, _ => some xs
  | .rf n, h => match h[n]? with
    | some (.lst xs) => some xs
    | _ => none
def wipeL (L : Lo) : List Nat → Lo
  | [] => L
  | v :: vs => (wipeL L vs).set v none
/-- what a body calls: the defs, the defs that get a lambda, the lambda itself -/
structure CF where
  lv : Nat
  call : Nat → List PV → M PV
  lam : Nat → M PV → M PV
  act : Nat → Nat → Str → M PV
def actV (cf : CF) : PV → M PV
  | .clo f [.int c, .str q] => cf.act f c.toNat q
  | _ => M.stuck
def enumL : Nat → List PV → List PV
  | _, [] => []
  | i, x :: xs => .tup [.int i, x] :: enumL (i + 1) xs
/-- enumerate: over things that stay -/
def enumS (v : PV) : M Sr := fun h => match v with
  | .ref _ => .stuck
  | _ => (match view h v with
    | .lst xs => .ok (.fx (enumL 0 xs)) h
    | _ => .stuck)
def tabL (tab : List (Str × Bool)) (c : Str) : Option Bool := (tab.find? fun p => decide (p.1 = c)).map (·.2)
/-- isinstance of a caught error -/
def isxS (tab : List (Str × Bool)) (x : PV) : M PV := fun h => match x with
  | .exc c [] => .opt h ((tabL tab c).map .bl)
  | _ => .stuck
/-- x[::-1] -/
def revS (fz : Bool) (x : PV) : M PV := fun h => match view h x with
  | .lst xs => fresh fz xs.reverse h
  | _ => .stuck
def szS (xs : List PV) : M Unit := fun h => if xs.length ≤ sizeLine then .ok () h else .stuck
/-- [..] * n -/
def repS (fz : Bool) (xs : List PV) (n : PV) : M PV := fun h => match view h n with
  | .int j => if xs.length * j.toNat ≤ sizeLine ∧ (-1000000 ≤ j ∧ j ≤ 1000000) then fresh fz (List.replicate j.toNat xs).flatten h else .stuck
  | _ => .stuck
/-- a call with keywords: n values by place, m by their names -/
def kwS (n m : Nat) (pm : List Nat) (k : List PV → M PV) (xs ys : List PV) : M PV := fun h => if xs.length = n ∧ ys.length = m then k (pm.filterMap fun j => (xs ++ ys)[j]?) h else .stuck
/-- a dict comprehension's turn: key, value -/
def kvStep (tg : Tg) (own : List Nat) (L : Lo) (t : Lo → M Bool) (f g : Lo → M PV) (x : PV) : M (Option (PV × PV)) := fun h => match tg.bind x (wipeL L own) with
  | some L' => (do let b ← t L'; if b then (do let y ← f L'; let z ← g L'; pure (some (y, z))) else pure none : M (Option (PV × PV))) h
  | none => .stuck
def kvL (step : PV → M (Option (PV × PV))) (n : Nat) : List PV → M Unit
  | [] => pure ()
  | x :: xs => fun h => match step x h with
    | .ok none h' => kvL step n xs h'
    | .ok (some (k, v)) h' => (match asKey k, h'[n]? with
      | some k, some (.dct false acc) => if acc.length < sizeLine then kvL step n xs (h'.set n (.dct false (insK acc k v))) else .stuck
      | _, _ => .stuck)
    | _ => .stuck
/-- the dict of a comprehension -/
def kvS (step : PV → M (Option (PV × PV))) (s : Sr) : M PV := fun h => match s with
  | .fx xs => (match kvL step h.length xs (h ++ [.dct false []]) with
    | .ok _ h' => .ok (.ref h.length) h'
    | _ => .stuck)
  | .rf _ => .stuck
/-- a run out of which nothing is raised -/
def noX {α : Type} (m : M α) : M α := fun h => match m h with
  | .ok a h' => .ok a h'
  | _ => .stuck
def consO : Option PV → List PV → List PV
  | some y, ys => y :: ys
  | none, ys => ys
/-- a comprehension's turns over things that stay -/
def compL (step : PV → M (Option PV)) : List PV → M (List PV)
  | [] => pure []
  | x :: xs => do
    let o ← step x
    let ys ← compL step xs
    pure (consO o ys)
/-- .. over what stands there at each turn -/
def compN (step : PV → M (Option PV)) (s : Sr) (n : Nat) : Nat → M (List PV)
  | 0 => fun h => match s.now h with
    | some xs => if xs.length = n then .ok [] h else .stuck
    | none => .stuck
  | k + 1 => fun h => match s.now h with
    | some xs => if xs.length = n then (match xs[n - (k + 1)]? with
      | some x => (do
        let o ← step x
        let ys ← compN step s n k
        pure (consO o ys) : M (List PV)) h
      | none => .stuck) else .stuck
    | none => .stuck
/-- one turn: the target, the tests, the element -/
def compStep (tg : Tg) (own : List Nat) (L : Lo) (t : Lo → M Bool) (f : Lo → M PV) (x : PV) : M (Option PV) := fun h => match tg.bind x (wipeL L own) with
  | some L' => (do let b ← t L'; if b then (do let y ← f L'; pure (some y)) else pure none : M (Option PV)) h
  | none => .stuck
def compS (step : PV → M (Option PV)) : Sr → M (List PV)
  | .fx xs => compL step xs
  | .rf n => fun h => match (Sr.rf n).now h with
    | some xs => compN step (.rf n) xs.length xs.length h
    | none => .stuck
def rangeL (a b : Int) : List PV := (List.range (b - a).toNat).map fun (k : Nat) => PV.int (a + k)
def seqS (v : PV) : M Sr := fun h => match v with
  | .ref n => (match view h v with
    | .lst _ => .ok (.rf n) h
    | _ => .stuck)
  | _ => (match view h v with
    | .tup xs => .ok (.fx xs) h
    | .lst xs => .ok (.fx xs) h
    | .str s => .ok (.fx (s.cps.toList.map fun c => .str ⟨#[c]⟩)) h
    | _ => .stuck)
def rangeS (a b : PV) : M Sr := fun h => match view h a, view h b with
  | .int i, .int j => if -(2 ^ 62) ≤ i ∧ i < 2 ^ 62 ∧ -(2 ^ 62) ≤ j ∧ j < 2 ^ 62 then .ok (.fx (rangeL i j)) h else .stuck
  | _, _ => .stuck
/-- keys and values by turns -/
def pairK : List PV → Option (List (Key × PV))
  | [] => some []
  | k :: v :: r => match asKey k, pairK r with
    | some k, some r => some ((k, v) :: r)
    | _, _ => none
  | _ => none
def isTy (h : PH) (v : PV) (t : Ty) : Option Bool := match view h v with
  | .non => some false
  | .bl _ => some (t == .int || t == .bool)
  | .int _ => some (t == .int)
  | .str _ => some (t == .str)
  | .tup _ => some (t == .tuple)
  | .lst _ => some (t == .list)
  | .dct _ _ => some (t == .dict)
  | _ => none
def isiS (t : Ty) (x : PV) : M PV := fun h => .opt h ((isTy h x t).map .bl)
section
variable (cf : CF)
mutual
def evE : CE → Lo → M PV
  | .var i, L => fun h => match L[i]? with
    | some (some v) => .ok v h
    | _ => .stuck
  | .cst c, _ => pure c.pv
  | .glob _ v, _ => pure v.pv
  | .tup es, L => do let xs ← evEs es L; fun h => if xs.length ≤ sizeLine then .ok (.tup xs) h else .stuck
  | .lst fz es, L => do let xs ← evEs es L; fresh fz xs
  | .dct es, L => fun h => match evEs es L (h ++ [.dct false []]) with
    | .ok xs h' => (match pairK xs, h'[h.length]? with
      | some kvs, some (.dct false []) => .ok (.ref h.length) (h'.set h.length (.dct false (kvs.foldl (fun acc kv => insK acc kv.1 kv.2) [])))
      | _, _ => .stuck)
    | .exc _ _ => .stuck
    | .stuck => .stuck
  | .bin fz op a b, L => do let x ← evE a L; let y ← evE b L; binS fz op x y
  | .neg a, L => do let x ← evE a L; negS x
  | .cmp op a b, L => do let x ← evE a L; let y ← evE b L; cmpV op x y
  | .chain o1 o2 a b c, L => do
    let x ← evE a L
    let y ← evE b L
    let k ← cmpS o1 x y
    if k then (do let z ← evE c L; cmpV o2 y z) else pure (.bl false)
  | .band es, L => evAnd es L
  | .bor es, L => evOr es L
  | .bnot a, L => do let x ← evE a L; let b ← truS x; pure (.bl !b)
  | .ife c a b, L => do let k ← evT c L; if k then evE a L else evE b L
  | .call f es, L => do let xs ← evEs es L; cf.call f xs
  | .pr fz p es, L => do let xs ← evEs es L; primS fz p xs
  | .mt fz m o es, L => do let x ← evE o L; let _ ← kindS m.ty x; let xs ← evEs es L; mthS fz m x xs
  | .isi a t, L => do let x ← evE a L; isiS t x
  | .sub a i, L => do let x ← evE a L; let y ← evE i L; subS x y
  | .sl fz a lo hi, L => do
    let x ← evE a L
    let l ← evP lo L
    let u ← evP hi L
    slS fz x l u
  | .comp fz elt tg it ifs own, L => do
    let s ← evI it L
    let ys ← noX (compS (compStep tg own L (evIfs ifs) (evE elt)) s)
    fresh fz ys
  | .act i, L => fun h => match L[i]? with
    | some (some v) => actV cf v h
    | _ => .stuck
  | .lam f body, L => noX (cf.lam f (evE body L))
  | .callK f n es nks ks pm, L => do let xs ← evEs es L; let ys ← evEs ks L; kwS n nks.length pm (cf.call f) xs ys
  | .isx a _ tab, L => do let x ← evE a L; isxS tab x
  | .rev fz a, L => do let x ← evE a L; revS fz x
  | .rep fz es n, L => do let xs ← evEs es L; let _ ← szS xs; let j ← evE n L; repS fz xs j
  | .dcomp k v tg it ifs own, L => do let s ← evI it L; kvS (kvStep tg own L (evIfs ifs) (evE k) (evE v)) s
  | .wall, _ => M.stuck
/-- a slice's end -/
def evP : CEs → Lo → M (Option Int)
  | .nil, _ => pure none
  | .cons e .nil, L => do let x ← evE e L; ixM x
  | .cons _ _, _ => M.stuck
def evEs : CEs → Lo → M (List PV)
  | .nil, _ => pure []
  | .cons e r, L => do let x ← evE e L; let xs ← evEs r L; pure (x :: xs)
/-- and: the value of the first that isn't true, else of the last -/
def evAnd : CEs → Lo → M PV
  | .nil, _ => M.stuck
  | .cons e .nil, L => evE e L
  | .cons e r, L => do let x ← evE e L; let b ← truS x; if b then evAnd r L else pure x
def evOr : CEs → Lo → M PV
  | .nil, _ => M.stuck
  | .cons e .nil, L => evE e L
  | .cons e r, L => do let x ← evE e L; let b ← truS x; if b then pure x else evOr r L
/-- a test -/
def evT : CT → Lo → M Bool
  | .and es, L => evTAnd es L
  | .or es, L => evTOr es L
  | .not a, L => do let b ← evT a L; pure !b
  | .ife c a b, L => do let k ← evT c L; if k then evT a L else evT b L
  | .cmp op a b, L => do let x ← evE a L; let y ← evE b L; cmpS op x y
  | .chain o1 o2 a b c, L => do
    let x ← evE a L
    let y ← evE b L
    let k ← cmpS o1 x y
    if k then (do let z ← evE c L; cmpS o2 y z) else pure false
  | .val e, L => do let x ← evE e L; truS x
def evTAnd : CTs → Lo → M Bool
  | .nil, _ => M.stuck
  | .cons e .nil, L => evT e L
  | .cons e r, L => do let b ← evT e L; if b then evTAnd r L else pure false
def evTOr : CTs → Lo → M Bool
  | .nil, _ => M.stuck
  | .cons e .nil, L => evT e L
  | .cons e r, L => do let b ← evT e L; if b then pure true else evTOr r L
/-- a comprehension's tests -/
def evIfs : CTs → Lo → M Bool
  | .nil, _ => pure true
  | .cons e .nil, L => evT e L
  | .cons _ _, _ => M.stuck
def evI : IT → Lo → M Sr
  | .seq e, L => do let x ← evE e L; seqS x
  | .range1 a, L => do let x ← evE a L; rangeS (.int 0) x
  | .range2 a b, L => do let x ← evE a L; let y ← evE b L; rangeS x y
  | .enum e, L => do let x ← evE e L; enumS x
end
end

/-! ### statements -/
inductive RS where
  | next (L : Lo) (h : PH) | ret (v : PV) (h : PH) | brk (L : Lo) (h : PH) | cont (L : Lo) (h : PH) | exc (e : PX) (L : Lo) (h : PH) | stuck
def R.to {α : Type} (L : Lo) (k : α → PH → RS) : R α → RS
  | .ok a h => k a h
  | .exc e h => .exc e L h
  | .stuck => .stuck
def nextO (o : Option Lo) (h : PH) : RS := match o with
  | some L => .next L h
  | none => .stuck
/-- a while's turns -/
def whileL (c : Lo → M Bool) (b : Lo → PH → RS) : Nat → Lo → PH → RS
  | 0, _, _ => .stuck
  | n + 1, L, h => (c L h).to L fun k h1 => if k then (match b L h1 with
    | .next L' h' => whileL c b n L' h'
    | .cont L' h' => whileL c b n L' h'
    | .brk L' h' => .next L' h'
    | r => r) else .next L h1
def forL (bind : PV → Lo → Option Lo) (b : Lo → PH → RS) : List PV → Lo → PH → RS
  | [], L, h => .next L h
  | x :: xs, L, h => match bind x L with
    | some L1 => (match b L1 h with
      | .next L' h' => forL bind b xs L' h'
      | .cont L' h' => forL bind b xs L' h'
      | .brk L' h' => .next L' h'
      | r => r)
    | none => .stuck
def forN (bind : PV → Lo → Option Lo) (b : Lo → PH → RS) (s : Sr) (n : Nat) : Nat → Lo → PH → RS
  | 0, L, h => match s.now h with
    | some xs => if xs.length = n then .next L h else .stuck
    | none => .stuck
  | k + 1, L, h => match s.now h with
    | some xs => if xs.length = n then (match xs[n - (k + 1)]? with
      | some x => (match bind x L with
        | some L1 => (match b L1 h with
          | .next L' h' => forN bind b s n k L' h'
          | .cont L' h' => forN bind b s n k L' h'
          | .brk L' h' => .next L' h'
          | r => r)
        | none => .stuck)
      | none => .stuck) else .stuck
    | none => .stuck
def forSr (bind : PV → Lo → Option Lo) (b : Lo → PH → RS) (s : Sr) (L : Lo) (h : PH) : RS := match s with
  | .fx xs => forL bind b xs L h
  | .rf n => match (Sr.rf n).now h with
    | some xs => forN bind b (.rf n) xs.length xs.length L h
    | none => .stuck
/-- x op= y: numbers only -/
def augS (op : Operator) (x y : PV) : M PV := match op, x, y with
  | .Add, .int a, .int b => pure (.int (a + b))
  | .Sub, .int a, .int b => pure (.int (a - b))
  | _, _, _ => M.stuck
/-- as many turns as a while may take -/
def wmost : Nat := 100000
section
variable (cf : CF)
mutual
def evS : CS → Lo → PH → RS
  | .asg tg e, L, h => (evE cf e L h).to L fun v h' => nextO (tg.bind v L) h'
  | .par is es, L, h => (evEs cf es L h).to L fun vs h' => nextO (setAll L is vs) h'
  | .aug i op e, L, h => match L[i]? with
    | some (some x) => (evE cf e L h).to L fun y h1 => (augS op x y h1).to L fun z h2 => .next (L.set i (some z)) h2
    | _ => .stuck
  | .setI o i e, L, h => (evE cf e L h).to L fun v h1 => (evE cf o L h1).to L fun x h2 => (evE cf i L h2).to L fun k h3 => (setS x k v h3).to L fun _ h4 => .next L h4
  | .expr e, L, h => (evE cf e L h).to L fun _ h' => .next L h'
  | .ret e, L, h => (evE cf e L h).to L fun v h' => .ret v h'
  | .retN, L, h => .ret .non h
  | .ifS c a b, L, h => (evT cf c L h).to L fun k h' => if k then evSs a L h' else evSs b L h'
  | .whl c b, L, h => whileL (evT cf c) (evSs b) wmost L h
  | .forS tg it b, L, h => (evI cf it L h).to L fun s h' => forSr tg.bind (evSs b) s L h'
  | .pass, L, h => .next L h
  | .brk, L, h => .brk L h
  | .cont, L, h => .cont L h
  | .raise c es, L, h => (evEs cf es L h).to L fun vs h' => if vs.length ≤ sizeLine then .exc ⟨c, []⟩ L h' else .stuck
  | .tryX b _ tab i j, L, h => match evSs b L h with
    | .exc e L' h' => (match tabL tab e.c with
      | some true => .next (((L'.set i (some (.exc e.c e.fs))).set j (some (.exc e.c e.fs))).set i none) h'
      | some false => .exc e L' h'
      | none => .stuck)
    | r => r
  | .tryN b, L, h => match evSs b L h with
    | .exc _ _ _ => .stuck
    | r => r
  | .wall, _, _ => .stuck
def evSs : List CS → Lo → PH → RS
  | [], L, h => .next L h
  | s :: r, L, h => match evS s L h with
    | .next L' h' => evSs r L' h'
    | x => x
end
end

/-! ### the defs -/
structure FD where
  gname : Str
  qual : Str
  ps : List Str
  N : List Str
  body : List CS
  lm : Bool := false
def startL (d : FD) (args : List PV) : Lo := args.map some ++ List.replicate (d.N.length - args.length) none
/-- a def's answer -/
def RS.fin : RS → R PV
  | .next _ h' => .ok .non h'
  | .ret v h' => .ok v h'
  | .exc e _ h' => .exc e h'
  | _ => .stuck
/-- what a run answers, whatever k is -/
noncomputable def allR {κ : Type} (r : κ → R PV) (k0 : κ) : R PV := by
  classical
  exact if ∀ k, r k = r k0 then r k0 else .stuck
theorem allR_at {κ : Type} {r : κ → R PV} {k0 : κ} {x : R PV} (h : ∀ k, r k = x) : allR r k0 = x := by
  unfold allR
  rw [if_pos fun k => (h k).trans (h k0).symm]
  exact h k0
theorem allR_of {κ : Type} {r : κ → R PV} {k0 : κ} (h : allR r k0 ≠ .stuck) (k : κ) : r k = allR r k0 := by
  unfold allR at h ⊢
  by_cases c : ∀ k, r k = r k0
  · rw [if_pos c]
    exact c k
  · rw [if_neg c] at h
    exact absurd rfl h
def actOf (k : Nat × Nat × Str) (th : M PV) : Nat → Nat → Str → M PV := fun f c q => if (f, c, q) = k then th else M.stuck
noncomputable def cfN (G : List FD) : Nat → CF
  | 0 => ⟨0, fun _ _ => M.stuck, fun _ _ => M.stuck, fun _ _ _ => M.stuck⟩
  | n + 1 => ⟨3 * (n + 1), fun f args h => match G[f]? with
      | some d => if args.length = d.ps.length then (evSs (cfN G n) d.body (startL d args) h).fin else .stuck
      | none => .stuck,
    fun f th h => match G[f]? with
      | some d => if d.ps.length = 1 then allR (fun k => (evSs { cfN G n with act := actOf k th } d.body (startL d [.clo k.1 [.int k.2.1, .str k.2.2]]) h).fin) (0, 0, "") else .stuck
      | none => .stuck,
    fun _ _ _ => M.stuck⟩
noncomputable def callN (G : List FD) (n : Nat) : Nat → List PV → M PV := (cfN G n).call
end Rk

set_option Elab.async false
set_option linter.all false
set_option maxRecDepth 100000
set_option maxHeartbeats 1000000
/-! RkC: the code's readings in the layer; operators by values. -/
namespace Rk
open PySem PySem.Spec L2

/-! ### readings -/
/-- an exception's parts in the layer -/
def XR (Γ : GI) (ρ : Rz) (H : Hp) (e : PX) (cls : Value) (d : Option Addr) : Prop :=
  cls = .ref (He.ga Γ.K e.c) ∧ ((d = none ∧ e.fs = []) ∨ ∃ a vs, d = some a ∧ H a = some (.xd vs) ∧ a ∉ ρ ∧ e.fs ≠ [] ∧ DenF Γ.K ρ H vs e.fs)
def wx (Γ : GI) (W : WX) (σ : St) : PX → Rz → Hp → Prop := fun e ρ H => ∀ cls d, XR Γ ρ H e cls d → W cls d σ H
def LoR (K : PySem.W.Frag) (ρ : Rz) (H : Hp) (σ : St) (L : Lo) : Prop :=
  σ.length = L.length ∧ ∀ (i : Nat) (v : PV), L[i]? = some (some v) → ∃ x, σ[i]? = some (some x) ∧ Den K ρ H x v
theorem LoR.ext {K : PySem.W.Frag} {ρ ρ' : Rz} {H H' : Hp} {σ : St} {L : Lo} (e : Ext ρ H ρ' H') (h : LoR K ρ H σ L) : LoR K ρ' H' σ L :=
  ⟨h.1, fun i v q => let ⟨x, h1, h2⟩ := h.2 i v q; ⟨x, h1, h2.ext e⟩⟩
theorem LoR.set {K : PySem.W.Frag} {ρ : Rz} {H : Hp} {σ : St} {L : Lo} {x : V} {v : PV} (h : LoR K ρ H σ L) (i : Nat) (d : Den K ρ H x v) : LoR K ρ H (σ.set i (some x)) (L.set i (some v)) := by
  refine ⟨by simp [h.1], fun j u q => ?_⟩
  by_cases hj : j = i
  · subst hj
    have hl : j < L.length := by
      have := (List.getElem?_eq_some_iff.mp q).1
      simpa using this
    rw [List.getElem?_set_self hl] at q
    cases q
    exact ⟨x, List.getElem?_set_self (by rw [h.1]; exact hl), d⟩
  · rw [List.getElem?_set_ne (Ne.symm hj)] at q
    rw [List.getElem?_set_ne (Ne.symm hj)]
    exact h.2 j u q
theorem LoR.wipe {K : PySem.W.Frag} {ρ : Rz} {H : Hp} {σ : St} {L : Lo} (h : LoR K ρ H σ L) : ∀ vs : List Nat, LoR K ρ H (wipe σ vs) (wipeL L vs)
  | [] => h
  | v :: vs => by
    have ih := LoR.wipe h vs
    refine ⟨by show ((L2.wipe σ vs).set v none).length = ((wipeL L vs).set v none).length; simp [ih.1], fun j u q => ?_⟩
    have q : ((wipeL L vs).set v none)[j]? = some (some u) := q
    show ∃ x, ((L2.wipe σ vs).set v none)[j]? = some (some x) ∧ _
    by_cases hj : v = j
    · subst hj
      have hl : v < (wipeL L vs).length := by
        have := (List.getElem?_eq_some_iff.mp q).1
        simpa using this
      rw [List.getElem?_set_self hl] at q
      cases q
    · rw [List.getElem?_set_ne hj] at q
      rw [List.getElem?_set_ne hj]
      exact ih.2 j u q
def Qv (Γ : GI) (Q : VK) : PV → Rz → Hp → PH → Prop := fun v ρ H _ => ∀ x, Den Γ.K ρ H x v → Q x H
def QvL (Γ : GI) (Q : List V → Hp → Prop) : List PV → Rz → Hp → PH → Prop := fun v ρ H _ => ∀ x, DenL Γ.K ρ H x v → Q x H
def Qb (Q : Bool → Hp → Prop) : Bool → Rz → Hp → PH → Prop := fun b _ H _ => Q b H
/-- a state from which a run m of the own code is wanted to come to Q -/
def Go {α : Type} (Γ : GI) (W : WX) (σ : St) (H : Hp) (Q : α → Rz → Hp → PH → Prop) (m : Lo → M α) : Prop :=
  ∃ ρ ph L, HR Γ ρ H ph ∧ LoR Γ.K ρ H σ L ∧ Post Γ (wx Γ W σ) ρ H Q (m L ph)
def Go1 {α : Type} (Γ : GI) (W : WX) (σ : St) (H : Hp) (Q : α → Rz → Hp → PH → Prop) (x : V) (m : PV → Lo → M α) : Prop :=
  ∃ ρ ph L v, HR Γ ρ H ph ∧ LoR Γ.K ρ H σ L ∧ Den Γ.K ρ H x v ∧ Post Γ (wx Γ W σ) ρ H Q (m v L ph)
def Go2 {α : Type} (Γ : GI) (W : WX) (σ : St) (H : Hp) (Q : α → Rz → Hp → PH → Prop) (x y : V) (m : PV → PV → Lo → M α) : Prop :=
  ∃ ρ ph L v u, HR Γ ρ H ph ∧ LoR Γ.K ρ H σ L ∧ Den Γ.K ρ H x v ∧ Den Γ.K ρ H y u ∧ Post Γ (wx Γ W σ) ρ H Q (m v u L ph)
def Go3 {α : Type} (Γ : GI) (W : WX) (σ : St) (H : Hp) (Q : α → Rz → Hp → PH → Prop) (x y z : V) (m : PV → PV → PV → Lo → M α) : Prop :=
  ∃ ρ ph L v u w, HR Γ ρ H ph ∧ LoR Γ.K ρ H σ L ∧ Den Γ.K ρ H x v ∧ Den Γ.K ρ H y u ∧ Den Γ.K ρ H z w ∧ Post Γ (wx Γ W σ) ρ H Q (m v u w L ph)
def GoL {α : Type} (Γ : GI) (W : WX) (σ : St) (H : Hp) (Q : α → Rz → Hp → PH → Prop) (xs : List V) (m : List PV → Lo → M α) : Prop :=
  ∃ ρ ph L vs, HR Γ ρ H ph ∧ LoR Γ.K ρ H σ L ∧ DenL Γ.K ρ H xs vs ∧ Post Γ (wx Γ W σ) ρ H Q (m vs L ph)
def Go1L {α : Type} (Γ : GI) (W : WX) (σ : St) (H : Hp) (Q : α → Rz → Hp → PH → Prop) (x : V) (xs : List V) (m : PV → List PV → Lo → M α) : Prop :=
  ∃ ρ ph L v vs, HR Γ ρ H ph ∧ LoR Γ.K ρ H σ L ∧ Den Γ.K ρ H x v ∧ DenL Γ.K ρ H xs vs ∧ Post Γ (wx Γ W σ) ρ H Q (m v vs L ph)
def RdE (Γ : GI) (W : WX) (f : Lo → M PV) : TE := fun σ H Q => Go Γ W σ H (Qv Γ Q) f
def RdA (Γ : GI) (W : WX) (f : Lo → M (List PV)) : TA := fun σ H Q => Go Γ W σ H (QvL Γ Q) f
def RdT (Γ : GI) (W : WX) (f : Lo → M Bool) : TT := fun σ H Q => Go Γ W σ H (Qb Q) f
abbrev SE (Γ : GI) (W : WX) (X : Cx) (e : Expr) (f : Lo → M PV) : Prop := PE X e (RdE Γ W f)
abbrev SA (Γ : GI) (W : WX) (X : Cx) (es : List Expr) (f : Lo → M (List PV)) : Prop := PA X es (RdA Γ W f)
abbrev ST (Γ : GI) (W : WX) (X : Cx) (e : Expr) (f : Lo → M Bool) : Prop := PT X e (RdT Γ W f)
theorem PE_imp {X : Cx} {e : Expr} {t t' : TE} (h : PE X e t) (i : ∀ σ H Q, t' σ H Q → t σ H Q) : PE X e t' := ⟨fun pins s σ H Q I q => h.run pins s σ H Q I (i σ H Q q)⟩
theorem PT_imp {X : Cx} {e : Expr} {t t' : TT} (h : PT X e t) (i : ∀ σ H Q, t' σ H Q → t σ H Q) : PT X e t' := ⟨fun pins s σ H Q I q => h.run pins s σ H Q I (i σ H Q q)⟩
theorem PW_imp {X : Cx} {e : Expr} {t t' : TT} (h : PW X e t) (i : ∀ σ H Q, t' σ H Q → t σ H Q) : PW X e t' := ⟨fun wh pins s σ H Q I q => h.run wh pins s σ H Q I (i σ H Q q)⟩
theorem PA_imp {X : Cx} {e : List Expr} {t t' : TA} (h : PA X e t) (i : ∀ σ H Q, t' σ H Q → t σ H Q) : PA X e t' := ⟨fun pos pins s σ H Q I q => h.run pos pins s σ H Q I (i σ H Q q)⟩
theorem PS_imp {X : Cx} {e : Stmt} {t t' : TS} (h : PS X e t) (i : ∀ D σ H, t' D σ H → t D σ H) : PS X e t' := ⟨fun pins s σ H D I q => h.run pins s σ H D I (i D σ H q)⟩
theorem PSs_imp {X : Cx} {e : List Stmt} {t t' : TS} (h : PSs X e t) (i : ∀ D σ H, t' D σ H → t D σ H) : PSs X e t' := ⟨fun pins s σ H D I q => h.run pins s σ H D I (i D σ H q)⟩

section
variable {α β : Type} {Γ : GI} {W : WX} {σ : St} {H : Hp} {Q : α → Rz → Hp → PH → Prop}
/-! ### one step of a run is one part's reading -/
theorem Go.e {f : Lo → M PV} {k : PV → Lo → M α} (h : Go Γ W σ H Q fun L => f L >>= fun v => k v L) : RdE Γ W f σ H fun x H1 => Go1 Γ W σ H1 Q x k := by
  obtain ⟨ρ, ph, L, hr, lo, p⟩ := h
  exact ⟨ρ, ph, L, hr, lo, (Post.bind p).imp fun v ρ' H' ph' e hr' q x d => ⟨ρ', ph', L, v, hr', lo.ext e, d, q⟩⟩
theorem Go1.e {x : V} {f : Lo → M PV} {k : PV → PV → Lo → M α} (h : Go1 Γ W σ H Q x fun v L => f L >>= fun u => k v u L) : RdE Γ W f σ H fun y H1 => Go2 Γ W σ H1 Q x y k := by
  obtain ⟨ρ, ph, L, v, hr, lo, d, p⟩ := h
  exact ⟨ρ, ph, L, hr, lo, (Post.bind p).imp fun u ρ' H' ph' e hr' q y d' => ⟨ρ', ph', L, v, u, hr', lo.ext e, d.ext e, d', q⟩⟩
theorem Go2.e {x y : V} {f : Lo → M PV} {k : PV → PV → PV → Lo → M α} (h : Go2 Γ W σ H Q x y fun v u L => f L >>= fun w => k v u w L) : RdE Γ W f σ H fun z H1 => Go3 Γ W σ H1 Q x y z k := by
  obtain ⟨ρ, ph, L, v, u, hr, lo, d, d1, p⟩ := h
  exact ⟨ρ, ph, L, hr, lo, (Post.bind p).imp fun w ρ' H' ph' e hr' q z d' => ⟨ρ', ph', L, v, u, w, hr', lo.ext e, d.ext e, d1.ext e, d', q⟩⟩
theorem Go.a {f : Lo → M (List PV)} {k : List PV → Lo → M α} (h : Go Γ W σ H Q fun L => f L >>= fun v => k v L) : RdA Γ W f σ H fun xs H1 => GoL Γ W σ H1 Q xs k := by
  obtain ⟨ρ, ph, L, hr, lo, p⟩ := h
  exact ⟨ρ, ph, L, hr, lo, (Post.bind p).imp fun v ρ' H' ph' e hr' q x d => ⟨ρ', ph', L, v, hr', lo.ext e, d, q⟩⟩
theorem Go1.a {x : V} {f : Lo → M (List PV)} {k : PV → List PV → Lo → M α} (h : Go1 Γ W σ H Q x fun v L => f L >>= fun u => k v u L) : RdA Γ W f σ H fun xs H1 => Go1L Γ W σ H1 Q x xs k := by
  obtain ⟨ρ, ph, L, v, hr, lo, d, p⟩ := h
  exact ⟨ρ, ph, L, hr, lo, (Post.bind p).imp fun u ρ' H' ph' e hr' q y d' => ⟨ρ', ph', L, v, u, hr', lo.ext e, d.ext e, d', q⟩⟩
theorem Go.t {f : Lo → M Bool} {k : Bool → Lo → M α} (h : Go Γ W σ H Q fun L => f L >>= fun v => k v L) : RdT Γ W f σ H fun b H1 => Go Γ W σ H1 Q (k b) := by
  obtain ⟨ρ, ph, L, hr, lo, p⟩ := h
  exact ⟨ρ, ph, L, hr, lo, (Post.bind p).imp fun v ρ' H' ph' e hr' q => ⟨ρ', ph', L, hr', lo.ext e, q⟩⟩
end

/-! ### runs that raise nothing -/
def NX {α : Type} (m : M α) : Prop := ∀ h e h', m h ≠ .exc e h'
theorem NX.pure {α : Type} (a : α) : NX (Pure.pure a : M α) := fun _ _ _ z => nomatch z
theorem NX.stuck {α : Type} : NX (M.stuck : M α) := fun _ _ _ z => nomatch z
theorem NX.bind {α β : Type} {m : M α} {k : α → M β} (h1 : NX m) (h2 : ∀ a, NX (k a)) : NX (m >>= k) := fun h e h' z => by
  rw [bind_def] at z
  cases q : m h with
  | ok a h1 =>
    rw [q] at z
    exact h2 a _ _ _ z
  | exc e1 h2 => exact h1 _ _ _ q
  | stuck =>
    rw [q] at z
    cases z
abbrev W0 : PX → Rz → Hp → Prop := fun _ _ _ => False
theorem Post.nx {α : Type} {Γ : GI} {W : PX → Rz → Hp → Prop} {ρ : Rz} {H : Hp} {Q : α → Rz → Hp → PH → Prop} {m : M α} {ph : PH} (n : NX m) (h : Post Γ W ρ H Q (m ph)) : Post Γ W0 ρ H Q (m ph) := by
  cases q : m ph with
  | ok a h' =>
    rw [q] at h
    exact h
  | exc e h' => exact absurd q (n _ _ _)
  | stuck =>
    rw [q] at h
    exact h

/-! ### parts by values: what is asked of the rules -/
/-- f of two values is op -/
def OpS (Γ : GI) (X : Cx) (f : Value → Value → Sem Value) (op : PV → PV → M PV) : Prop :=
  ∀ (pins : List (Addr × Obj)) (s : Shared) (σ : St) (H : Hp) (ρ : Rz) (ph : PH) (x y : V) (v u : Value) (p q : PV) (Q : VK), Inv X pins σ H s → RelV x v → RelV y u →
    HR Γ ρ H ph → Den Γ.K ρ H x p → Den Γ.K ρ H y q → Post Γ W0 ρ H (Qv Γ Q) (op p q ph) → wpAny (model X.prog X.w) X.A (f v u) (EP X pins σ Q) X.xe s
theorem OpS.rd {Γ : GI} {X : Cx} {f : Value → Value → Sem Value} {op : PV → PV → M PV} (h : OpS Γ X f op) (n : ∀ p q, NX (op p q)) {W : WX} :
    OpR X f fun x y H Q => ∃ σ, Go2 Γ W σ H (Qv Γ Q) x y fun p q _ => op p q := by
  intro pins s σ H x y v u Q I rx ry ⟨σ', ρ, ph, L, p, q, hr, lo, dx, dy, po⟩
  exact h pins s σ H ρ ph x y v u p q Q I rx ry hr dx dy (po.nx (n p q))
theorem OpS.of {Γ : GI} {X : Cx} {f : Value → Value → Sem Value} {op : PV → PV → M PV} {r : R2} (h : OpR X f r)
    (i : ∀ ρ H ph x y p q Q, HR Γ ρ H ph → Den Γ.K ρ H x p → Den Γ.K ρ H y q → Post Γ W0 ρ H (Qv Γ Q) (op p q ph) → r x y H Q) : OpS Γ X f op :=
  fun pins s σ H ρ ph x y v u p q Q I rx ry hr dx dy po => h pins s σ H x y v u Q I rx ry (i ρ H ph x y p q Q hr dx dy po)
section
variable {Γ : GI} {W : WX} {X : Cx} {a b : Expr} {fa fb : Lo → M PV} {pos : Pos}
theorem se_bin {op : Operator} {o : PV → PV → M PV} (h : OpS Γ X (binaryOp op) o) (n : ∀ p q, NX (o p q)) (ha : SE Γ W X a fa) (hb : SE Γ W X b fb) : SE Γ W X (.BinOp a op b pos) (fun L => do let x ← fa L; let y ← fb L; o x y) := by
  refine PE_imp (pe_op (h.rd n (W := W)) ha hb) fun σ H Q g => ?_
  have g1 := Go.e (k := fun x L => fb L >>= fun y => o x y) g
  obtain ⟨ρ, ph, L, hr, lo, p⟩ := g1
  refine ⟨ρ, ph, L, hr, lo, p.imp fun v ρ' H' ph' e hr' q x d => ?_⟩
  have g2 := Go1.e (k := fun x y _ => o x y) (q x d)
  obtain ⟨ρ2, ph2, L2, hr2, lo2, p2⟩ := g2
  exact ⟨ρ2, ph2, L2, hr2, lo2, p2.imp fun v ρ' H' ph' e hr' q x d => ⟨σ, q x d⟩⟩
end
end Rk

set_option Elab.async false
set_option linter.all false
set_option maxRecDepth 100000
set_option maxHeartbeats 1000000
/-! RkD: operators, comparisons, items by values. -/
namespace Rk
open PySem PySem.Spec L2

section
variable {Γ : GI} {X : Cx} {W : PX → Rz → Hp → Prop} {ρ : Rz} {H : Hp} {ph : PH}
theorem post_ok {α : Type} {Q : α → Rz → Hp → PH → Prop} {a : α} (h : Post Γ W ρ H Q (.ok a ph)) (hr : HR Γ ρ H ph) : Q a ρ H ph := h ρ H (Ext.refl _ _) hr
theorem post_val {Q : VK} {v : PV} (h : Post Γ W ρ H (Qv Γ Q) (.ok v ph)) (hr : HR Γ ρ H ph) {x : V} (d : Den Γ.K ρ H x v) : Q x H := post_ok h hr x d
theorem post_if {α : Type} {Q : α → Rz → Hp → PH → Prop} {c : Prop} [Decidable c] {r : R α} (h : Post Γ W ρ H Q (if c then r else .stuck)) : c ∧ Post Γ W ρ H Q r := by
  by_cases hc : c
  · rw [if_pos hc] at h
    exact ⟨hc, h⟩
  · rw [if_neg hc] at h
    exact h.elim
theorem post_opt {α : Type} {Q : α → Rz → Hp → PH → Prop} {o : Option α} (h : Post Γ W ρ H Q (R.opt ph o)) : ∃ a, o = some a ∧ Post Γ W ρ H Q (.ok a ph) := by
  cases o with
  | some a => exact ⟨a, rfl, h⟩
  | none => exact h.elim
/-! ### what is seen -/
def VwR (Γ : GI) (ρ : Rz) (H : Hp) (x : V) (p : PV) : Vw → Prop
  | .non => x = .non ∧ p = .non
  | .bl b => x = .bl b ∧ p = .bl b
  | .int i => x = .int i ∧ p = .int i
  | .str s => x = .str s ∧ p = .str s ∧ s.length ≤ sizeLine
  | .tup xs => ∃ a vs, x = .ref a ∧ p = .tup xs ∧ FzT Γ.K ρ H a vs ∧ DenL Γ.K ρ H vs xs
  | .lst xs => ∃ a vs, x = .ref a ∧ SqL Γ.K H a vs ∧ DenL Γ.K ρ H vs xs ∧ ((p = .lst xs ∧ FzL Γ.K ρ H a vs) ∨ ∃ n, p = .ref n ∧ ρ.r[n]? = some a ∧ H a = some (.lst vs))
  | .dct lk kvs => ∃ a vs, x = .ref a ∧ ((lk = false ∧ H a = some (.dK vs)) ∨ ∃ o, lk = true ∧ H a = some (.frz o (.dK vs))) ∧ DenK Γ.K ρ H vs kvs ∧ ((p = .dct kvs ∧ lk = false) ∨ ∃ n, p = .ref n ∧ ρ.r[n]? = some a)
  | .ins c fs => ∃ n a dx vs, x = .ref a ∧ p = .ref n ∧ ρ.r[n]? = some a ∧ H a = some (.ins (Γ.cls c) dx vs) ∧ DenF Γ.K ρ H vs fs
  | .oth => True
theorem vwR (hr : HR Γ ρ H ph) {x : V} {p : PV} (d : Den Γ.K ρ H x p) : VwR Γ ρ H x p (view ph p) := by
  cases d with
  | non => exact ⟨rfl, rfl⟩
  | bl b => exact ⟨rfl, rfl⟩
  | int i => exact ⟨rfl, rfl⟩
  | str s h => exact ⟨rfl, rfl, h⟩
  | tup f r => exact ⟨_, _, rfl, rfl, f, r⟩
  | lst f r => exact ⟨_, _, rfl, f.sq, r, .inl ⟨rfl, f⟩⟩
  | dct h n r => exact ⟨_, _, rfl, .inl ⟨rfl, h⟩, r, .inl ⟨rfl, rfl⟩⟩
  | @ref n a h =>
    cases e : ph[n]? with
    | none =>
      have e2 : view ph (.ref n) = .oth := by
        show (match ph[n]? with | some o => o.vw | none => Vw.oth) = _
        rw [e]
      rw [e2]
      exact True.intro
    | some o =>
      have e2 : view ph (.ref n) = o.vw := by
        show (match ph[n]? with | some o => o.vw | none => Vw.oth) = _
        rw [e]
      rw [e2]
      cases hr.ob n a o h e with
      | lst q r => exact ⟨_, _, rfl, .inl (.inl q), r, .inr ⟨_, rfl, h, q⟩⟩
      | dct q r => exact ⟨_, _, rfl, .inl ⟨rfl, q⟩, r, .inr ⟨_, rfl, h⟩⟩
      | dctL q r => exact ⟨_, _, rfl, .inr ⟨_, rfl, q⟩, r, .inr ⟨_, rfl, h⟩⟩
      | ins q r => exact ⟨_, _, _, _, rfl, rfl, h, q, r⟩
  | exc0 h n => exact True.intro
  | exc1 h g n m z r => exact True.intro
  | clo h n => exact True.intro
theorem vwAt (hr : HR Γ ρ H ph) {x : V} {p : PV} {w : Vw} (d : Den Γ.K ρ H x p) (e : view ph p = w) : VwR Γ ρ H x p w := e ▸ vwR hr d
/-- a list is made -/
theorem post_fresh {Q : VK} {fz : Bool} {xs : List PV} {vs : List V} (h : Post Γ W ρ H (Qv Γ Q) (fresh fz xs ph)) (hr : HR Γ ρ H ph) (r : DenL Γ.K ρ H vs xs) :
    vs.length ≤ sizeLine ∧ ∀ p, H p = none → Q (.ref p) (upd H p (.lst vs)) := by
  unfold fresh at h
  obtain ⟨hz, h⟩ := post_if h
  refine ⟨by rw [r.length]; exact hz, fun p n => ?_⟩
  cases fz with
  | true =>
    have h : Post Γ W ρ H (Qv Γ Q) (.ok (.lst xs) ph) := h
    exact h ρ _ (Ext.laid n) (hr.laid n) _ (.lst (.inl ⟨.inl upd_same, hr.out n⟩) (r.ext (Ext.laid n)))
  | false =>
    have h : Post Γ W ρ H (Qv Γ Q) (.ok (.ref ph.length) (ph ++ [.lst xs])) := h
    refine h (ρ.push p) _ (Ext.alloc n) (hr.alloc n (.lst upd_same (r.ext (Ext.alloc n)))) _ (.ref ?_)
    show (ρ.r ++ [p])[ph.length]? = some p
    rw [← hr.len, List.getElem?_append_right (Nat.le_refl _)]
    simp
/-- a tuple is made -/
theorem post_tup {Q : VK} {xs : List PV} {vs : List V} (h : Post Γ W ρ H (Qv Γ Q) (.ok (.tup xs) ph)) (hr : HR Γ ρ H ph) (r : DenL Γ.K ρ H vs xs) : ∀ p, H p = none → Q (.ref p) (upd H p (.tup vs)) := fun p n =>
  h ρ _ (Ext.laid n) (hr.laid n) _ (.tup (.inl ⟨.inl upd_same, hr.out n⟩) (r.ext (Ext.laid n)))

/-! ### nothing is raised -/
theorem nx_fresh (fz : Bool) (xs : List PV) : NX (fresh fz xs) := fun h e h' z => by
  unfold fresh at z
  repeat' split at z
  all_goals cases z
theorem nx_opt {α : Type} {h : PH} {o : Option α} {e : PX} {h' : PH} : R.opt h o ≠ .exc e h' := fun z => by
  cases o <;> cases z
theorem nx_add (fz : Bool) (p q : PV) : NX (addS fz p q) := fun h e h' z => by
  unfold addS at z
  repeat' split at z
  all_goals first
    | (cases z; done)
    | exact nx_fresh _ _ _ _ _ z
theorem nx_int2 {c : Int → Int → Bool} {k : Int → Int → Int} (p q : PV) : NX (int2 c k p q) := fun h e h' z => by
  unfold int2 at z
  repeat' split at z
  all_goals cases z
theorem nx_bin (fz : Bool) (op : Operator) (p q : PV) : NX (binS fz op p q) := by
  cases op
  all_goals first
    | exact nx_add _ _ _
    | exact nx_int2 _ _
    | exact NX.stuck
theorem nx_ord {f : Int → Int → Bool} {g : List Nat → List Nat → Bool} (p q : PV) : NX (ordS f g p q) := fun h e h' z => by
  unfold ordS at z
  repeat' split at z
  all_goals cases z
theorem nx_eq (p q : PV) : NX (eqS p q) := fun h e h' z => by
  unfold eqS at z
  repeat' split at z
  all_goals cases z
theorem nx_isn (p q : PV) : NX (isNoneS p q) := fun h e h' z => by
  unfold isNoneS at z
  repeat' split at z
  all_goals cases z
theorem nx_in (p q : PV) : NX (inS p q) := fun h e h' z => by
  unfold inS at z
  repeat' split at z
  all_goals cases z
theorem nx_not {m : M Bool} (n : NX m) : NX (notM m) := fun h e h' z => by
  unfold notM at z
  split at z
  · cases z
  · rename_i q
    exact n _ _ _ q
  · cases z
theorem nx_cmp (op : CmpOp) (p q : PV) : NX (cmpS op p q) := by
  cases op
  all_goals first
    | exact nx_eq _ _
    | exact nx_isn _ _
    | exact nx_in _ _
    | exact nx_not (nx_eq _ _)
    | exact nx_not (nx_isn _ _)
    | exact nx_not (nx_in _ _)
    | (unfold cmpS; exact nx_ord _ _)
theorem nx_sub (p q : PV) : NX (subS p q) := fun h e h' z => by
  unfold subS at z
  repeat' split at z
  all_goals first
    | exact nx_opt z
    | cases z
theorem nx_sl (fz : Bool) (p : PV) (lo hi : Option Int) : NX (slS fz p lo hi) := fun h e h' z => by
  unfold slS at z
  repeat' split at z
  all_goals first
    | exact nx_fresh _ _ _ _ _ z
    | cases z

/-! ### operators -/
/-- list + list, whatever they stand in -/
theorem cat_ok {pins : List (Addr × Obj)} {s : Shared} {σ : L2.St} {a b : Addr} {xs ys : List V} {Q : VK} (I : Inv X pins σ H s) (ha : SqL X.K H a xs) (hb : SqL X.K H b ys) (hz : xs.length + ys.length ≤ sizeLine)
    (q : ∀ p, H p = none → Q (.ref p) (upd H p (.lst (xs ++ ys)))) : wpAny (model X.prog X.w) X.A (binaryOp .Add (.ref a) (.ref b)) (EP X pins σ Q) X.xe s := by
  obtain ⟨its, r1, ⟨⟨cls, dd, data, sl⟩, n, ho, hc, _, hd⟩, _⟩ := I.list ha
  obtain ⟨its2, r2, ⟨⟨cls2, dd2, data2, sl2⟩, n2, ho2, hc2, _, hd2⟩, _⟩ := I.list hb
  simp only at hc hd hc2 hd2
  subst hc hd hc2 hd2
  have e : its.toArray ++ its2.toArray = (its ++ its2).toArray := by simp
  refine concat_meets ⟨_, ho, rfl⟩ ⟨_, ho2, rfl⟩ PySem.noFill_list_add PySem.seq_list_add PySem.F.slot_list_add PySem.F.entry_list_add (PySem.F.args_list_add_2 _ _)
    (PyProof.Rows.list_addW a b its.toArray its2.toArray n n2 dd dd2 sl sl2 (by simp; rw [← r1.length, ← r2.length]; exact hz)) ⟨ho, ho2, ?_⟩
  rw [e]
  exact ⟨.ref _, _, I.lnew (t' := s.toks) (r1.append r2) (by rw [List.length_append]; exact hz), rfl, q _ I.fresh⟩
theorem bin_add (hK : X.K = Γ.K) (fz : Bool) : OpS Γ X (binaryOp .Add) (addS fz) := by
  intro pins s σ H ρ ph x y v u p q Q I rx ry hr dx dy po
  unfold addS at po
  split at po
  · rename_i e1 e2
    obtain ⟨rfl, -⟩ := vwAt hr dx e1
    obtain ⟨rfl, -⟩ := vwAt hr dy e2
    exact op_add pins s σ H _ _ v u Q I rx ry ⟨_, _, rfl, rfl, post_val po hr (.int _)⟩
  · rename_i e1 e2
    obtain ⟨hz, po⟩ := post_if po
    obtain ⟨rfl, -, -⟩ := vwAt hr dx e1
    obtain ⟨rfl, -, -⟩ := vwAt hr dy e2
    exact op_add_str pins s σ H _ _ v u Q I rx ry ⟨_, _, rfl, rfl, hz, post_val po hr (.str _ (by rw [Str.length_append]; exact hz))⟩
  · rename_i e1 e2
    obtain ⟨hz, po⟩ := post_if po
    obtain ⟨a, vs, rfl, -, f1, r1⟩ := vwAt hr dx e1
    obtain ⟨b, us, rfl, -, f2, r2⟩ := vwAt hr dy e2
    refine op_catA pins s σ H _ _ v u Q I rx ry ⟨_, _, _, _, rfl, rfl, hK ▸ f1.sq, hK ▸ f2.sq, by rw [r1.length, r2.length]; exact hz, fun e => ?_, fun e1 e2 => ?_, fun e1 e2 => ?_⟩
    · subst e
      cases r1
      exact post_val po hr (.tup f2 r2)
    · subst e2
      cases r2
      rw [List.append_nil] at po
      exact post_val po hr (.tup f1 r1)
    · exact post_tup po hr (r1.append r2)
  · rename_i e1 e2
    obtain ⟨a, vs, rfl, h1, r1, -⟩ := vwAt hr dx e1
    obtain ⟨b, us, rfl, h2, r2, -⟩ := vwAt hr dy e2
    obtain ⟨hz, q⟩ := post_fresh po hr (r1.append r2)
    rw [List.length_append] at hz
    cases rx
    cases ry
    exact cat_ok I (hK ▸ h1) (hK ▸ h2) hz q
  · exact po.elim
theorem int2_ok {C : Int → Int → Prop} {c : Int → Int → Bool} {g : Int → Int → Int} {f : Value → Value → Sem Value} (ho : OpR X f (rI C fun i j => .int (g i j))) (hc : ∀ i j, c i j = true → C i j) : OpS Γ X f (int2 c g) := by
  intro pins s σ H ρ ph x y v u p q Q I rx ry hr dx dy po
  unfold int2 at po
  split at po
  · rename_i e1 e2
    obtain ⟨hz, po⟩ := post_if po
    obtain ⟨rfl, -⟩ := vwAt hr dx e1
    obtain ⟨rfl, -⟩ := vwAt hr dy e2
    exact ho pins s σ H _ _ v u Q I rx ry ⟨_, _, rfl, rfl, hc _ _ hz, post_val po hr (.int _)⟩
  · exact po.elim
theorem bin_ok (hK : X.K = Γ.K) (fz : Bool) (op : Operator) : OpS Γ X (binaryOp op) (binS fz op) := by
  cases op
  case Add => exact bin_add hK fz
  case Sub => exact int2_ok (C := fun _ _ => True) (fun pins s σ H x y v u Q I rx ry ⟨i, j, e1, e2, _, q⟩ => op_sub pins s σ H x y v u Q I rx ry ⟨i, j, e1, e2, q⟩) fun _ _ _ => True.intro
  case Mult =>
    refine int2_ok op_mul fun i j h => ?_
    have h := of_decide_eq_true h
    rcases h with h | h
    · exact .inl (by constructor <;> omega)
    · exact .inr (by constructor <;> omega)
  case FloorDiv => exact int2_ok op_fdivN fun i j h => (of_decide_eq_true h : j ≠ 0 ∧ j.natAbs < 1073741824)
  case Mod => exact int2_ok op_modN fun i j h => of_decide_eq_true h
  case Pow => exact int2_ok op_pow fun i j h => (of_decide_eq_true h : 0 ≤ j ∧ j ≤ 1000000 ∧ i.natAbs < 2 ^ 64)
  all_goals exact fun pins s σ H ρ ph x y v u p q Q I rx ry hr dx dy po => False.elim po
end
end Rk

set_option Elab.async false
set_option linter.all false
set_option maxRecDepth 100000
set_option maxHeartbeats 1000000
/-! RkE: data; comparisons; what is read. -/
namespace Rk
open PySem PySem.Spec L2

section
variable {Γ : GI} {X : Cx} {W : PX → Rz → Hp → Prop} {ρ : Rz} {H : Hp} {ph : PH} {pins : List (Addr × Obj)} {σ : L2.St} {s : Shared}
def keyD : Key → PyData
  | .inl i => .int i
  | .inr x => .str x
/-- what a heap of the model has, as data -/
def Rds (s : Shared) (u : Value) (d : PyData) : Prop := ∃ as, Reads s.heap u d as ∧ (noList d = true → ∀ b ∈ as, b ≠ sysModules)
def RdsL (s : Shared) (us : List Value) (ds : List PyData) : Prop := ∃ as, ReadsAll s.heap us ds as ∧ (noListL ds = true → ∀ b ∈ as, b ≠ sysModules)
theorem RdsL.nil : RdsL s [] [] := ⟨[], .nil, fun _ b hb => absurd hb (by simp)⟩
theorem RdsL.cons {u : Value} {us : List Value} {d : PyData} {ds : List PyData} (h : Rds s u d) (t : RdsL s us ds) : RdsL s (u :: us) (d :: ds) := by
  obtain ⟨as, r, n⟩ := h
  obtain ⟨bs, rs, m⟩ := t
  refine ⟨as ++ bs, .cons r rs, fun e b hb => ?_⟩
  have e : (noList d && noListL ds) = true := e
  obtain ⟨e1, e2⟩ := Bool.and_eq_true_iff.mp e
  rcases List.mem_append.mp hb with z | z
  · exact n e1 b z
  · exact m e2 b z
theorem mapM_cons {α β : Type} {f : α → Option β} {x : α} {xs : List α} {ys : List β} (h : (x :: xs).mapM f = some ys) : ∃ y zs, f x = some y ∧ xs.mapM f = some zs ∧ ys = y :: zs := by
  rw [List.mapM_cons] at h
  cases e : f x with
  | none =>
    rw [e] at h
    cases h
  | some y =>
    rw [e] at h
    cases e2 : xs.mapM f with
    | none =>
      rw [e2] at h
      cases h
    | some zs =>
      rw [e2] at h
      exact ⟨y, zs, rfl, rfl, (Option.some.inj h).symm⟩
theorem map_some {α β : Type} {f : α → β} {o : Option α} {b : β} (h : o.map f = some b) : ∃ a, o = some a ∧ b = f a := by
  cases o with
  | none => cases h
  | some a => exact ⟨a, rfl, (Option.some.inj h).symm⟩
theorem rdsL_of (f : PV → Option PyData) (hf : ∀ (x : V) (p : PV) (u : Value) (d : PyData), Den Γ.K ρ H x p → RelV x u → f p = some d → Rds s u d) :
    ∀ {vs : List V} {xs : List PV} {us : List Value} {ds : List PyData}, DenL Γ.K ρ H vs xs → Vals vs us → xs.mapM f = some ds → RdsL s us ds
  | _, [], _, _, .nil, .nil, e => by
    rw [List.mapM_nil] at e
    cases e
    exact RdsL.nil
  | _, x :: xs, _, _, .cons d r, .cons rv rr, e => by
    obtain ⟨y, zs, e1, e2, rfl⟩ := mapM_cons e
    exact RdsL.cons (hf _ _ _ _ d rv e1) (rdsL_of f hf r rr e2)
theorem pairs_vals {P : Program} {w : World} : ∀ {es : List DictEntry} {kvs : List (Key × Value)}, Pairs (mixKind P w) es kvs → es.map (·.val) = kvs.map (·.2) ∧ RdsL s (es.map (·.key)) (kvs.map fun kv => keyD kv.1) ∧ noListL (kvs.map fun kv => keyD kv.1) = true
  | _, _, .nil => ⟨rfl, RdsL.nil, rfl⟩
  | _, _, .cons (e := e) (kv := kv) hk hv r => by
    obtain ⟨h1, h2, h3⟩ := pairs_vals r
    refine ⟨by simp only [List.map_cons]; rw [hv, h1], RdsL.cons ?_ h2, ?_⟩
    · show Rds s e.key (keyD kv.1)
      rcases keyIs_shape (k := kv.1) (v := e.key) hk with ⟨i, t, e1, e2⟩ | ⟨x, t, e1, e2⟩
      · rw [e1, e2]
        exact ⟨[], .int i t, fun _ b hb => absurd hb (by simp)⟩
      · rw [e1, e2]
        exact ⟨[], .str x t, fun _ b hb => absurd hb (by simp)⟩
    · show (noList (keyD kv.1) && noListL _) = true
      rw [h3, Bool.and_true]
      cases kv.1 <;> rfl
theorem noListK_split : ∀ (kvs : List (PyData × PyData)), noListK kvs = true → noListL (kvs.map (·.1)) = true ∧ noListL (kvs.map (·.2)) = true
  | [], _ => ⟨rfl, rfl⟩
  | (k, v) :: r, h => by
    have h : (noList k && (noList v && noListK r)) = true := h
    obtain ⟨h1, h2⟩ := Bool.and_eq_true_iff.mp h
    obtain ⟨h2, h3⟩ := Bool.and_eq_true_iff.mp h2
    obtain ⟨a, b⟩ := noListK_split r h3
    exact ⟨by show (noList k && _) = true; rw [h1, a]; rfl, by show (noList v && _) = true; rw [h2, b]; rfl⟩
theorem rds_dict {a : Addr} {kvs : List (Key × Value)} {ds : List PyData} {P : Program} {w : World} (m : s.heap.DictOf (mixKind P w) a kvs) (na : (a == sysModules) = false) (r : RdsL s (kvs.map (·.2)) ds) (z : kvs.length = ds.length) :
    Rds s (.ref a) (.dict ((kvs.map fun kv => keyD kv.1).zip ds)) := by
  obtain ⟨o, es, ep, ho, hx, hd, _, hp, _⟩ := m
  obtain ⟨h1, ⟨as, h2, h2n⟩, h3⟩ := pairs_vals (s := s) hp
  obtain ⟨bs, r, rn⟩ := r
  have l : (kvs.map fun kv => keyD kv.1).length = ds.length := by rw [List.length_map]; exact z
  have e1 : (((kvs.map fun kv => keyD kv.1).zip ds).map (·.1)) = kvs.map fun kv => keyD kv.1 := List.map_fst_zip (Nat.le_of_eq l)
  have e2 : (((kvs.map fun kv => keyD kv.1).zip ds).map (·.2)) = ds := List.map_snd_zip (Nat.le_of_eq l.symm)
  refine ⟨a :: as ++ bs, .dict ho hx.1 hd (by rw [e1]; exact h2) (by rw [e2, h1]; exact r), fun e b hb => ?_⟩
  have e : noListK ((kvs.map fun kv => keyD kv.1).zip ds) = true := e
  obtain ⟨q1, q2⟩ := noListK_split _ e
  rw [e2] at q2
  rcases List.mem_append.mp hb with hb | hb
  · rcases List.mem_cons.mp hb with hb | hb
    · rw [hb]
      exact beq_eq_false_iff_ne.mp na
    · exact h2n h3 b hb
  · exact rn q2 b hb
theorem kv_split : ∀ {vs : List (Key × V)} {us : List (Key × Value)}, KV vs us → us.map (·.1) = vs.map (·.1) ∧ Vals (vs.map (·.2)) (us.map (·.2)) ∧ us.length = vs.length
  | _, _, .nil => ⟨rfl, .nil, rfl⟩
  | _, _, .cons h r => by
    obtain ⟨h1, h2, h3⟩ := kv_split r
    exact ⟨by simp only [List.map_cons]; rw [h1, h.1], .cons h.2 h2, by simp only [List.length_cons]; rw [h3]⟩
theorem denK_split {K : PySem.W.Frag} : ∀ {vs : List (Key × V)} {xs : List (Key × PV)}, DenK K ρ H vs xs → vs.map (·.1) = xs.map (·.1) ∧ DenL K ρ H (vs.map (·.2)) (xs.map (·.2))
  | _, _, .nil => ⟨rfl, .nil⟩
  | _, _, .cons h r => by
    obtain ⟨h1, h2⟩ := denK_split r
    exact ⟨by simp only [List.map_cons]; rw [h1], .cons h h2⟩
theorem mapM_kv {f : PV → Option PyData} : ∀ {kvs : List (Key × PV)} {ds : List (PyData × PyData)}, (kvs.mapM fun kv => (f kv.2).map fun d => ((match kv.1 with | .inl i => PyData.int i | .inr s => PyData.str s), d)) = some ds →
    ∃ es, (kvs.map (·.2)).mapM f = some es ∧ ds = (kvs.map fun kv => keyD kv.1).zip es ∧ kvs.length = es.length
  | [], ds, e => by
    rw [List.mapM_nil] at e
    cases e
    exact ⟨[], rfl, rfl, rfl⟩
  | kv :: r, ds, e => by
    obtain ⟨y, zs, e1, e2, rfl⟩ := mapM_cons e
    obtain ⟨d, e3, rfl⟩ := map_some e1
    obtain ⟨es, h1, rfl, h3⟩ := mapM_kv e2
    refine ⟨d :: es, by rw [List.map_cons, List.mapM_cons, e3, h1]; rfl, ?_, by simp [h3]⟩
    obtain ⟨k, v⟩ := kv
    cases k <;> rfl
theorem den_reads (hK : X.K = Γ.K) (I : Inv X pins σ H s) (hr : HR Γ ρ H ph) : ∀ (n : Nat) (x : V) (p : PV) (u : Value) (d : PyData), Den Γ.K ρ H x p → RelV x u → toD n ph p = some d → Rds s u d := by
  intro n
  induction n with
  | zero => intro x p u d _ _ e; cases e
  | succ n ih =>
    have lst : ∀ {a : Addr} {vs : List V} {xs : List PV} {d : PyData}, SqL Γ.K H a vs → DenL Γ.K ρ H vs xs → (xs.mapM (toD n ph)).map PyData.list = some d → Rds s (.ref a) d := by
      intro a vs xs d q r e
      obtain ⟨ds, e', rfl⟩ := map_some e
      obtain ⟨its, rv, ⟨o, m, ho, hc, _, hd⟩, _⟩ := I.list (hK ▸ q)
      obtain ⟨as, h, _⟩ := rdsL_of (toD n ph) (fun x p u d => ih x p u d) r rv e'
      exact ⟨_, .list ho hc hd (by simpa using h), fun z => nomatch z⟩
    have dct : ∀ {a : Addr} {vs : List (Key × V)} {xs : List (Key × PV)} {d : PyData}, Rd H a (.dK vs) → DenK Γ.K ρ H vs xs → (xs.mapM fun kv => (toD n ph kv.2).map fun d => ((match kv.1 with | .inl i => PyData.int i | .inr s => PyData.str s), d)).map PyData.dict = some d → Rds s (.ref a) d := by
      intro a vs xs d q r e
      obtain ⟨ds, e', rfl⟩ := map_some e
      obtain ⟨es, e2, rfl, hl⟩ := mapM_kv e'
      obtain ⟨_, na, us, kv, m⟩ := dk_rd I.hok q
      obtain ⟨k1, k2, k3⟩ := kv_split kv
      obtain ⟨r1, r2⟩ := denK_split r
      have h := rds_dict m na (rdsL_of (toD n ph) (fun x p u d => ih x p u d) r2 k2 e2) (by rw [k3, ← hl, ← r.length])
      have e3 : us.map (fun kv => keyD kv.1) = xs.map fun kv => keyD kv.1 := by
        have := congrArg (List.map keyD) (k1.trans r1)
        simpa [List.map_map, Function.comp_def] using this
      rw [e3] at h
      exact h
    intro x p u d dn rv e
    cases dn with
    | non =>
      cases rv
      cases e
      exact ⟨[], .none, fun _ b hb => absurd hb (by simp)⟩
    | bl b =>
      cases rv
      cases e
      exact ⟨[], .bool b, fun _ b hb => absurd hb (by simp)⟩
    | int i =>
      obtain ⟨t, rfl⟩ := rv
      cases e
      exact ⟨[], .int i t, fun _ b hb => absurd hb (by simp)⟩
    | str z _ =>
      obtain ⟨t, rfl⟩ := rv
      cases e
      exact ⟨[], .str z t, fun _ b hb => absurd hb (by simp)⟩
    | tup f r =>
      cases rv
      obtain ⟨ds, e', rfl⟩ := map_some e
      obtain ⟨its, rv, ⟨o, ho, hc, m, hd⟩, _⟩ := I.tuple (hK ▸ f.sq)
      obtain ⟨as, h, hn⟩ := rdsL_of (toD n ph) (fun x p u d => ih x p u d) r rv e'
      exact ⟨_, .tuple ho hc hd (by simpa using h), hn⟩
    | lst f r =>
      cases rv
      exact lst f.sq r e
    | dct h _ r =>
      cases rv
      exact dct (.inl h) r e
    | @ref k a h =>
      cases rv
      have e : (match ph[k]? with
        | some (.lst xs) => (xs.mapM (toD n ph)).map PyData.list
        | some (.dct _ kvs) => (kvs.mapM fun kv => (toD n ph kv.2).map fun d => ((match kv.1 with | .inl i => PyData.int i | .inr s => PyData.str s), d)).map PyData.dict
        | _ => none) = some d := e
      cases q : ph[k]? with
      | none =>
        rw [q] at e
        cases e
      | some o =>
        rw [q] at e
        cases hr.ob k a o h q with
        | lst q2 r => exact lst (.inl (.inl q2)) r e
        | dct q2 r => exact dct (.inl q2) r e
        | dctL q2 r => exact dct (.inr ⟨_, q2⟩) r e
        | ins _ _ => cases e
    | exc0 h n => cases e
    | exc1 h g n m z r => cases e
    | clo h n => cases e
end
end Rk

set_option Elab.async false
set_option linter.all false
set_option maxRecDepth 100000
set_option maxHeartbeats 1000000
/-! RkF: comparisons, items, slices by values. -/
namespace Rk
open PySem PySem.Spec L2
open PyProof.Rows (subscriptTail tail_any)

section
variable {Γ : GI} {X : Cx} {W : PX → Rz → Hp → Prop} {ρ : Rz} {H : Hp} {ph : PH} {pins : List (Addr × Obj)} {σ : L2.St} {s : Shared}
/-- a comparison of two values is op -/
def OpC (Γ : GI) (X : Cx) (f : Value → Value → Sem Value) (op : PV → PV → M Bool) : Prop :=
  ∀ (pins : List (Addr × Obj)) (s : Shared) (σ : L2.St) (H : Hp) (ρ : Rz) (ph : PH) (x y : V) (v u : Value) (p q : PV) (Q : VK), Inv X pins σ H s → RelV x v → RelV y u →
    HR Γ ρ H ph → Den Γ.K ρ H x p → Den Γ.K ρ H y q → Post Γ W0 ρ H (fun b _ H' _ => Q (.bl b) H') (op p q ph) → wpAny (model X.prog X.w) X.A (f v u) (EP X pins σ Q) X.xe s
theorem nx_cmpV (op : CmpOp) (x y : PV) : NX (cmpV op x y) := NX.bind (nx_cmp op x y) fun _ => NX.pure _
theorem OpC.op {op : CmpOp} (h : OpC Γ X (compareOp op) (cmpS op)) : OpS Γ X (compareOp op) (cmpV op) := by
  intro pins s σ H ρ ph x y v u p q Q I rx ry hr dx dy po
  refine h pins s σ H ρ ph x y v u p q Q I rx ry hr dx dy ((Post.bind po).imp fun b ρ' H' ph' e hr' z => ?_)
  exact post_val z hr' (.bl b)
theorem ord_ok {f : Int → Int → Bool} {g : List Nat → List Nat → Bool} {op : Value → Value → Sem Value} (h1 : OpR X op (rI0 fun i j => .bl (f i j))) (h2 : OpR X op fun x y H Q => ∃ i j, x = .str i ∧ y = .str j ∧ Q (.bl (g i.cps.toList j.cps.toList)) H) :
    OpC Γ X op (ordS f g) := by
  intro pins s σ H ρ ph x y v u p q Q I rx ry hr dx dy po
  unfold ordS at po
  split at po
  · rename_i e1 e2
    obtain ⟨rfl, -⟩ := vwAt hr dx e1
    obtain ⟨rfl, -⟩ := vwAt hr dy e2
    exact h1 pins s σ H _ _ v u Q I rx ry ⟨_, _, rfl, rfl, post_ok po hr⟩
  · rename_i e1 e2
    obtain ⟨rfl, -, -⟩ := vwAt hr dx e1
    obtain ⟨rfl, -, -⟩ := vwAt hr dy e2
    exact h2 pins s σ H _ _ v u Q I rx ry ⟨_, _, rfl, rfl, post_ok po hr⟩
  · exact po.elim
theorem post_not {Q : Bool → Rz → Hp → PH → Prop} {m : M Bool} (n : NX m) (h : Post Γ W ρ H Q (notM m ph)) : ∃ b h', m ph = .ok b h' ∧ Post Γ W ρ H Q (.ok (!b) h') := by
  unfold notM at h
  cases e : m ph with
  | ok b h' =>
    rw [e] at h
    exact ⟨b, h', rfl, h⟩
  | exc e1 h' => exact absurd e (n _ _ _)
  | stuck =>
    rw [e] at h
    exact h.elim
theorem dec_str {a b : Str} : decide (V.str a = V.str b) = decide (a = b) := by
  by_cases e : a = b
  · rw [decide_eq_true e, decide_eq_true (congrArg V.str e)]
  · rw [decide_eq_false e, decide_eq_false fun z => e (by cases z; rfl)]
theorem eq_ok (hK : X.K = Γ.K) (hu : X.A.units + 64 < cLine) : OpC Γ X (compareOp .Eq) eqS := by
  intro pins s σ H ρ ph x y v u p q Q I rx ry hr dx dy po
  unfold eqS at po
  split at po
  · cases dx
    cases dy
    exact op_eq pins s σ H _ _ v u Q I rx ry ⟨rfl, by rw [dec_str]; exact post_ok po hr⟩
  · split at po
    · rename_i d e e1 e2
      obtain ⟨hz, po⟩ := post_if po
      obtain ⟨z1, z2⟩ := Bool.and_eq_true_iff.mp hz
      obtain ⟨as, r1, _⟩ := den_reads hK I hr 70 x _ v d dx rx e1
      obtain ⟨bs, r2, _⟩ := den_reads hK I hr 70 y _ u e dy ry e2
      exact SeqAt.compareEq_shaped r1 r2 z1 z2 hu ⟨.bl _, H, I, rfl, post_ok po hr⟩
    · exact po.elim
theorem ne_ok (hK : X.K = Γ.K) (hu : X.A.units + 64 < cLine) : OpC Γ X (compareOp .NotEq) fun x y => notM (eqS x y) := by
  intro pins s σ H ρ ph x y v u p q Q I rx ry hr dx dy po
  obtain ⟨b, h', e0, po⟩ := post_not (nx_eq p q) po
  unfold eqS at e0
  split at e0
  · cases e0
    cases dx
    cases dy
    exact op_ne pins s σ H _ _ v u Q I rx ry ⟨rfl, by rw [dec_str]; exact post_ok po hr⟩
  · split at e0
    · rename_i d e e1 e2
      split at e0
      · rename_i hz
        cases e0
        obtain ⟨z1, z2⟩ := Bool.and_eq_true_iff.mp hz
        obtain ⟨as, r1, _⟩ := den_reads hK I hr 70 x _ v d dx rx e1
        obtain ⟨bs, r2, _⟩ := den_reads hK I hr 70 y _ u e dy ry e2
        exact SeqAt.compareNe_shaped r1 r2 z1 z2 hu ⟨.bl _, H, I, rfl, post_ok po hr⟩
      · cases e0
    · cases e0
theorem isNon_of {x : V} {p : PV} (d : Den Γ.K ρ H x p) : decide (x = .non) = isNon p := by
  cases d <;> first | rfl | exact decide_eq_false fun z => nomatch z
theorem isn_ok : OpC Γ X (compareOp .Is) isNoneS := by
  intro pins s σ H ρ ph x y v u p q Q I rx ry hr dx dy po
  unfold isNoneS at po
  split at po
  · rename_i e1
    obtain ⟨rfl, -⟩ := vwAt hr dy e1
    exact op_isN pins s σ H _ _ v u Q I rx ry ⟨rfl, by rw [isNon_of dx]; exact post_ok po hr⟩
  · exact po.elim
theorem notn_ok : OpC Γ X (compareOp .IsNot) fun x y => notM (isNoneS x y) := by
  intro pins s σ H ρ ph x y v u p q Q I rx ry hr dx dy po
  obtain ⟨b, h', e0, po⟩ := post_not (nx_isn p q) po
  unfold isNoneS at e0
  split at e0
  · rename_i e1
    cases e0
    obtain ⟨rfl, -⟩ := vwAt hr dy e1
    exact op_notN pins s σ H _ _ v u Q I rx ry ⟨rfl, by rw [isNon_of dx]; exact post_ok po hr⟩
  · cases e0
theorem look_val {K : PySem.W.Frag} : ∀ {vs : List (Key × V)} {xs : List (Key × PV)} (k : Key), DenK K ρ H vs xs → (∀ v, lookK xs k = some v → ∃ x, valV vs k = some x ∧ Den K ρ H x v) ∧ (valV vs k).isSome = (lookK xs k).isSome
  | _, _, k, .nil => ⟨fun v h => (by cases h), rfl⟩
  | _, _, k, .cons (k := k') (v := v') (x := x') (vs := vs) (xs := xs) d r => by
    by_cases e : k' = k
    · have e1 : lookK ((k', x') :: xs) k = some x' := by simp [lookK, List.find?_cons, e]
      rw [valV_pos (p := (k', v')) e, e1]
      exact ⟨fun v h => ⟨v', rfl, by cases h; exact d⟩, rfl⟩
    · have e1 : lookK ((k', x') :: xs) k = lookK xs k := by simp [lookK, List.find?_cons, e]
      rw [valV_neg (p := (k', v')) e, e1]
      exact look_val k r
theorem dget_of {a : Addr} {vs : List (Key × V)} {lk : Bool} (k : Key) (h : (lk = false ∧ H a = some (.dK vs)) ∨ ∃ o, lk = true ∧ H a = some (.frz o (.dK vs))) : DGet H a (kV k) (valV vs k) := by
  rcases h with ⟨_, h⟩ | ⟨o, _, h⟩
  · exact .inl ⟨vs, k, .inl h, rfl, rfl⟩
  · exact .inl ⟨vs, k, .inr ⟨o, h⟩, rfl, rfl⟩
theorem in_ok (hu : X.A.units + 64 < cLine) : OpC Γ X (compareOp .In) inS := by
  intro pins s σ H ρ ph x y v u p q Q I rx ry hr dx dy po
  have hu1 : X.A.units + 1 < cLine := by omega
  unfold inS at po
  split at po
  · rename_i e1 e2
    obtain ⟨rfl, -, -⟩ := vwAt hr dy e1
    obtain ⟨rfl, -, -⟩ := vwAt hr dx e2
    exact op_in_str pins s σ H _ _ v u Q I rx ry ⟨_, _, rfl, rfl, post_ok po hr⟩
  · rename_i e1 e2
    obtain ⟨a, vs, rfl, h, r, -⟩ := vwAt hr dy e1
    obtain ⟨rfl, -⟩ := vwAt hr dx e2
    cases ry
    refine d_in hu1 I (dget_of (.inl _) h) rx fun s3 I3 => ⟨.bl _, H, I3, rfl, ?_⟩
    rw [(look_val _ r).2]
    exact post_ok po hr
  · rename_i e1 e2
    obtain ⟨a, vs, rfl, h, r, -⟩ := vwAt hr dy e1
    obtain ⟨rfl, -, -⟩ := vwAt hr dx e2
    cases ry
    refine d_in hu1 I (dget_of (.inr _) h) rx fun s3 I3 => ⟨.bl _, H, I3, rfl, ?_⟩
    rw [(look_val _ r).2]
    exact post_ok po hr
  · exact po.elim
theorem notin_ok (hu : X.A.units + 64 < cLine) : OpC Γ X (compareOp .NotIn) fun x y => notM (inS x y) := by
  intro pins s σ H ρ ph x y v u p q Q I rx ry hr dx dy po
  have hu1 : X.A.units + 1 < cLine := by omega
  obtain ⟨b, h', e0, po⟩ := post_not (nx_in p q) po
  unfold inS at e0
  split at e0
  · rename_i e1 e2
    cases e0
    obtain ⟨rfl, -, -⟩ := vwAt hr dy e1
    obtain ⟨rfl, -, -⟩ := vwAt hr dx e2
    exact op_notIn_str pins s σ H _ _ v u Q I rx ry ⟨_, _, rfl, rfl, post_ok po hr⟩
  · rename_i e1 e2
    cases e0
    obtain ⟨a, vs, rfl, h, r, -⟩ := vwAt hr dy e1
    obtain ⟨rfl, -⟩ := vwAt hr dx e2
    cases ry
    refine d_notIn hu1 I (dget_of (.inl _) h) rx fun s3 I3 => ⟨.bl _, H, I3, rfl, ?_⟩
    rw [(look_val _ r).2]
    exact post_ok po hr
  · rename_i e1 e2
    cases e0
    obtain ⟨a, vs, rfl, h, r, -⟩ := vwAt hr dy e1
    obtain ⟨rfl, -, -⟩ := vwAt hr dx e2
    cases ry
    refine d_notIn hu1 I (dget_of (.inr _) h) rx fun s3 I3 => ⟨.bl _, H, I3, rfl, ?_⟩
    rw [(look_val _ r).2]
    exact post_ok po hr
  · cases e0
theorem cmp_ok (hK : X.K = Γ.K) (hu : X.A.units + 64 < cLine) (op : CmpOp) : OpC Γ X (compareOp op) (cmpS op) := by
  cases op
  case Lt => exact ord_ok (f := fun i j => decide (i < j)) (g := fun x y => decide (x < y)) op_lt op_lt_str
  case LtE => exact ord_ok (f := fun i j => decide (i ≤ j)) (g := fun x y => !decide (y < x)) op_le op_le_str
  case Gt => exact ord_ok (f := fun i j => decide (j < i)) (g := fun x y => decide (y < x)) op_gt op_gt_str
  case GtE => exact ord_ok (f := fun i j => decide (j ≤ i)) (g := fun x y => !decide (x < y)) op_ge op_ge_str
  case Eq => exact eq_ok hK hu
  case NotEq => exact ne_ok hK hu
  case Is => exact isn_ok
  case IsNot => exact notn_ok
  case In => exact in_ok hu
  case NotIn => exact notin_ok hu

/-! ### items -/
theorem denL_atI {K : PySem.W.Frag} {vs : List V} {xs : List PV} (r : DenL K ρ H vs xs) {i : Int} {p : PV} (h : atI xs i = some p) : ∃ x, atI vs i = some x ∧ Den K ρ H x p := by
  unfold atI at h ⊢
  rw [r.length]
  cases e : ixN xs.length i with
  | none =>
    rw [e] at h
    cases h
  | some j =>
    rw [e] at h
    exact r.get h
theorem ix_ok (hK : X.K = Γ.K) (hu : X.A.units + 64 < cLine) {value slice : Expr} {x y : V} {v u : Value} {p q : PV} {Q : VK} (I : Inv X pins σ H s) (rx : RelV x v) (ry : RelV y u) (hr : HR Γ ρ H ph) (dx : Den Γ.K ρ H x p) (dy : Den Γ.K ρ H y q)
    (po : Post Γ W0 ρ H (Qv Γ Q) (subS p q ph)) (hs : subscripted slice false v u = operate [v, u] (getItem v u)) : wpAny (model X.prog X.w) X.A (subscriptTail value slice v u) (EP X pins σ Q) X.xe s := by
  have hu1 : X.A.units + 1 < cLine := by omega
  have dct : ∀ {a : Addr} {vs : List (Key × V)} {kvs : List (Key × PV)} {lk : Bool} {k : Key}, x = .ref a → ((lk = false ∧ H a = some (.dK vs)) ∨ ∃ o, lk = true ∧ H a = some (.frz o (.dK vs))) → DenK Γ.K ρ H vs kvs → y = kV k →
      Post Γ W0 ρ H (Qv Γ Q) (R.opt ph (lookK kvs k)) → wpAny (model X.prog X.w) X.A (subscriptTail value slice v u) (EP X pins σ Q) X.xe s := by
    intro a vs kvs lk k e h r ey po
    subst e ey
    obtain ⟨p1, e3, po⟩ := post_opt po
    obtain ⟨x1, e4, d1⟩ := (look_val k r).1 p1 e3
    cases rx
    have g : DGet H a (kV k) (some x1) := e4 ▸ dget_of k h
    exact tail_any (ops := [.ref a, u]) (dict_typeIs I g) PySem.F.slot_dict_getitem.lookup (d_getItem hu1 I g ry fun w' s3 I3 rw' => ⟨x1, H, I3, rw', post_val po hr d1⟩) hs
  unfold subS at po
  split at po
  · rename_i e1 e2
    obtain ⟨a, vs, rfl, -, f, r⟩ := vwAt hr dx e1
    obtain ⟨rfl, -⟩ := vwAt hr dy e2
    obtain ⟨p1, e3, po⟩ := post_opt po
    obtain ⟨x1, e4, d1⟩ := denL_atI r e3
    exact ix_tup value slice pins s σ H _ _ v u Q I rx ry ⟨a, vs, _, x1, rfl, rfl, hK ▸ f.sq, e4, post_val po hr d1⟩ hs
  · rename_i e1 e2
    obtain ⟨a, vs, rfl, f, r, -⟩ := vwAt hr dx e1
    obtain ⟨rfl, -⟩ := vwAt hr dy e2
    obtain ⟨p1, e3, po⟩ := post_opt po
    obtain ⟨x1, e4, d1⟩ := denL_atI r e3
    exact ix_list value slice pins s σ H _ _ v u Q I rx ry ⟨a, vs, _, x1, rfl, rfl, hK ▸ f, e4, post_val po hr d1⟩ hs
  · rename_i e1 e2
    obtain ⟨rfl, -, hz⟩ := vwAt hr dx e1
    obtain ⟨rfl, -⟩ := vwAt hr dy e2
    obtain ⟨p1, e3, po⟩ := post_opt po
    obtain ⟨c, e4, rfl⟩ := map_some e3
    exact ix_str value slice pins s σ H _ _ v u Q I rx ry ⟨_, _, c, rfl, rfl, hz, e4, post_val po hr (.str _ (by show 1 ≤ sizeLine; decide))⟩ hs
  · rename_i e1 e2
    obtain ⟨a, vs, e, h, r, -⟩ := vwAt hr dx e1
    obtain ⟨ey, -⟩ := vwAt hr dy e2
    exact dct (k := .inl _) e h r ey po
  · rename_i e1 e2
    obtain ⟨a, vs, e, h, r, -⟩ := vwAt hr dx e1
    obtain ⟨ey, -, -⟩ := vwAt hr dy e2
    exact dct (k := .inr _) e h r ey po
  · exact po.elim

/-! ### slices -/
theorem denL_cut {K : PySem.W.Frag} {vs : List V} {xs : List PV} (r : DenL K ρ H vs xs) (lo hi : Option Int) : DenL K ρ H (cutV vs lo hi) (cutL xs lo hi) := by
  unfold cutV cutL
  rw [r.length]
  exact (r.drop _).take _
theorem cutL_all {α : Type} {xs : List α} {lo hi : Option Int} (h : HT.sIx xs.length 0 lo = 0 ∧ HT.sIx xs.length xs.length hi = xs.length) : cutL xs lo hi = xs := by
  unfold cutL
  rw [h.1, h.2]
  simp
theorem cutS_len (z : Str) (lo hi : Option Int) : (cutS z lo hi).length ≤ z.length := by
  unfold cutS
  show ((z.cps.toList.drop _).take _).toArray.size ≤ z.cps.size
  rw [List.size_toArray, List.length_take, List.length_drop, Array.length_toList]
  omega
theorem sl_ok (hK : X.K = Γ.K) (fz : Bool) {lo hi : Option Int} {x : V} {p : PV} {v vl vu : Value} {sl : Addr} {Q : VK} (I : Inv X pins σ H s) (rx : RelV x v) (hs : s.heap.IsSliceOf sl vl vu .none) (pl : IsPart vl lo) (pu : IsPart vu hi)
    (hr : HR Γ ρ H ph) (dx : Den Γ.K ρ H x p) (po : Post Γ W0 ρ H (Qv Γ Q) (slS fz p lo hi ph)) :
    ∃ T id, typeLookup (.type T) "__getitem__" = pure (some (.builtin id)) ∧ s.TypeIs v T ∧ wpAny (model X.prog X.w) X.A (getItem v (.ref sl)) (EP X pins σ Q) X.xe s := by
  unfold slS at po
  split at po
  · rename_i e1
    obtain ⟨rfl, -, hz⟩ := vwAt hr dx e1
    exact sl_str pins s σ H _ v vl vu lo hi sl Q I rx hs pl pu ⟨_, rfl, hz, post_val po hr (.str _ (Nat.le_trans (cutS_len _ _ _) hz))⟩
  · rename_i e1
    obtain ⟨a, vs, rfl, -, f, r⟩ := vwAt hr dx e1
    refine sl_tupA pins s σ H _ v vl vu lo hi sl Q I rx hs pl pu ⟨a, vs, rfl, hK ▸ f.sq, fun h => ?_, fun _ => post_tup po hr (denL_cut r lo hi)⟩
    rw [r.length] at h
    rw [cutL_all h] at po
    exact post_val po hr (.tup f r)
  · rename_i e1
    obtain ⟨a, vs, rfl, f, r, -⟩ := vwAt hr dx e1
    obtain ⟨_, q⟩ := post_fresh po hr (denL_cut r lo hi)
    exact sl_list pins s σ H _ v vl vu lo hi sl Q I rx hs pl pu ⟨a, vs, rfl, hK ▸ f, q⟩
  · exact po.elim
end
end Rk

set_option Elab.async false
set_option linter.all false
set_option maxRecDepth 100000
set_option maxHeartbeats 1000000
/-! RkG: built-in functions and methods by values. -/
namespace Rk
open PySem PySem.Spec L2

section
variable {Γ : GI} {X : Cx} {W : PX → Rz → Hp → Prop} {ρ : Rz} {H : Hp} {ph : PH} {pins : List (Addr × Obj)} {σ : L2.St} {s : Shared}
/-- a call of f by values is op -/
def CallS (Γ : GI) (X : Cx) (f : Value) (op : List PV → M PV) : Prop :=
  ∀ (pins : List (Addr × Obj)) (s : Shared) (σ : L2.St) (H : Hp) (ρ : Rz) (ph : PH) (xs : List V) (us : List Value) (ps : List PV) (Q : VK), Inv X pins σ H s → Vals xs us →
    HR Γ ρ H ph → DenL Γ.K ρ H xs ps → Post Γ W0 ρ H (Qv Γ Q) (op ps ph) → wpAny (model X.prog X.w) X.A (call f us) (EP X pins σ Q) X.xe s
def Pr.nm : Pr → Str
  | .len => "len" | .min2 => "min" | .max2 => "max" | .abs => "abs" | .repr => "repr" | .all => "all" | .any => "any" | .str => "str" | .int => "int" | .bool => "bool" | .tuple => "tuple" | .list => "list" | .sum => "sum" | .sorted => "sorted"
def Pr.fn : Pr → Value
  | .len => .builtin "len" | .min2 => .builtin "min" | .max2 => .builtin "max" | .abs => .builtin "abs" | .repr => .builtin "repr" | .all => .builtin "all" | .any => .builtin "any" | .str => .type "str" | .int => .type "int" | .bool => .type "bool"
  | .tuple => .type "tuple" | .list => .type "list" | .sum => .builtin "sum" | .sorted => .builtin "sorted"
theorem nx_pr1 (fz : Bool) (p : Pr) (x : PV) : NX (pr1 fz p x) := fun h e h' z => by
  cases p
  case len =>
    have z : lenS x h = .exc e h' := z
    unfold lenS at z
    repeat' split at z
    all_goals cases z
  case repr =>
    have z : reprS x h = .exc e h' := z
    unfold reprS at z
    repeat' split at z
    all_goals cases z
  case abs =>
    have z : absS x h = .exc e h' := z
    unfold absS at z
    repeat' split at z
    all_goals cases z
  case all =>
    have z : allS x h = .exc e h' := z
    unfold allS at z
    split at z
    · exact nx_opt z
    · cases z
  case any =>
    have z : anyS x h = .exc e h' := z
    unfold anyS at z
    split at z
    · exact nx_opt z
    · cases z
  case str =>
    have z : strS x h = .exc e h' := z
    unfold strS at z
    repeat' split at z
    all_goals cases z
  case int =>
    have z : intS x h = .exc e h' := z
    unfold intS at z
    split at z <;> cases z
  case bool =>
    have z : boolS x h = .exc e h' := z
    unfold boolS at z
    repeat' split at z
    all_goals cases z
  case tuple =>
    have z : tupleS x h = .exc e h' := z
    unfold tupleS at z
    split at z <;> cases z
  case list =>
    have z : listS fz x h = .exc e h' := z
    unfold listS at z
    split at z
    · exact nx_fresh _ _ _ _ _ z
    · exact nx_fresh _ _ _ _ _ z
    · cases z
  all_goals cases z
theorem nx_pr2 (p : Pr) (x y : PV) : NX (pr2 p x y) := by
  cases p
  all_goals first
    | exact nx_int2 _ _
    | exact NX.stuck
theorem nx_prim (fz : Bool) (p : Pr) (xs : List PV) : NX (primS fz p xs) := by
  unfold primS
  split
  · exact nx_pr1 _ _ _
  · exact nx_pr2 _ _ _
  · exact NX.stuck
theorem denL_bl {K : PySem.W.Frag} : ∀ {vs : List V} {xs : List PV} {bs : List Bool}, DenL K ρ H vs xs → allBl xs = some bs → vs = bs.map V.bl
  | _, [], bs, .nil, e => by
    cases e
    rfl
  | _, .bl b :: xs, bs, .cons d r, e => by
    obtain ⟨cs, e1, rfl⟩ := map_some (show (allBl xs).map (b :: ·) = some bs from e)
    cases d
    rw [denL_bl r e1]
    rfl
theorem denL_str {K : PySem.W.Frag} : ∀ {vs : List V} {xs : List PV} {bs : List Str}, DenL K ρ H vs xs → allStr xs = some bs → vs = bs.map V.str
  | _, [], bs, .nil, e => by
    cases e
    rfl
  | _, .str b :: xs, bs, .cons d r, e => by
    obtain ⟨cs, e1, rfl⟩ := map_some (show (allStr xs).map (b :: ·) = some bs from e)
    cases d
    rw [denL_str r e1]
    rfl
theorem tru_val (hK : X.K = Γ.K) (hr : HR Γ ρ H ph) {x : V} {p : PV} (d : Den Γ.K ρ H x p) {Q : Bool → Rz → Hp → PH → Prop} (po : Post Γ W ρ H Q (truS p ph)) : ∃ b, TruV X.K x H b ∧ Q b ρ H ph := by
  unfold truS at po
  split at po
  · rename_i e1
    obtain ⟨rfl, -⟩ := vwAt hr d e1
    exact ⟨_, rfl, post_ok po hr⟩
  · rename_i e1
    obtain ⟨rfl, -⟩ := vwAt hr d e1
    exact ⟨_, rfl, post_ok po hr⟩
  · rename_i e1
    obtain ⟨rfl, -⟩ := vwAt hr d e1
    exact ⟨_, rfl, post_ok po hr⟩
  · rename_i e1
    obtain ⟨rfl, -, hz⟩ := vwAt hr d e1
    exact ⟨_, ⟨hz, rfl⟩, post_ok po hr⟩
  · rename_i xs e1
    obtain ⟨a, vs, rfl, -, f, r⟩ := vwAt hr d e1
    have e : (!vs.isEmpty) = !xs.isEmpty := by cases r <;> rfl
    exact ⟨_, .inr (.inl ⟨vs, hK ▸ f.sq, rfl⟩), by rw [e]; exact post_ok po hr⟩
  · rename_i xs e1
    obtain ⟨a, vs, rfl, f, r, -⟩ := vwAt hr d e1
    have e : (!vs.isEmpty) = !xs.isEmpty := by cases r <;> rfl
    exact ⟨_, .inl ⟨vs, hK ▸ f, rfl⟩, by rw [e]; exact post_ok po hr⟩
  · rename_i xs e1
    obtain ⟨a, vs, rfl, h, r, -⟩ := vwAt hr d e1
    have e : (!vs.isEmpty) = !xs.isEmpty := by cases r <;> rfl
    rcases h with ⟨_, h⟩ | ⟨_, z, _⟩
    · exact ⟨_, .inr (.inr ⟨vs, h, rfl⟩), by rw [e]; exact post_ok po hr⟩
    · cases z
  · exact po.elim
theorem lenV_of (hK : X.K = Γ.K) (hr : HR Γ ρ H ph) {x : V} {p : PV} (d : Den Γ.K ρ H x p) {Q : VK} (hd : ∀ lk kvs, view ph p ≠ .dct lk kvs) (po : Post Γ W ρ H (Qv Γ Q) (lenS p ph)) : ∃ n : Nat, LenV X.K x H n ∧ Q (.int n) H := by
  unfold lenS at po
  split at po
  · rename_i e1
    obtain ⟨rfl, -, hz⟩ := vwAt hr d e1
    exact ⟨_, ⟨hz, rfl⟩, post_val po hr (.int _)⟩
  · rename_i xs e1
    obtain ⟨a, vs, rfl, -, f, r⟩ := vwAt hr d e1
    exact ⟨_, .inr ⟨vs, hK ▸ f.sq, rfl⟩, by rw [r.length]; exact post_val po hr (.int _)⟩
  · rename_i xs e1
    obtain ⟨a, vs, rfl, f, r, -⟩ := vwAt hr d e1
    exact ⟨_, .inl ⟨vs, hK ▸ f, rfl⟩, by rw [r.length]; exact post_val po hr (.int _)⟩
  · rename_i e1
    exact absurd e1 (hd _ _)
  · exact po.elim
theorem repr_ok (hK : X.K = Γ.K) (hg : X.A.guards = some []) (hu : X.A.units + 80 < cLine) {x : V} {p : PV} {u : Value} {Q : VK} (I : Inv X pins σ H s) (rx : RelV x u) (hr : HR Γ ρ H ph) (dx : Den Γ.K ρ H x p)
    (po : Post Γ W0 ρ H (Qv Γ Q) (reprS p ph)) : wpAny (model X.prog X.w) X.A (call (.builtin "repr") [u]) (EP X pins σ Q) X.xe s := by
  unfold reprS at po
  split at po
  · rename_i d e
    obtain ⟨hz, po⟩ := post_if po
    unfold reprOk at hz
    obtain ⟨z1, hz⟩ := Bool.and_eq_true_iff.mp hz
    obtain ⟨z2, hz⟩ := Bool.and_eq_true_iff.mp hz
    obtain ⟨z3, z4⟩ := Bool.and_eq_true_iff.mp hz
    have z2 := of_decide_eq_true z2
    have z3 := of_decide_eq_true z3
    have q : Q (.str d.shown) H := post_val po hr (.str _ z3)
    obtain ⟨as, r, hn⟩ := den_reads hK I hr 70 x p u d dx rx e
    cases r with
    | none => exact PySem.P.repr_of_none ⟨.str _, H, I.tok _, ⟨_, rfl⟩, q⟩
    | bool b => exact PySem.P.repr_of_bool ⟨.str _, H, I.tok _, ⟨_, rfl⟩, by simpa only [PyData.shown] using q⟩
    | int i t => exact PySem.P.repr_of_int (by simpa [PyData.showable] using z1) ⟨.str _, H, I.tok _, ⟨_, rfl⟩, by simpa only [PyData.shown] using q⟩
    | str z t => exact PySem.P.repr_of_str (hsz := by simpa only [PyData.shown] using z3) ⟨.str _, H, I.tok _, ⟨_, rfl⟩, by simpa only [PyData.shown] using q⟩
    | list h1 h2 h3 h4 =>
      refine repr_of_reads' (.list h1 h2 h3 h4) z1 (fun hd => ?_) hg (by omega) (fun _ _ e => e) (fun h' u tk hk => ⟨.str _, H, I.kept hk, ⟨_, rfl⟩, q⟩) z3
      rw [hd] at z4
      have nl := hn (by simpa using z4)
      exact fun m => nl _ m rfl
    | tuple h1 h2 h3 h4 =>
      refine repr_of_reads' (.tuple h1 h2 h3 h4) z1 (fun hd => ?_) hg (by omega) (fun _ _ e => e) (fun h' u tk hk => ⟨.str _, H, I.kept hk, ⟨_, rfl⟩, q⟩) z3
      rw [hd] at z4
      have nl := hn (by simpa using z4)
      exact fun m => nl _ m rfl
    | dict h1 h2 h3 h4 h5 =>
      refine repr_of_reads' (.dict h1 h2 h3 h4 h5) z1 (fun hd => ?_) hg (by omega) (fun _ _ e => e) (fun h' u tk hk => ⟨.str _, H, I.kept hk, ⟨_, rfl⟩, q⟩) z3
      rw [hd] at z4
      have nl := hn (by simpa using z4)
      exact fun m => nl _ m rfl
  · exact po.elim
theorem log2_len {i : Int} (h : i.natAbs.log2 < 1920) : (Str.ofString (toString i)).length ≤ sizeLine := int_text_fits h
theorem int2_call {c : Int → Int → Bool} {g : Int → Int → Int} {f : Value} (ho : CallR X f fun xs H Q => ∃ i j, xs = [.int i, .int j] ∧ Q (.int (g i j)) H) {x y : V} {p q : PV} {us : List Value} {Q : VK} (I : Inv X pins σ H s) (rs : Vals [x, y] us) (hr : HR Γ ρ H ph) (dx : Den Γ.K ρ H x p) (dy : Den Γ.K ρ H y q)
    (po : Post Γ W0 ρ H (Qv Γ Q) (int2 c g p q ph)) : wpAny (model X.prog X.w) X.A (call f us) (EP X pins σ Q) X.xe s := by
  unfold int2 at po
  split at po
  · rename_i e1 e2
    obtain ⟨hz, po⟩ := post_if po
    obtain ⟨rfl, -⟩ := vwAt hr dx e1
    obtain ⟨rfl, -⟩ := vwAt hr dy e2
    exact ho pins s σ H _ us Q I rs ⟨_, _, rfl, post_val po hr (.int _)⟩
  · exact po.elim
theorem pr1_ok (hK : X.K = Γ.K) (hc : X.calm = true) (hg : X.A.guards = some []) (hu : X.A.units + 80 < cLine) (fz : Bool) (pr : Pr) {x : V} {p : PV} {us : List Value} {Q : VK} (I : Inv X pins σ H s) (rs : Vals [x] us) (hr : HR Γ ρ H ph) (dx : Den Γ.K ρ H x p)
    (po : Post Γ W0 ρ H (Qv Γ Q) (pr1 fz pr p ph)) : wpAny (model X.prog X.w) X.A (call pr.fn us) (EP X pins σ Q) X.xe s := by
  cases pr
  case len =>
    have po : Post Γ W0 ρ H (Qv Γ Q) (lenS p ph) := po
    by_cases hd : ∃ lk kvs, view ph p = .dct lk kvs
    · obtain ⟨lk, kvs, e⟩ := hd
      unfold lenS at po
      rw [e] at po
      obtain ⟨a, vs, rfl, h, r, -⟩ := vwAt hr dx e
      cases lk with
      | true => exact po.elim
      | false =>
        rcases h with ⟨_, h⟩ | ⟨_, z, _⟩
        · exact call_lenD pins s σ H _ us Q I rs ⟨a, vs, rfl, h, by rw [r.length]; exact post_val po hr (.int _)⟩
        · cases z
    · obtain ⟨n, e, q⟩ := lenV_of hK hr dx (fun lk kvs e => hd ⟨lk, kvs, e⟩) po
      exact call_len pins s σ H _ us Q I rs ⟨x, n, rfl, e, q⟩
  case repr =>
    obtain ⟨u, rfl, rx⟩ := vals1 rs
    exact repr_ok hK hg hu I rx hr dx po
  case abs =>
    have po : Post Γ W0 ρ H (Qv Γ Q) (absS p ph) := po
    unfold absS at po
    split at po
    · rename_i e1
      obtain ⟨rfl, -⟩ := vwAt hr dx e1
      exact call_abs pins s σ H _ us Q I rs ⟨_, rfl, post_val po hr (.int _)⟩
    · exact po.elim
  case all =>
    have po : Post Γ W0 ρ H (Qv Γ Q) (allS p ph) := po
    unfold allS at po
    split at po
    · rename_i e1
      obtain ⟨a, vs, rfl, f, r, -⟩ := vwAt hr dx e1
      obtain ⟨_, e2, po⟩ := post_opt po
      obtain ⟨bs, e3, rfl⟩ := map_some e2
      have e4 := denL_bl r e3
      subst e4
      exact cr_all hc pins s σ H _ us Q I rs ⟨a, bs, rfl, hK ▸ f, post_val po hr (.bl _)⟩
    · exact po.elim
  case any =>
    have po : Post Γ W0 ρ H (Qv Γ Q) (anyS p ph) := po
    unfold anyS at po
    split at po
    · rename_i e1
      obtain ⟨a, vs, rfl, f, r, -⟩ := vwAt hr dx e1
      obtain ⟨_, e2, po⟩ := post_opt po
      obtain ⟨bs, e3, rfl⟩ := map_some e2
      have e4 := denL_bl r e3
      subst e4
      exact cr_any hc pins s σ H _ us Q I rs ⟨a, bs, rfl, hK ▸ f, post_val po hr (.bl _)⟩
    · exact po.elim
  case str =>
    have po : Post Γ W0 ρ H (Qv Γ Q) (strS p ph) := po
    unfold strS at po
    split at po
    · rename_i e1
      obtain ⟨hz, po⟩ := post_if po
      obtain ⟨rfl, -⟩ := vwAt hr dx e1
      exact call_str_int pins s σ H _ us Q I rs ⟨_, rfl, hz, post_val po hr (.str _ (log2_len hz))⟩
    · exact po.elim
  case int =>
    have po : Post Γ W0 ρ H (Qv Γ Q) (intS p ph) := po
    unfold intS at po
    split at po
    · rename_i e1
      obtain ⟨rfl, -⟩ := vwAt hr dx e1
      exact call_int1 pins s σ H _ us Q I rs (.inl ⟨_, rfl, post_val po hr (.int _)⟩)
    · rename_i e1
      obtain ⟨rfl, -⟩ := vwAt hr dx e1
      exact call_int1 pins s σ H _ us Q I rs (.inr ⟨_, rfl, post_val po hr (.int _)⟩)
    · exact po.elim
  case bool =>
    have po : Post Γ W0 ρ H (Qv Γ Q) (boolS p ph) := po
    unfold boolS at po
    split at po
    · rename_i e1
      obtain ⟨rfl, -⟩ := vwAt hr dx e1
      exact call_bool1 pins s σ H _ us Q I rs (.inl ⟨_, rfl, post_val po hr (.bl _)⟩)
    · rename_i e1
      obtain ⟨rfl, -⟩ := vwAt hr dx e1
      exact call_bool1 pins s σ H _ us Q I rs (.inr ⟨_, rfl, post_val po hr (.bl _)⟩)
    · exact po.elim
  case tuple =>
    have po : Post Γ W0 ρ H (Qv Γ Q) (tupleS p ph) := po
    unfold tupleS at po
    split at po
    · rename_i e1
      obtain ⟨a, vs, rfl, -, f, r⟩ := vwAt hr dx e1
      exact call_tuple_of pins s σ H _ us Q I rs ⟨a, vs, rfl, .inr ⟨hK ▸ f.sq, post_val po hr (.tup f r)⟩⟩
    · rename_i e1
      obtain ⟨a, vs, rfl, f, r, -⟩ := vwAt hr dx e1
      exact call_tuple_of pins s σ H _ us Q I rs ⟨a, vs, rfl, .inl ⟨hK ▸ f, post_tup po hr r⟩⟩
    · exact po.elim
  case list =>
    have po : Post Γ W0 ρ H (Qv Γ Q) (listS fz p ph) := po
    unfold listS at po
    split at po
    · rename_i e1
      obtain ⟨a, vs, rfl, -, f, r⟩ := vwAt hr dx e1
      exact call_list_of pins s σ H _ us Q I rs ⟨a, vs, rfl, .inr (hK ▸ f.sq), (post_fresh po hr r).2⟩
    · rename_i e1
      obtain ⟨a, vs, rfl, f, r, -⟩ := vwAt hr dx e1
      exact call_list_of pins s σ H _ us Q I rs ⟨a, vs, rfl, .inl (hK ▸ f), (post_fresh po hr r).2⟩
    · exact po.elim
  all_goals exact False.elim po
theorem prim_ok (hK : X.K = Γ.K) (hc : X.calm = true) (hg : X.A.guards = some []) (hu : X.A.units + 80 < cLine) (fz : Bool) (pr : Pr) : CallS Γ X pr.fn (primS fz pr) := by
  intro pins s σ H ρ ph xs us ps Q I rs hr dn po
  unfold primS at po
  split at po
  · cases dn with
    | cons d t =>
      cases t
      exact pr1_ok hK hc hg hu fz pr I rs hr d po
  · cases dn with
    | cons d t =>
      cases t with
      | cons d2 t =>
        cases t
        cases pr
        case min2 => exact int2_call (call_min2 hc) I rs hr d d2 po
        case max2 => exact int2_call (call_max2 hc) I rs hr d d2 po
        all_goals exact False.elim po
  · exact po.elim

open TL (joinL tl tl_join join_eq)
/-! ### methods -/
def Ty.nm : Ty → String
  | .int => "int" | .bool => "bool" | .str => "str" | .tuple => "tuple" | .list => "list" | .dict => "dict"
theorem kind_tyV (hK : X.K = Γ.K) (hr : HR Γ ρ H ph) {x : V} {p : PV} {t : Ty} (d : Den Γ.K ρ H x p) {Q : Unit → Rz → Hp → PH → Prop} (po : Post Γ W ρ H Q (kindS t p ph)) : tyV X.K t.nm x H ∧ Q () ρ H ph := by
  unfold kindS at po
  split at po
  · rename_i e1
    obtain ⟨c, po⟩ := post_if po
    obtain ⟨rfl, -⟩ := vwAt hr d e1
    exact ⟨by rw [c]; exact rfl, post_ok po hr⟩
  · rename_i e1
    obtain ⟨c, po⟩ := post_if po
    obtain ⟨a, vs, rfl, f, r, -⟩ := vwAt hr d e1
    exact ⟨by rw [c]; exact .inl ⟨rfl, vs, hK ▸ f⟩, post_ok po hr⟩
  · rename_i e1
    obtain ⟨c, po⟩ := post_if po
    obtain ⟨a, vs, rfl, h, r, -⟩ := vwAt hr d e1
    rcases h with ⟨_, h⟩ | ⟨_, z, _⟩
    · exact ⟨by rw [c]; exact .inr (.inr (.inl ⟨rfl, .inl ⟨vs, h⟩⟩)), post_ok po hr⟩
    · cases z
  · exact po.elim
def Mt.nm : Mt → Str
  | .append => "append" | .join => "join" | .reverse => "reverse" | .extend => "extend" | .insert => "insert" | .pop => "pop" | .popAt => "pop" | .index => "index" | .remove => "remove" | .get => "get" | .get2 => "get"
def Mt.id : Mt → String
  | .append => "list.append" | .join => "str.join" | .reverse => "list.reverse" | .extend => "list.extend" | .insert => "list.insert" | .pop => "list.pop" | .popAt => "list.pop" | .index => "list.index" | .remove => "list.remove" | .get => "dict.get" | .get2 => "dict.get"
theorem mt_pa (m : Mt) : PlainAttrs m.ty.nm := by
  cases m
  case append => exact PySem.F.plainAttrs_list
  case join => exact PySem.F.plainAttrs_str
  case reverse => exact PySem.F.plainAttrs_list
  case extend => exact PySem.F.plainAttrs_list
  case insert => exact PySem.F.plainAttrs_list
  case pop => exact PySem.F.plainAttrs_list
  case popAt => exact PySem.F.plainAttrs_list
  case index => exact PySem.F.plainAttrs_list
  case remove => exact PySem.F.plainAttrs_list
  case get => exact PySem.F.plainAttrs_dict
  case get2 => exact PySem.F.plainAttrs_dict
theorem mt_slot (m : Mt) : Slot m.ty.nm m.nm m.id := by
  cases m
  case append => exact PySem.F.slot_list_append
  case join => exact PySem.F.slot_str_join
  case reverse => exact PySem.F.slot_list_reverse
  case extend => exact PySem.F.slot_list_extend
  case insert => exact PySem.F.slot_list_insert
  case pop => exact PySem.F.slot_list_pop
  case popAt => exact PySem.F.slot_list_pop
  case index => exact PySem.F.slot_list_index
  case remove => exact PySem.F.slot_list_remove
  case get => exact PySem.F.slot_dict_get
  case get2 => exact PySem.F.slot_dict_get
theorem mt_type (m : Mt) : typeOf (.builtin m.id) = pure (.type "method_descriptor") := by
  cases m
  case append => exact PySem.F.type_list_append
  case join => exact PySem.F.type_str_join
  case reverse => exact PySem.F.type_list_reverse
  case extend => exact PySem.F.type_list_extend
  case insert => exact PySem.F.type_list_insert
  case pop => exact PySem.F.type_list_pop
  case popAt => exact PySem.F.type_list_pop
  case index => exact PySem.F.type_list_index
  case remove => exact PySem.F.type_list_remove
  case get => exact PySem.F.type_dict_get
  case get2 => exact PySem.F.type_dict_get
theorem nx_mth (fz : Bool) (m : Mt) (o : PV) (xs : List PV) : NX (mthS fz m o xs) := by
  unfold mthS
  split
  · intro h e h' z
    cases m
    case join =>
      rename_i x
      have z : joinS o x h = .exc e h' := z
      unfold joinS at z
      repeat' split at z
      all_goals cases z
    case append =>
      rename_i x
      have z : appendS o x h = .exc e h' := z
      unfold appendS at z
      repeat' split at z
      all_goals cases z
    all_goals cases z
  · exact NX.stuck
theorem joinL_len (S : List Nat) : ∀ ps : List (List Nat), (joinL S ps).length ≤ (ps.map (·.length)).sum + ps.length * S.length
  | [] => by simp [joinL]
  | [p] => by simp [joinL]
  | p :: q :: r => by
    have ih := joinL_len S (q :: r)
    simp only [joinL, List.length_append, List.map_cons, List.sum_cons, List.length_cons] at ih ⊢
    have e : (r.length + 1 + 1) * S.length = (r.length + 1) * S.length + S.length := Nat.succ_mul _ _
    omega
theorem joinTxt_len (a : Str) (ys : List Str) (h : (ys.map (·.length)).sum + ys.length * a.length ≤ sizeLine) : (Txt.join a ys).length ≤ sizeLine := by
  refine Nat.le_trans ?_ h
  rw [join_eq]
  have e := joinL_len (tl a) (ys.map tl)
  rw [← tl_join] at e
  have e1 : ∀ z : Str, (tl z).length = z.length := fun z => Array.length_toList
  rw [e1, e1, List.length_map, List.map_map] at e
  have e2 : (List.length ∘ tl) = fun z : Str => z.length := funext e1
  rw [e2] at e
  exact e
theorem mth_ok (hK : X.K = Γ.K) (fz : Bool) (m : Mt) {x : V} {p : PV} {v : Value} {xs : List V} {us : List Value} {ps : List PV} {Q : VK} (I : Inv X pins σ H s) (rx : RelV x v) (rs : Vals xs us) (hr : HR Γ ρ H ph) (dx : Den Γ.K ρ H x p) (ds : DenL Γ.K ρ H xs ps)
    (po : Post Γ W0 ρ H (Qv Γ Q) (mthS fz m p ps ph)) : wpAny (model X.prog X.w) X.A (call (.builtin m.id) (v :: us)) (EP X pins σ Q) X.xe s := by
  unfold mthS at po
  split at po
  · cases ds with
    | cons d t =>
      cases t
      cases m
      case join =>
        rename_i q y
        have po : Post Γ W0 ρ H (Qv Γ Q) (joinS p q ph) := po
        unfold joinS at po
        split at po
        · rename_i e1 e2
          obtain ⟨rfl, -, hz⟩ := vwAt hr dx e1
          obtain ⟨a, vs, rfl, f, r, -⟩ := vwAt hr d e2
          split at po
          · rename_i ys e3
            obtain ⟨c, po⟩ := post_if po
            have e4 := denL_str r e3
            subst e4
            exact mt_join pins s σ H _ _ v us Q I rx rs ⟨_, a, ys, rfl, rfl, .inl (hK ▸ f), c, post_val po hr (.str _ (joinTxt_len _ _ c))⟩
          · exact po.elim
        · rename_i e1 e2
          obtain ⟨rfl, -, hz⟩ := vwAt hr dx e1
          obtain ⟨a, vs, rfl, -, f, r⟩ := vwAt hr d e2
          split at po
          · rename_i ys e3
            obtain ⟨c, po⟩ := post_if po
            have e4 := denL_str r e3
            subst e4
            exact mt_join pins s σ H _ _ v us Q I rx rs ⟨_, a, ys, rfl, rfl, .inr (hK ▸ f.sq), c, post_val po hr (.str _ (joinTxt_len _ _ c))⟩
          · exact po.elim
        · exact po.elim
      case append =>
        rename_i q y
        have po : Post Γ W0 ρ H (Qv Γ Q) (appendS p q ph) := po
        unfold appendS at po
        split at po
        · rename_i n
          split at po
          · rename_i zs e1
            obtain ⟨c, po⟩ := post_if po
            obtain ⟨a, vs, rfl, f, r, h⟩ := vwAt hr dx e1
            rcases h with ⟨z, _⟩ | ⟨k, z, hn, hH⟩
            · cases z
            · cases z
              refine mt_append pins s σ H _ _ v us Q I rx rs ⟨a, vs, y, rfl, rfl, hH, by rw [r.length]; exact c, ?_⟩
              exact po ρ _ (Ext.set hn) (hr.set hn (.lst upd_same ((r.snoc d).ext (Ext.set hn)))) _ .non
          · exact po.elim
        · exact po.elim
      all_goals exact False.elim po
  · exact po.elim
end
end Rk

set_option Elab.async false
set_option linter.all false
set_option maxRecDepth 100000
set_option maxHeartbeats 1000000
/-! RkH: what is walked; comprehensions. -/
namespace Rk
open PySem PySem.Spec L2

section
variable {Γ : GI} {X : Cx} {ρ : Rz} {H : Hp} {ph : PH} {pins : List (Addr × Obj)} {σ : L2.St} {s : Shared} {tg : Expr} {R : It → Hp → Prop}
theorem it_list {a : Addr} {xs : List V} (I : Inv X pins σ H s) (hq : SqL X.K H a xs) (q : R (Itl X.K a) H) : wpAny (model X.prog X.w) X.A (pyIter (.ref a)) (PIE X pins σ tg R) X.xe s := by
  obtain ⟨its, rv, p, hz⟩ := I.list hq
  refine wpAny_pyIter_list p.isList ?_
  refine ⟨s.heap.objs.size, [s.heap.objs.size], _, _, H, rfl, I.kept (t' := s.toks) fun b o e => Heap.get?_push_of_some _ e, turn_list a _, ⟨_, Heap.get?_push_size _ rfl, rfl, rfl⟩, fun b hb => ?_, q⟩
  have e : b = s.heap.objs.size := by simpa using hb
  subst e
  exact I.fpOk (Nat.le_refl _) (I.hok.fresh (Nat.le_refl _))
theorem it_tup {a : Addr} {xs : List V} (I : Inv X pins σ H s) (hq : SqT X.K H a xs) (q : R (Itt X.K a) H) : wpAny (model X.prog X.w) X.A (pyIter (.ref a)) (PIE X pins σ tg R) X.xe s := by
  obtain ⟨its, rv, p, hz⟩ := I.tuple hq
  refine wpAny_pyIter_tuple (show s.heap.IsTuple a its.toArray from p) ?_
  refine ⟨s.heap.objs.size, [s.heap.objs.size], _, _, H, rfl, I.kept (t' := s.toks) fun b o e => Heap.get?_push_of_some _ e, turn_tuple a _, ⟨_, Heap.get?_push_size _ rfl, rfl, rfl⟩, fun b hb => ?_, q⟩
  have e : b = s.heap.objs.size := by simpa using hb
  subst e
  exact I.fpOk (Nat.le_refl _) (I.hok.fresh (Nat.le_refl _))
theorem it_str {x : Str} {t : Tok} (I : Inv X pins σ H s) (q : R (Its x) H) : wpAny (model X.prog X.w) X.A (pyIter (.str x t)) (PIE X pins σ tg R) X.xe s := by
  cases ha : x.cps.all (· < 128)
  · exact wpAny_pyIter_wide ha (pi_one (tk := s.toks) I _ (turn_str _ x t "str_iterator" (.inr rfl)) ⟨_, Heap.get?_push_size _ rfl, rfl, rfl⟩ q)
  · exact wpAny_pyIter_ascii ha (pi_one (tk := s.toks) I _ (turn_str _ x t "str_ascii_iterator" (.inl rfl)) ⟨_, Heap.get?_push_size _ rfl, rfl, rfl⟩ q)

/-- J walks what s is -/
structure JW (Γ : GI) (s : Sr) (J : It) (sd : Rz → Hp → Prop) : Prop where
  ext : ∀ ρ H ρ' H', sd ρ H → Ext ρ H ρ' H' → sd ρ' H'
  mov : ∀ ρ H ρ' H', sd ρ H → Mov ρ H ρ' H' → sd ρ' H'
  stop : ∀ ρ H ph i xs, HR Γ ρ H ph → sd ρ H → s.now ph = some xs → xs.length ≤ i → J.stop i H
  go : ∀ ρ H ph i xs p, HR Γ ρ H ph → sd ρ H → s.now ph = some xs → xs[i]? = some p → J.go i H ∧ ∀ x H', J.yld i H x H' → ∃ ρ', Ext ρ H ρ' H' ∧ HR Γ ρ' H' ph ∧ Den Γ.K ρ' H' x p
theorem jw_list {a : Addr} {vs : List V} {xs : List PV} : JW Γ (.fx xs) (Itl Γ.K a) fun ρ H => FzL Γ.K ρ H a vs ∧ DenL Γ.K ρ H vs xs where
  ext := fun ρ H ρ' H' h e => ⟨h.1.ext e, h.2.ext e⟩
  mov := fun ρ H ρ' H' h e => ⟨h.1.mov e, h.2.mov e⟩
  stop := fun ρ H ph i ys hr h e hl => by
    cases e
    exact ⟨vs, h.1.sq, by rw [h.2.length]; exact hl⟩
  go := fun ρ H ph i ys p hr h e hi => by
    cases e
    obtain ⟨x, h1, h2⟩ := h.2.get hi
    refine ⟨⟨vs, x, h.1.sq, h1⟩, fun y H' ⟨e1, e2⟩ => ?_⟩
    subst e1
    have e3 := e2 vs h.1.sq
    rw [h1] at e3
    cases e3
    exact ⟨ρ, Ext.refl _ _, hr, h2⟩
theorem jw_tup {a : Addr} {vs : List V} {xs : List PV} : JW Γ (.fx xs) (Itt Γ.K a) fun ρ H => FzT Γ.K ρ H a vs ∧ DenL Γ.K ρ H vs xs where
  ext := fun ρ H ρ' H' h e => ⟨h.1.ext e, h.2.ext e⟩
  mov := fun ρ H ρ' H' h e => ⟨h.1.mov e, h.2.mov e⟩
  stop := fun ρ H ph i ys hr h e hl => by
    cases e
    exact ⟨vs, h.1.sq, by rw [h.2.length]; exact hl⟩
  go := fun ρ H ph i ys p hr h e hi => by
    cases e
    obtain ⟨x, h1, h2⟩ := h.2.get hi
    refine ⟨⟨vs, x, h.1.sq, h1⟩, fun y H' ⟨e1, e2⟩ => ?_⟩
    subst e1
    have e3 := e2 vs h.1.sq
    rw [h1] at e3
    cases e3
    exact ⟨ρ, Ext.refl _ _, hr, h2⟩
theorem jw_str {z : Str} : JW Γ (.fx (z.cps.toList.map fun c => .str ⟨#[c]⟩)) (Its z) fun _ _ => True where
  ext := fun _ _ _ _ _ _ => True.intro
  mov := fun _ _ _ _ _ _ => True.intro
  stop := fun ρ H ph i ys hr _ e hl => by
    cases e
    show z.cps.size ≤ i
    simpa using hl
  go := fun ρ H ph i ys p hr _ e hi => by
    cases e
    rw [List.getElem?_map] at hi
    obtain ⟨c, e1, rfl⟩ := map_some hi
    have e2 : z.cps[i]? = some c := by rw [← Array.getElem?_toList]; exact e1
    refine ⟨(Array.getElem?_eq_some_iff.mp e2).1, fun y H' ⟨e3, c', e4, e5⟩ => ?_⟩
    subst e3 e5
    rw [e2] at e4
    cases e4
    exact ⟨ρ, Ext.refl _ _, hr, .str _ (by show 1 ≤ sizeLine; decide)⟩
theorem jw_range {lo hi : Int} : JW Γ (.fx (rangeL lo hi)) (Itr lo (hi - lo).toNat) fun _ _ => True where
  ext := fun _ _ _ _ _ _ => True.intro
  mov := fun _ _ _ _ _ _ => True.intro
  stop := fun ρ H ph i ys hr _ e hl => by
    cases e
    have e : (rangeL lo hi).length = (hi - lo).toNat := by simp [rangeL]
    show (hi - lo).toNat ≤ i
    rw [← e]
    exact hl
  go := fun ρ H ph i ys p hr _ e hi => by
    cases e
    unfold rangeL at hi
    rw [List.getElem?_map] at hi
    obtain ⟨k, e1, rfl⟩ := map_some hi
    obtain ⟨h1, h2⟩ := List.getElem?_eq_some_iff.mp e1
    rw [List.getElem_range] at h2
    subst h2
    rw [List.length_range] at h1
    refine ⟨h1, fun y H' ⟨e3, e4⟩ => ?_⟩
    subst e3 e4
    exact ⟨ρ, Ext.refl _ _, hr, .int _⟩
theorem jw_ref {a : Addr} {n : Nat} : JW Γ (.rf n) (Itl Γ.K a) fun ρ _ => ρ.r[n]? = some a where
  ext := fun ρ H ρ' H' h e => e.at h
  mov := fun ρ H ρ' H' h e => e.rs _ _ h
  stop := fun ρ H ph i ys hr h e hl => by
    have e : (match ph[n]? with | some (.lst xs) => some xs | _ => none) = some ys := e
    split at e
    · rename_i xs q
      cases e
      cases hr.ob n a _ h q with
      | lst g r => exact ⟨_, .inl (.inl g), by rw [r.length]; exact hl⟩
    · cases e
  go := fun ρ H ph i ys p hr h e hi => by
    have e : (match ph[n]? with | some (.lst xs) => some xs | _ => none) = some ys := e
    split at e
    · rename_i xs q
      cases e
      cases hr.ob n a _ h q with
      | @lst vs _ g r =>
        obtain ⟨x, h1, h2⟩ := r.get hi
        refine ⟨⟨vs, x, .inl (.inl g), h1⟩, fun y H' ⟨e1, e2⟩ => ?_⟩
        subst e1
        have e3 := e2 vs (.inl (.inl g))
        rw [h1] at e3
        cases e3
        exact ⟨ρ, Ext.refl _ _, hr, h2⟩
    · cases e
/-- the walked thing's reading -/
def RdI (Γ : GI) (W : WX) (f : Lo → M Sr) : TI := fun σ H R => Go Γ W σ H (fun s ρ' H' _ => ∀ J sd, JW Γ s J sd → sd ρ' H' → R J H') f
abbrev SI (Γ : GI) (W : WX) (X : Cx) (tg e : Expr) (f : Lo → M Sr) : Prop := PI X tg e (RdI Γ W f)
theorem PI_imp {e : Expr} {t t' : TI} (h : PI X tg e t) (i : ∀ σ H R, t' σ H R → t σ H R) : PI X tg e t' := ⟨fun pins s σ H Q I q => h.run pins s σ H Q I (i σ H Q q)⟩
theorem seq_val (hK : X.K = Γ.K) {W : PX → Rz → Hp → Prop} {x : V} {p : PV} {u : Value} (I : Inv X pins σ H s) (rx : RelV x u) (hr : HR Γ ρ H ph) (d : Den Γ.K ρ H x p)
    (po : Post Γ W ρ H (fun s ρ' H' _ => ∀ J sd, JW Γ s J sd → sd ρ' H' → R J H') (seqS p ph)) : wpAny (model X.prog X.w) X.A (pyIter u) (PIE X pins σ tg R) X.xe s := by
  unfold seqS at po
  split at po
  · rename_i n
    split at po
    · rename_i xs e1
      obtain ⟨a, vs, rfl, f, r, h⟩ := vwAt hr d e1
      rcases h with ⟨z, _⟩ | ⟨k, z, hn, hH⟩
      · cases z
      · cases z
        cases rx
        exact it_list I (.inl (.inl hH)) (by rw [hK]; exact post_ok po hr _ _ jw_ref hn)
    · exact po.elim
  · split at po
    · rename_i xs e1
      obtain ⟨a, vs, rfl, -, f, r⟩ := vwAt hr d e1
      cases rx
      exact it_tup I (hK ▸ f.sq) (by rw [hK]; exact post_ok po hr _ _ jw_tup ⟨f, r⟩)
    · rename_i hp _ xs e1
      obtain ⟨a, vs, rfl, f, r, h⟩ := vwAt hr d e1
      rcases h with ⟨z, fz⟩ | ⟨k, z, hn, hH⟩
      · cases rx
        exact it_list I (hK ▸ f) (by rw [hK]; exact post_ok po hr _ _ jw_list ⟨fz, r⟩)
      · exact absurd z (hp k)
    · rename_i e1
      obtain ⟨rfl, -, hz⟩ := vwAt hr d e1
      obtain ⟨t, rfl⟩ := rx
      exact it_str I (post_ok po hr _ _ jw_str True.intro)
    · exact po.elim
theorem si_seq {W : WX} (hK : X.K = Γ.K) {e : Expr} {f : Lo → M PV} (he : SE Γ W X e f) : SI Γ W X tg e (fun L => do let x ← f L; seqS x) := by
  refine ⟨fun pins s σ H R I h => ?_⟩
  refine thn (he.run pins s σ H _ I (Go.e (k := fun x _ => seqS x) h)) fun v s1 ⟨x, H1, I1, r1, q⟩ => ?_
  obtain ⟨ρ, ph, L, p, hr, lo, d, po⟩ := q
  exact seq_val hK I1 r1 hr d po
theorem nx_range (a b : PV) : NX (rangeS a b) := fun h e h' z => by
  unfold rangeS at z
  repeat' split at z
  all_goals cases z
theorem si_range1 {W : WX} {a : Expr} {f : Lo → M PV} {p pos : Pos} (hg : Gl X "range") (hm : X.mg "range" = none) (ha : SE Γ W X a f) (hs : starEach [a] X.env = [(false, eval a X.env)]) :
    SI Γ W X tg (.Call (.Name "range" p) [a] [] pos) (fun L => do let x ← f L; rangeS (.int 0) x) := by
  refine PI_imp (pi_range1 (ta := tCons (RdE Γ W f) tNil) hg hm (pa_cons ha pa_nil hs) hs) fun σ H R h => ?_
  show RdE Γ W f σ H fun x H1 => _
  have g := Go.e (k := fun x _ => rangeS (.int 0) x) h
  obtain ⟨ρ, ph, L, hr, lo, po⟩ := g
  refine ⟨ρ, ph, L, hr, lo, po.imp fun v ρ' H' ph' e hr' q x d => ?_⟩
  obtain ⟨ρ2, ph2, L2, v2, hr2, lo2, d2, po2⟩ := q x d
  have po2 : Post Γ (wx Γ W σ) _ _ _ (rangeS (.int 0) v2 ph2) := po2
  unfold rangeS at po2
  split at po2
  · rename_i i j e1 e2
    obtain ⟨c, po2⟩ := post_if po2
    obtain ⟨rfl, -⟩ := vwAt hr2 d2 e2
    cases e1
    refine ⟨j, rfl, by omega, by omega, ?_⟩
    have q2 := post_ok po2 hr2 _ _ jw_range True.intro
    simpa using q2
  · exact po2.elim
theorem si_range2 {W : WX} {a b : Expr} {f g : Lo → M PV} {p pos : Pos} (hg : Gl X "range") (hm : X.mg "range" = none) (ha : SE Γ W X a f) (hb : SE Γ W X b g) (hs : starEach [a, b] X.env = [(false, eval a X.env), (false, eval b X.env)]) (hs2 : starEach [b] X.env = [(false, eval b X.env)]) :
    SI Γ W X tg (.Call (.Name "range" p) [a, b] [] pos) (fun L => do let x ← f L; let y ← g L; rangeS x y) := by
  refine PI_imp (pi_range2 (ta := tCons (RdE Γ W f) (tCons (RdE Γ W g) tNil)) hg hm (pa_cons ha (pa_cons hb pa_nil hs2) (by rw [hs, hs2])) hs hs2) fun σ H R h => ?_
  show RdE Γ W f σ H fun x H1 => RdE Γ W g σ H1 fun y H2 => _
  have g1 := Go.e (k := fun x L => g L >>= fun y => rangeS x y) h
  obtain ⟨ρ, ph, L, hr, lo, po⟩ := g1
  refine ⟨ρ, ph, L, hr, lo, po.imp fun v ρ' H' ph' e hr' q x d => ?_⟩
  obtain ⟨ρ2, ph2, L2, hr2, lo2, po2⟩ := Go1.e (k := fun x y _ => rangeS x y) (q x d)
  refine ⟨ρ2, ph2, L2, hr2, lo2, po2.imp fun v ρ' H' ph' e hr' q y d => ?_⟩
  obtain ⟨ρ3, ph3, L3, v3, u3, hr3, lo3, d3, d4, po3⟩ := q y d
  have po3 : Post Γ (wx Γ W σ) _ _ _ (rangeS v3 u3 ph3) := po3
  unfold rangeS at po3
  split at po3
  · rename_i i j e1 e2
    obtain ⟨c, po3⟩ := post_if po3
    obtain ⟨rfl, -⟩ := vwAt hr3 d3 e1
    obtain ⟨rfl, -⟩ := vwAt hr3 d4 e2
    exact ⟨i, j, rfl, c, post_ok po3 hr3 _ _ jw_range True.intro⟩
  · exact po3.elim
end
end Rk

set_option Elab.async false
set_option linter.all false
set_option maxRecDepth 100000
set_option maxHeartbeats 1000000
/-! RkI: targets; comprehensions. -/
namespace Rk
open PySem PySem.Spec L2

/-! ### targets -/
def Tg.slots : Tg → List Nat
  | .nm i => [i]
  | .tup is => is
/-- σ' is σ but at these places -/
def But (vs : List Nat) (σ σ' : L2.St) : Prop := σ'.length = σ.length ∧ ∀ j, j ∉ vs → σ'[j]? = σ[j]?
theorem But.refl (vs : List Nat) (σ : L2.St) : But vs σ σ := ⟨rfl, fun _ _ => rfl⟩
theorem But.set (vs : List Nat) (σ : L2.St) {i : Nat} (h : i ∈ vs) (x : Option V) : But vs σ (σ.set i x) :=
  ⟨by simp, fun j hj => List.getElem?_set_ne (fun z => hj (by rw [← z]; exact h))⟩
theorem But.trans {vs : List Nat} {σ σ1 σ2 : L2.St} (a : But vs σ σ1) (b : But vs σ1 σ2) : But vs σ σ2 := ⟨b.1.trans a.1, fun j hj => (b.2 j hj).trans (a.2 j hj)⟩
theorem But.mono {vs ws : List Nat} {σ σ' : L2.St} (a : But vs σ σ') (h : ∀ j ∈ vs, j ∈ ws) : But ws σ σ' := ⟨a.1, fun j hj => a.2 j fun z => hj (h j z)⟩
theorem wipe_get (σ : L2.St) (j : Nat) : ∀ vs : List Nat, (wipe σ vs)[j]? = if j ∈ vs ∧ j < σ.length then some none else σ[j]?
  | [] => by simp [wipe]
  | v :: vs => by
    have ih := wipe_get σ j vs
    show ((wipe σ vs).set v none)[j]? = _
    by_cases e : v = j
    · subst e
      by_cases hl : v < σ.length
      · rw [List.getElem?_set_self (by rw [wipe_length]; exact hl)]
        simp [hl]
      · have h1 : ((wipe σ vs).set v none)[v]? = none := List.getElem?_eq_none (by rw [List.length_set, wipe_length]; omega)
        rw [h1]
        simp [hl]
    · rw [List.getElem?_set_ne e, ih]
      have : (j ∈ v :: vs) ↔ j ∈ vs := by simp [Ne.symm e]
      simp only [this]
theorem But.wipe {vs : List Nat} {σ σ' : L2.St} (h : But vs σ σ') : L2.wipe σ' vs = L2.wipe σ vs := by
  refine List.ext_getElem? fun j => ?_
  rw [wipe_get, wipe_get, h.1]
  by_cases hj : j ∈ vs
  · by_cases hl : j < σ.length
    · simp [hj, hl]
    · simp only [hl, and_false, if_false]
      rw [List.getElem?_eq_none (by rw [h.1]; omega), List.getElem?_eq_none (by omega)]
  · simp only [hj, false_and, if_false]
    exact h.2 j hj
theorem wipe_wipe (σ : L2.St) (vs : List Nat) : L2.wipe (L2.wipe σ vs) vs = L2.wipe σ vs := by
  refine List.ext_getElem? fun j => ?_
  rw [wipe_get, wipe_get, wipe_length]
  by_cases hj : j ∈ vs ∧ j < σ.length
  · simp [hj]
  · simp [hj]
/-- a target's reading -/
def RdG (Γ : GI) (t : Tg) : TG := fun v σ H Q => ∃ ρ ph L p L', HR Γ ρ H ph ∧ LoR Γ.K ρ H σ L ∧ Den Γ.K ρ H v p ∧ t.bind p L = some L' ∧ ∀ σ', LoR Γ.K ρ H σ' L' → But t.slots σ σ' → Q σ' H
section
variable {Γ : GI} {X : Cx} {ρ : Rz} {H : Hp} {ph : PH} {pins : List (Addr × Obj)} {σ : L2.St} {s : Shared}
theorem PG_imp {e : Expr} {t t' : TG} (h : PG X e t) (i : ∀ v σ H Q, t' v σ H Q → t v σ H Q) : PG X e t' := ⟨fun pins s σ H v u Q I r q => h.run pins s σ H v u Q I r (i v σ H Q q)⟩
theorem sg_name {i : Nat} {x : Str} {pos : Pos} (hN : X.N.Nodup) (hi : X.N[i]? = some x) (hx : Loc X.env.scope x) (hf : X.fn x = true ∨ X.env.scope.names.lookup x = some .local) : PG X (.Name x pos) (RdG Γ (.nm i)) := by
  refine PG_imp (pg_name hN hi hx hf) fun v σ H Q h => ?_
  obtain ⟨ρ, ph, L, p, L', hr, lo, d, e, q⟩ := h
  cases e
  exact q _ (lo.set i d) (But.set _ _ (by simp [Tg.slots]) _)
/-- names, one behind another -/
inductive GNames (X : Cx) : List Expr → List Nat → Prop
  | nil : GNames X [] []
  | cons {i : Nat} {x : Str} {pos : Pos} {es : List Expr} {is : List Nat} : X.N[i]? = some x → Loc X.env.scope x → (X.fn x = true ∨ X.env.scope.names.lookup x = some .local) → GNames X es is → GNames X (.Name x pos :: es) (i :: is)
def gNames : List Nat → TGs
  | [] => gNil
  | i :: is => gCons (gName i) (gNames is)
theorem pgs_names (hN : X.N.Nodup) : ∀ {es : List Expr} {is : List Nat}, GNames X es is → PGs X es (gNames is)
  | _, _, .nil => pgs_nil
  | _, _, .cons hi hx hf r => pgs_cons (pg_name hN hi hx hf) (pgs_names hN r)
theorem gNames_go {Q : L2.St → Hp → Prop} : ∀ {is : List Nat} {vs : List V} {ps : List PV} {σ : L2.St} {L L' : Lo}, LoR Γ.K ρ H σ L → DenL Γ.K ρ H vs ps → setAll L is ps = some L' → (∀ σ', LoR Γ.K ρ H σ' L' → But is σ σ' → Q σ' H) → gNames is vs σ H Q
  | [], _, _, σ, L, L', lo, .nil, e, q => by
    cases e
    exact ⟨rfl, q σ lo (But.refl _ _)⟩
  | i :: is, _, _, σ, L, L', lo, .cons d r, e, q => by
    refine ⟨_, _, rfl, ?_⟩
    have e : setAll (L.set i (some _)) is _ = some L' := e
    exact gNames_go (lo.set i d) r e fun σ' lo' b => q σ' lo' ((But.set _ _ (List.mem_cons_self ..) _).trans (b.mono fun j hj => List.mem_cons_of_mem _ hj))
theorem setAll_len : ∀ {is : List Nat} {ps : List PV} {L L' : Lo}, setAll L is ps = some L' → ps.length = is.length
  | [], [], _, _, _ => rfl
  | i :: is, p :: ps, L, L', e => by
    have e : setAll (L.set i (some p)) is ps = some L' := e
    simp [setAll_len e]
theorem assign_len {env : Env} : ∀ {es : List Expr} {is : List Nat}, GNames X es is → (assignEach es env).length = is.length ∧ (assignEach es env).findIdx? (·.1) = none
  | _, _, .nil => ⟨rfl, rfl⟩
  | _, _, .cons (x := x) (pos := pos) (es := es) _ _ _ r => by
    obtain ⟨h1, h2⟩ := assign_len (env := env) r
    have e : assignEach (.Name x pos :: es) env = (false, assign (.Name x pos) env) :: assignEach es env := by rfl
    rw [e]
    exact ⟨by simp [h1], by rw [List.findIdx?_cons, h2]; rfl⟩
theorem sg_tup (hK : X.K = Γ.K) (hc : X.calm = true) (hN : X.N.Nodup) {es : List Expr} {is : List Nat} {k : Nat} {pos : Pos} (g : GNames X es is) : PG X (.Tuple es k pos) (RdG Γ (.tup is)) := by
  obtain ⟨h1, h2⟩ := assign_len (env := X.env) g
  refine PG_imp (pg_tup hc (pgs_names hN g) h1 h2) fun v σ H Q h => ?_
  obtain ⟨ρ, ph, L, p, L', hr, lo, d, e, q⟩ := h
  cases d with
  | tup f r => exact ⟨_, _, rfl, hK ▸ f.sq, by rw [r.length]; exact setAll_len e, gNames_go lo r e q⟩
  | _ => cases e
end

/-! ### comprehensions -/
abbrev WN : WX := fun _ _ _ _ => False
theorem compL_N (step : PV → M (Option PV)) (all : List PV) : ∀ (k : Nat) (h : PH), k ≤ all.length → compN step (.fx all) all.length k h = compL step (all.drop (all.length - k)) h
  | 0, h, _ => by
    rw [Nat.sub_zero, List.drop_length]
    show (if all.length = all.length then R.ok [] h else .stuck) = _
    rw [if_pos rfl]
    rfl
  | k + 1, h, hk => by
    have hi : all.length - (k + 1) < all.length := by omega
    rw [List.drop_eq_getElem_cons hi]
    show (if all.length = all.length then (match all[all.length - (k + 1)]? with
      | some x => (do
        let o ← step x
        let ys ← compN step (.fx all) all.length k
        pure (consO o ys) : M (List PV)) h
      | none => .stuck) else .stuck) = _
    rw [if_pos rfl, List.getElem?_eq_getElem hi]
    show ((step all[all.length - (k + 1)] >>= fun o => compN step (.fx all) all.length k >>= fun ys => pure (consO o ys) : M (List PV)) h) = (step all[all.length - (k + 1)] >>= fun o => compL step (all.drop (all.length - (k + 1) + 1)) >>= fun ys => pure (consO o ys) : M (List PV)) h
    have e : all.length - (k + 1) + 1 = all.length - k := by omega
    rw [e]
    have ih : compN step (.fx all) all.length k = compL step (all.drop (all.length - k)) := funext fun h => compL_N step all k h (by omega)
    rw [ih]
theorem compS_N (step : PV → M (Option PV)) (s : Sr) (h : PH) : ∀ {r : R (List PV)}, compS step s h = r → r = .stuck ∨ ∃ xs, s.now h = some xs ∧ compN step s xs.length xs.length h = r := by
  intro r e
  cases s with
  | fx xs =>
    refine .inr ⟨xs, rfl, ?_⟩
    rw [compL_N step xs xs.length h (Nat.le_refl _), Nat.sub_self, List.drop_zero]
    exact e
  | rf n =>
    have e : (match (Sr.rf n).now h with
      | some xs => compN step (.rf n) xs.length xs.length h
      | none => .stuck) = r := e
    split at e
    · rename_i xs q
      exact .inr ⟨xs, q, e⟩
    · exact .inl e.symm
section
variable {Γ : GI} {X : Cx} {ρ : Rz} {H : Hp} {ph : PH} {pins : List (Addr × Obj)} {σ : L2.St} {s : Shared}
theorem noX_bind {α β : Type} {W : PX → Rz → Hp → Prop} {Q : β → Rz → Hp → PH → Prop} {m : M α} {k : α → M β} (h : Post Γ W ρ H Q ((noX m >>= k) ph)) : ∃ a ph', m ph = .ok a ph' ∧ Post Γ W ρ H Q (k a ph') := by
  rw [bind_def] at h
  unfold noX at h
  cases e : m ph with
  | ok a ph' =>
    rw [e] at h
    exact ⟨a, ph', rfl, h⟩
  | exc _ _ =>
    rw [e] at h
    exact h.elim
  | stuck =>
    rw [e] at h
    exact h.elim
/-- a bind that ends well: its first part does, then the rest -/
theorem bind_ok {α β : Type} {m : M α} {k : α → M β} {h h' : PH} {b : β} (e : (m >>= k) h = .ok b h') : ∃ a h1, m h = .ok a h1 ∧ k a h1 = .ok b h' := by
  rw [bind_def] at e
  cases q : m h with
  | ok a h1 =>
    rw [q] at e
    exact ⟨a, h1, rfl, e⟩
  | exc _ _ =>
    rw [q] at e
    cases e
  | stuck =>
    rw [q] at e
    cases e
theorem post_of {α : Type} {W : PX → Rz → Hp → Prop} {m : M α} {a : α} {ph ph' : PH} (e : m ph = .ok a ph') {Q : α → Rz → Hp → PH → Prop} (q : ∀ ρ' H', Ext ρ H ρ' H' → HR Γ ρ' H' ph' → Q a ρ' H' ph') : Post Γ W ρ H Q (m ph) := by
  rw [e]
  exact q
theorem lc_rd {W : WX} {own : List (Str × Nat)} {fz : Bool} {t : Tg} {fi : Lo → M Sr} {ft : Lo → M Bool} {fe : Lo → M PV} (hsl : ∀ j ∈ t.slots, j ∈ own.map (·.2)) {σ : L2.St} {H : Hp} {Q : VK}
    (h : RdE Γ W (fun L => do let s ← fi L; let ys ← noX (compS (compStep t (own.map (·.2)) L ft fe) s); fresh fz ys) σ H Q) : tLc (RdI Γ W fi) (RdG Γ t) (RdT Γ WN ft) (RdE Γ WN fe) (own.map (·.2)) σ H Q := by
  obtain ⟨ρ, ph, L, hr, lo, po⟩ := h
  refine ⟨ρ, ph, L, hr, lo, (Post.bind po).imp fun sr ρ1 H1 ph1 ex hr1 po => ?_⟩
  intro J sd jw sd0 D nD
  obtain ⟨ys, ph2, e2, po⟩ := noX_bind po
  unfold fresh at po
  obtain ⟨hz, po⟩ := post_if po
  rcases compS_N _ sr ph1 e2 with z | ⟨xs, hnow, e3⟩
  · cases z
  have lo1 : LoR Γ.K ρ1 H1 σ L := lo.ext ex
  -- the invariant
  let INV : Nat → Nat → Hp → Prop := fun i k H2 => ∃ (ρ2 : Rz) (ph3 : PH) (acc : List V) (done rest : List PV), i + k = xs.length ∧ Ext ρ1 H1 ρ2 H2 ∧ HR Γ (ρ2.mk1 D) H2 ph3 ∧ sd (ρ2.mk1 D) H2 ∧ LoR Γ.K (ρ2.mk1 D) H2 σ L ∧ H2 D = some (.lst acc) ∧
    DenL Γ.K (ρ2.mk1 D) H2 acc done ∧ compN (compStep t (own.map (·.2)) L ft fe) sr xs.length k ph3 = .ok rest ph2 ∧ done ++ rest = ys
  have loM : ∀ {ρ ρ' : Rz} {H H' : Hp} {σ : L2.St} {L : Lo}, Mov ρ H ρ' H' → LoR Γ.K ρ H σ L → LoR Γ.K ρ' H' σ L := fun e l => ⟨l.1, fun i v q => let ⟨x, h1, h2⟩ := l.2 i v q; ⟨x, h1, h2.mov e⟩⟩
  refine ⟨fun i m H2 => INV i m H2, ⟨xs.length, ρ1, ph1, [], [], ys, by omega, (Ext.refl _ _).updz nD, hr1.make nD plain_lst, jw.mov _ _ _ _ sd0 (Mov.make nD), loM (Mov.make nD) lo1, upd_same, .nil, e3, rfl⟩, ?_⟩
  rintro i k H2 ⟨ρ2, ph3, acc, done, rest, hik, ex2, hr2, sd2, lo2, hD, dn, e4, hys⟩
  have nr : D ∉ ρ2.r := (hr2.zo D (List.mem_cons_self ..)).1
  cases k with
  | zero =>
    left
    have e4 : (match sr.now ph3 with
      | some xs' => if xs'.length = xs.length then R.ok [] ph3 else .stuck
      | none => .stuck) = .ok rest ph2 := e4
    split at e4
    · rename_i xs' q
      split at e4
      · rename_i hl
        cases e4
        refine ⟨jw.stop _ _ _ i xs' hr2 sd2 q (by omega), ?_⟩
        rw [List.append_nil] at hys
        subst hys
        have nz : D ∉ ρ2.z := fun z => by
          rw [ex2.zs] at z
          obtain ⟨_, o, e, _⟩ := hr1.zo D z
          rw [nD] at e
          cases e
        cases fz with
        | true =>
          have po : Post Γ (wx Γ W σ) ρ1 H1 (Qv Γ Q) (.ok (.lst done) ph2) := po
          exact po ρ2 H2 ex2 hr2.made _ (.lst (.inl ⟨.inl hD, Rz.out nr nz⟩) (dn.mov Mov.made))
        | false =>
          have po : Post Γ (wx Γ W σ) ρ1 H1 (Qv Γ Q) (.ok (.ref ph2.length) (ph2 ++ [.lst done])) := po
          refine po (ρ2.push D) H2 (ex2.adopt nD) (hr2.adopt nz (.lst hD (dn.mov Mov.adopt))) _ (.ref ?_)
          have hl2 : ρ2.r.length = ph2.length := hr2.len
          show (ρ2.r ++ [D])[ph2.length]? = some D
          rw [← hl2, List.getElem?_append_right (Nat.le_refl _)]
          simp
      · cases e4
    · cases e4
  | succ k =>
    right
    have e4 : (match sr.now ph3 with
      | some xs' => if xs'.length = xs.length then (match xs'[xs.length - (k + 1)]? with
        | some x => (compStep t (List.map (fun q : Str × Nat => q.2) own) L ft fe x >>= fun o => compN (compStep t (List.map (fun q : Str × Nat => q.2) own) L ft fe) sr xs.length k >>= fun ys => pure (consO o ys) : M (List PV)) ph3
        | none => .stuck) else .stuck
      | none => .stuck) = .ok rest ph2 := e4
    split at e4
    · rename_i xs' q
      split at e4
      · rename_i hl
        split at e4
        · rename_i p hp
          have hi' : xs.length - (k + 1) = i := by omega
          rw [hi'] at hp
          obtain ⟨o, ph4, e5, e6⟩ := bind_ok e4
          obtain ⟨rest', ph6, e7, e8⟩ := bind_ok e6
          have e8 : R.ok (consO o rest') ph6 = R.ok rest ph2 := e8
          cases e8
          obtain ⟨hgo, hy⟩ := jw.go _ _ _ i xs' p hr2 sd2 q hp
          refine ⟨hgo, fun H' => INV (i + 1) k H', fun H' n => ⟨k, Nat.lt_succ_self k, n⟩, fun x H' yl => ?_⟩
          obtain ⟨ρ3, ex3, hr3, dx⟩ := hy x H' yl
          unfold compStep at e5
          split at e5
          · rename_i L' hb
            refine ⟨ρ3, ph3, _, p, L', hr3, (lo2.ext ex3).wipe _, dx, hb, fun σ' lo' but => ⟨?_, ?_⟩⟩
            · rw [(but.mono hsl).wipe, wipe_wipe]
            · obtain ⟨b, ph5, e9, e10⟩ := bind_ok e5
              refine ⟨ρ3, ph3, L', hr3, lo', post_of e9 fun ρ5 H5 ex5 hr5 => ?_⟩
              show if b = true then _ else _
              -- the next state, from the last one
              have next : ∀ (ρ6 : Rz) (H6 : Hp) (ph7 : PH) (add : List PV) (more : List V) (rs : List PV), Ext (ρ2.mk1 D) H2 ρ6 H6 → HR Γ ρ6 H6 ph7 → DenL Γ.K ρ6 H6 more add → compN (compStep t (own.map (·.2)) L ft fe) sr xs.length k ph7 = .ok rs ph2 →
                  done ++ (add ++ rs) = ys → INV (i + 1) k (upd H6 D (.lst (acc ++ more))) := by
                intro ρ6 H6 ph7 add more rs ex6 hr6 dm er hy2
                obtain ⟨ex7, hρ⟩ := ex6.unmk
                have hD6 : D ∈ ρ6.z := by rw [hρ]; exact List.mem_cons_self ..
                refine ⟨⟨ρ6.r, ρ2.z⟩, ph7, acc ++ more, done ++ add, rs, by omega, (ex2.trans ex7).updz nD, ?_, ?_, ?_, upd_same, ?_, er, by rw [List.append_assoc]; exact hy2⟩
                · rw [← hρ]
                  exact hr6.grow hD6 plain_lst
                · rw [← hρ]
                  exact jw.mov _ _ _ _ (jw.ext _ _ _ _ sd2 ex6) (Mov.grow hD6)
                · rw [← hρ]
                  exact loM (Mov.grow hD6) (lo2.ext ex6)
                · rw [← hρ]
                  exact ((dn.ext ex6).append dm).mov (Mov.grow hD6)
              cases b with
              | true =>
                rw [if_pos rfl]
                obtain ⟨y, ph7, e11, e12⟩ := bind_ok (show (fe L' >>= fun y => pure (some y) : M (Option PV)) ph5 = .ok o ph4 from e10)
                have e12 : R.ok (some y) ph7 = R.ok o ph4 := e12
                cases e12
                refine ⟨ρ5, ph5, L', hr5, lo'.ext ex5, post_of e11 fun ρ6 H6 ex6 hr6 => ?_⟩
                intro yv dy
                have exA : Ext (ρ2.mk1 D) H2 ρ6 H6 := (ex3.trans ex5).trans ex6
                have hl3 : done.length < sizeLine := by
                  have hz : (done ++ y :: rest').length ≤ sizeLine := by rw [← hys] at hz; exact hz
                  rw [List.length_append, List.length_cons] at hz
                  omega
                refine ⟨acc, exA.keep D _ hD nr (fun _ z => nomatch z), by rw [dn.length]; exact hl3, ?_⟩
                exact next ρ6 H6 ph4 [y] [yv] rest' exA hr6 (.cons dy .nil) e7 hys
              | false =>
                rw [if_neg Bool.false_ne_true]
                have e12 : R.ok none ph5 = R.ok o ph4 := e10
                cases e12
                have exA : Ext (ρ2.mk1 D) H2 ρ5 H5 := ex3.trans ex5
                have n := next ρ5 H5 ph4 [] [] rest' exA hr5 .nil e7 hys
                rw [List.append_nil] at n
                have hD5 : H5 D = some (.lst acc) := exA.keep D _ hD nr (fun _ z => nomatch z)
                have e13 : upd H5 D (.lst acc) = H5 := by
                  funext b
                  unfold upd
                  split
                  · rename_i hb
                    rw [hb, hD5]
                  · rfl
                rw [e13] at n
                exact n
          · cases e5
        · cases e4
      · cases e4
    · cases e4
theorem se_comp {W : WX} {elt tg iter : Expr} {ifs : List Expr} {scope : Scope} {own : List (Str × Nat)} {pos : Pos} {fz : Bool} {t : Tg} {fi : Lo → M Sr} {ft : Lo → M Bool} {fe : Lo → M PV}
    (hK : X.K = Γ.K) (hc : X.calm = true) (hN : X.N.Nodup) (hi : SI Γ W X tg iter fi) (ok : BlkOk X.N X.env.scope scope own) (hsl : ∀ j ∈ t.slots, j ∈ own.map (·.2))
    (hg : ∀ (s : Shared) (H : Hp) (C : Addr) (cl : List (Str × Addr)) (fp : List Addr), PG (X.blk s H scope (compEnvC scope cl C X.env) fp) tg (RdG Γ t))
    (ht : ∀ (s : Shared) (H : Hp) (C : Addr) (cl : List (Str × Addr)) (fp : List Addr), PTs (X.blk s H scope (compEnvC scope cl C X.env) fp) ifs (RdT Γ WN ft))
    (he : ∀ (s : Shared) (H : Hp) (C : Addr) (cl : List (Str × Addr)) (fp : List Addr), PE (X.blk s H scope (compEnvC scope cl C X.env) fp) elt (RdE Γ WN fe))
    (hs : ∀ x, foldedSetIterable iter X.env x = pure x) :
    SE Γ W X (.ListComp elt [⟨tg, iter, ifs, 0⟩] scope pos) (fun L => do let s ← fi L; let ys ← noX (compS (compStep t (own.map (·.2)) L ft fe) s); fresh fz ys) := by
  exact PE_imp (pe_lc hc hN hi ok hg ht he hs) fun σ H Q h => lc_rd hsl h
end
end Rk

set_option Elab.async false
set_option linter.all false
set_option maxRecDepth 100000
set_option maxHeartbeats 1000000
/-! RkJ: expressions, construct by construct. -/
namespace Rk
open PySem PySem.Spec L2

/-! ### what a def promises -/
structure FnG (P : Program) (w : World) (K : PySem.W.Frag) (mg : Str → Option Value) (base : Heap) (k : Nat) (f : Addr) (fd : FuncData) (ps : List Str) (sp : Sp) : Prop where
  len : ∀ vs H Q E, sp vs H Q E → vs.length = ps.length
  run : ∀ (A : Around) (outer : List Env) (s : Shared) (H : Hp) (args : Args) (us : List Value) (vs : List V) (Q : VK) (E : XK), Room k A → A.guards = some [] → Env0 P w K mg base A outer s H → BindsTo s fd args (ps.zip us) → Vals vs us → sp vs H Q E →
    codeAny (model P w) A (.call (.ref f) args) (CR (L2.CX P w) outer P w H s Q E) s
/-- the promise: it does what m does -/
def spD (Γ : GI) (m : List PV → M PV) : Sp := fun vs H Q E => ∃ ρ ph ps, HR Γ ρ H ph ∧ DenL Γ.K ρ H vs ps ∧ Post Γ (fun e ρ' H' => ∀ cls d, XR Γ ρ' H' e cls d → E cls d H') ρ H (Qv Γ Q) (m ps ph)

section
variable {Γ : GI} {X : Cx} {W : WX} {ρ : Rz} {H : Hp} {ph : PH} {pins : List (Addr × Obj)} {σ : L2.St} {s : Shared} {e a b c : Expr} {es : List Expr} {f fa fb fc : Lo → M PV} {pos p : Pos}
theorem call_fnG {k : Nat} {f : Addr} {fd : FuncData} {ps : List Str} {m : List PV → M PV} {us : List Value} {vs : List V} {qs : List PV} {Q : VK} (F : FnG X.prog X.w X.K X.mg X.base k f fd ps (spD Γ m)) (hr : Room k X.A) (hg : X.A.guards = some []) (hb : Binds X.K fd ps []) (tk : Takes X W)
    (I : Inv X pins σ H s) (r : Vals vs us) (h : HR Γ ρ H ph) (d : DenL Γ.K ρ H vs qs) (po : Post Γ (wx Γ W σ) ρ H (Qv Γ Q) (m qs ph)) : wpAny (model X.prog X.w) X.A (call (.ref f) us) (EP X pins σ Q) X.xe s := by
  have hsp : spD Γ m vs H Q (fun cls d H' => W cls d σ H') := ⟨ρ, ph, qs, h, d, po⟩
  have hl : (us ++ []).length = ps.length := by rw [List.append_nil, ← r.length]; exact F.len _ _ _ _ hsp
  refine wpAny_call (codeAny_mono (F.run X.A X.stack s H ⟨us, []⟩ us vs Q (fun cls d H' => W cls d σ H') hr hg I.env0 (by have := hb s us I.kIn hl; rwa [List.append_nil] at this) r hsp) fun r s' hq => ?_)
  cases r with
  | error e => exact tk e s' (XE.of_call I (fun cls d H' z => z) hq)
  | ok fl =>
    cases fl with
    | ret u => exact I.after hq
    | next => exact False.elim hq
    | brk => exact False.elim hq
    | cont => exact False.elim hq

/-! ### argument lists -/
def noStarB : Expr → Bool
  | .Starred _ _ => false
  | _ => true
theorem starEach_cons {env : Env} (h : noStarB e = true) : starEach (e :: es) env = (false, eval e env) :: starEach es env := by
  cases e <;> first | rfl | cases h
theorem starEach_none {env : Env} : ∀ {es : List Expr}, es.all noStarB = true → (backTo pos (starEach es env)).any (·.1) = false
  | [], _ => rfl
  | e :: es, h => by
    obtain ⟨h1, h2⟩ := Bool.and_eq_true_iff.mp (show (noStarB e && es.all noStarB) = true from h)
    rw [starEach_cons h1]
    exact starEach_none (es := es) h2
theorem sa_nil : SA Γ W X [] fun _ => pure [] := by
  refine PA_imp pa_nil fun σ H Q h => ?_
  obtain ⟨ρ, ph, L, hr, lo, po⟩ := h
  exact post_ok po hr _ .nil
theorem sa_cons {g : Lo → M (List PV)} (hn : noStarB e = true) (he : SE Γ W X e f) (hr : SA Γ W X es g) : SA Γ W X (e :: es) (fun L => do let x ← f L; let xs ← g L; pure (x :: xs)) := by
  refine PA_imp (pa_cons he hr (starEach_cons hn)) fun σ H Q h => ?_
  obtain ⟨ρ, ph, L, hr, lo, po⟩ := Go.e (k := fun x L => g L >>= fun xs => pure (x :: xs)) h
  refine ⟨ρ, ph, L, hr, lo, po.imp fun v ρ' H' ph' e hr' q x d => ?_⟩
  obtain ⟨ρ2, ph2, L2, hr2, lo2, po2⟩ := Go1.a (k := fun x xs _ => pure (x :: xs)) (q x d)
  refine ⟨ρ2, ph2, L2, hr2, lo2, po2.imp fun vs ρ' H' ph' e hr' q xs ds => ?_⟩
  obtain ⟨ρ3, ph3, L3, v3, vs3, hr3, lo3, d3, ds3, po3⟩ := q xs ds
  exact post_ok po3 hr3 _ (.cons d3 ds3)
theorem CallS.rd {f : Value} {op : List PV → M PV} (h : CallS Γ X f op) (n : ∀ ps, NX (op ps)) : CallR X f fun xs H Q => ∃ σ, GoL Γ W σ H (Qv Γ Q) xs fun ps _ => op ps := by
  intro pins s σ H xs us Q I r ⟨σ', ρ, ph, L, ps, hr, lo, ds, po⟩
  exact h pins s σ H ρ ph xs us ps Q I r hr ds (po.nx (n ps))
/-! ### constants, names -/
theorem se_var {i : Nat} {x : Str} (hN : X.N[i]? = some x) (hv : Vis X.env.scope x) (hd : (x == ("__debug__" : Str)) = false) (hcd : (x == ("__classdict__" : Str)) = false) : SE Γ W X (.Name x pos) fun L h => match L[i]? with
    | some (some v) => .ok v h
    | _ => .stuck := by
  refine PE_imp (pe_var hN hv hd hcd) fun σ H Q h => ?_
  obtain ⟨ρ, ph, L, hr, lo, po⟩ := h
  have po : Post Γ (wx Γ W σ) ρ H (Qv Γ Q) (match L[i]? with
    | some (some v) => R.ok v ph
    | _ => .stuck) := po
  split at po
  · rename_i v e
    obtain ⟨x, h1, h2⟩ := lo.2 i v e
    exact ⟨x, h1, post_val po hr h2⟩
  · exact po.elim
def Cst.const : Cst → Const
  | .int i => .int i
  | .str s => .str s
  | .bl b => .bool b
  | .non => .none
def Cst.okB : Cst → Bool
  | .str s => decide (s.length ≤ sizeLine)
  | _ => true
theorem se_cst {k : Nat} (c : Cst) (ho : c.okB = true) : SE Γ W X (.Constant c.const k pos) fun _ => pure c.pv := by
  cases c with
  | int i =>
    refine PE_imp pe_int fun σ H Q h => ?_
    obtain ⟨ρ, ph, L, hr, lo, po⟩ := h
    exact post_val po hr (.int i)
  | str x =>
    refine PE_imp pe_str fun σ H Q h => ?_
    obtain ⟨ρ, ph, L, hr, lo, po⟩ := h
    exact post_val po hr (.str x (of_decide_eq_true ho))
  | bl b =>
    refine PE_imp pe_bl fun σ H Q h => ?_
    obtain ⟨ρ, ph, L, hr, lo, po⟩ := h
    exact post_val po hr (.bl b)
  | non =>
    refine PE_imp pe_non fun σ H Q h => ?_
    obtain ⟨ρ, ph, L, hr, lo, po⟩ := h
    exact post_val po hr .non
/-! ### displays -/
theorem se_tup {x1 : Nat} {g : Lo → M (List PV)} (h : SA Γ W X es g) : SE Γ W X (.Tuple es x1 pos) (fun L => do let xs ← g L; fun h => if xs.length ≤ sizeLine then .ok (.tup xs) h else .stuck) := by
  refine PE_imp (pe_tup h) fun σ H Q h => ?_
  obtain ⟨ρ, ph, L, hr, lo, po⟩ := Go.a (k := fun (xs : List PV) _ (h : PH) => if xs.length ≤ sizeLine then R.ok (PV.tup xs) h else R.stuck) h
  refine ⟨ρ, ph, L, hr, lo, po.imp fun v ρ' H' ph' e hr' q x d => ?_⟩
  obtain ⟨ρ2, ph2, L2, v2, hr2, lo2, d2, po2⟩ := q x d
  obtain ⟨hz, po2⟩ := post_if po2
  exact ⟨by rw [d2.length]; exact hz, post_tup po2 hr2 d2⟩
theorem se_lst {fz : Bool} {g : Lo → M (List PV)} (h : SA Γ W X es g) : SE Γ W X (.List es pos) (fun L => do let xs ← g L; fresh fz xs) := by
  refine PE_imp (pe_lst h) fun σ H Q h => ?_
  obtain ⟨ρ, ph, L, hr, lo, po⟩ := Go.a (k := fun xs _ => fresh fz xs) h
  refine ⟨ρ, ph, L, hr, lo, po.imp fun v ρ' H' ph' e hr' q x d => ?_⟩
  obtain ⟨ρ2, ph2, L2, v2, hr2, lo2, d2, po2⟩ := q x d
  exact post_fresh po2 hr2 d2
/-! ### operators -/
theorem se_neg (ha : SE Γ W X a fa) : SE Γ W X (.UnaryOp .USub a pos) (fun L => do let x ← fa L; negS x) := by
  refine PE_imp (pe_un un_neg ha) fun σ H Q h => ?_
  obtain ⟨ρ, ph, L, hr, lo, po⟩ := Go.e (k := fun x _ => negS x) h
  refine ⟨ρ, ph, L, hr, lo, po.imp fun v ρ' H' ph' e hr' q x d => ?_⟩
  obtain ⟨ρ2, ph2, L2, v2, hr2, lo2, d2, po2⟩ := q x d
  have po2 : Post Γ _ _ _ _ (negS v2 ph2) := po2
  unfold negS at po2
  split at po2
  · rename_i e1
    obtain ⟨rfl, -⟩ := vwAt hr2 d2 e1
    exact ⟨_, rfl, post_val po2 hr2 (.int _)⟩
  · exact po2.elim
theorem se_cmp {op : CmpOp} (hK : X.K = Γ.K) (hu : X.A.units + 64 < cLine) (hm : behindInMarks op b = false) (ha : SE Γ W X a fa) (hb : SE Γ W X b fb) : SE Γ W X (.Compare a [op] [b] pos) (fun L => do let x ← fa L; let y ← fb L; cmpV op x y) := by
  refine PE_imp (pe_cmpR ((cmp_ok hK hu op).op.rd (nx_cmpV op) (W := W)) ha hb hm) fun σ H Q g => ?_
  obtain ⟨ρ, ph, L, hr, lo, p⟩ := Go.e (k := fun x L => fb L >>= fun y => cmpV op x y) g
  refine ⟨ρ, ph, L, hr, lo, p.imp fun v ρ' H' ph' e hr' q x d => ?_⟩
  obtain ⟨ρ2, ph2, L2, hr2, lo2, p2⟩ := Go1.e (k := fun x y _ => cmpV op x y) (q x d)
  exact ⟨ρ2, ph2, L2, hr2, lo2, p2.imp fun v ρ' H' ph' e hr' q x d => ⟨σ, q x d⟩⟩
theorem st_cmp {op : CmpOp} (hK : X.K = Γ.K) (hu : X.A.units + 64 < cLine) (hm : behindInMarks op b = false) (ha : SE Γ W X a fa) (hb : SE Γ W X b fb) : ST Γ W X (.Compare a [op] [b] pos) (fun L => do let x ← fa L; let y ← fb L; cmpS op x y) := by
  refine PT_imp (pt_cmpR ((cmp_ok hK hu op).op.rd (nx_cmpV op) (W := W)) ha hb hm) fun σ H Q g => ?_
  obtain ⟨ρ, ph, L, hr, lo, p⟩ := Go.e (k := fun x L => fb L >>= fun y => cmpS op x y) g
  refine ⟨ρ, ph, L, hr, lo, p.imp fun v ρ' H' ph' e hr' q x d => ?_⟩
  obtain ⟨ρ2, ph2, L2, hr2, lo2, p2⟩ := Go1.e (k := fun x y _ => cmpS op x y) (q x d)
  refine ⟨ρ2, ph2, L2, hr2, lo2, p2.imp fun v ρ' H' ph' e hr' q x d => ⟨σ, ?_⟩⟩
  obtain ⟨ρ3, ph3, L3, v3, u3, hr3, lo3, d3, d4, p3⟩ := q x d
  refine ⟨ρ3, ph3, L3, v3, u3, hr3, lo3, d3, d4, ?_⟩
  have p3 : Post Γ _ _ _ _ (cmpS op v3 u3 ph3) := p3
  show Post Γ _ _ _ _ (cmpV op v3 u3 ph3)
  unfold cmpV
  rw [bind_def]
  cases e : cmpS op v3 u3 ph3 with
  | ok b ph4 =>
    rw [e] at p3
    exact fun ρ' H' ex hr x d => by cases d; exact ⟨b, rfl, p3 ρ' H' ex hr⟩
  | exc e1 h1 => exact absurd e (nx_cmp _ _ _ _ _ _)
  | stuck =>
    rw [e] at p3
    exact p3.elim
/-! ### and, or, not, if -/
theorem se_one {op : PySem.BoolOp} (ha : SE Γ W X a fa) : SE Γ W X (.BoolOp op [a] pos) fa := pe_one ha
theorem se_and {rest : List Expr} (hK : X.K = Γ.K) (ha : SE Γ W X a fa) (hb : SE Γ W X (.BoolOp .And (b :: rest) pos) fb) : SE Γ W X (.BoolOp .And (a :: b :: rest) pos) (fun L => do let x ← fa L; let k ← truS x; if k then fb L else pure x) := by
  refine PE_imp (pe_andT ha hb) fun σ H Q g => ?_
  obtain ⟨ρ, ph, L, hr, lo, p⟩ := Go.e (k := fun x L => truS x >>= fun k => if k then fb L else pure x) g
  refine ⟨ρ, ph, L, hr, lo, p.imp fun v ρ' H' ph' e hr' q x d => ?_⟩
  obtain ⟨ρ2, ph2, L2, v2, hr2, lo2, d2, p2⟩ := q x d
  obtain ⟨k, tv, p3⟩ := tru_val hK hr2 d2 (Post.bind p2)
  refine ⟨k, tv, ?_⟩
  cases k with
  | true => exact ⟨ρ2, ph2, L2, hr2, lo2, p3⟩
  | false => exact post_val p3 hr2 d2
theorem se_or {rest : List Expr} (hK : X.K = Γ.K) (ha : SE Γ W X a fa) (hb : SE Γ W X (.BoolOp .Or (b :: rest) pos) fb) : SE Γ W X (.BoolOp .Or (a :: b :: rest) pos) (fun L => do let x ← fa L; let k ← truS x; if k then pure x else fb L) := by
  refine PE_imp (pe_orT ha hb) fun σ H Q g => ?_
  obtain ⟨ρ, ph, L, hr, lo, p⟩ := Go.e (k := fun x L => truS x >>= fun k => if k then pure x else fb L) g
  refine ⟨ρ, ph, L, hr, lo, p.imp fun v ρ' H' ph' e hr' q x d => ?_⟩
  obtain ⟨ρ2, ph2, L2, v2, hr2, lo2, d2, p2⟩ := q x d
  obtain ⟨k, tv, p3⟩ := tru_val hK hr2 d2 (Post.bind p2)
  refine ⟨k, tv, ?_⟩
  cases k with
  | true => exact post_val p3 hr2 d2
  | false => exact ⟨ρ2, ph2, L2, hr2, lo2, p3⟩
theorem se_not (hK : X.K = Γ.K) (ha : SE Γ W X a fa) : SE Γ W X (.UnaryOp .Not a pos) (fun L => do let x ← fa L; let k ← truS x; pure (.bl !k)) := by
  refine PE_imp (pe_notT ha) fun σ H Q g => ?_
  obtain ⟨ρ, ph, L, hr, lo, p⟩ := Go.e (k := fun x L => truS x >>= fun k => pure (PV.bl !k)) g
  refine ⟨ρ, ph, L, hr, lo, p.imp fun v ρ' H' ph' e hr' q x d => ?_⟩
  obtain ⟨ρ2, ph2, L2, v2, hr2, lo2, d2, p2⟩ := q x d
  obtain ⟨k, tv, p3⟩ := tru_val hK hr2 d2 (Post.bind p2)
  exact ⟨k, tv, post_val p3 hr2 (.bl _)⟩
theorem se_ife {ft : Lo → M Bool} (hc : ST Γ W X c ft) (ha : SE Γ W X a fa) (hb : SE Γ W X b fb) : SE Γ W X (.IfExp c a b pos) (fun L => do let k ← ft L; if k then fa L else fb L) := by
  refine PE_imp (pe_ifExp hc ha hb) fun σ H Q g => ?_
  obtain ⟨ρ, ph, L, hr, lo, p⟩ := Go.t (k := fun k L => if k then fa L else fb L) g
  refine ⟨ρ, ph, L, hr, lo, p.imp fun k ρ' H' ph' e hr' q => ?_⟩
  cases k with
  | true => exact q
  | false => exact q
/-! ### tests -/
theorem st_val (hK : X.K = Γ.K) (ha : SE Γ W X a fa) (he : ∀ whole, isTrue a X.env whole = (do let v ← whole; standAt a.pos; holding [v] (truthy v))) : ST Γ W X a (fun L => do let x ← fa L; truS x) := by
  refine PT_imp (pt_truth ha he) fun σ H Q g => ?_
  obtain ⟨ρ, ph, L, hr, lo, p⟩ := Go.e (k := fun x L => truS x) g
  refine ⟨ρ, ph, L, hr, lo, p.imp fun v ρ' H' ph' e hr' q x d => ?_⟩
  obtain ⟨ρ2, ph2, L2, v2, hr2, lo2, d2, p2⟩ := q x d
  exact tru_val hK hr2 d2 p2
theorem sw_and1 {ft : Lo → M Bool} (ha : ST Γ W X a ft) : PW X (.BoolOp .And [a] pos) (RdT Γ W ft) := pw_and1 ha
theorem sw_or1 {ft : Lo → M Bool} (ha : ST Γ W X a ft) : PW X (.BoolOp .Or [a] pos) (RdT Γ W ft) := pw_or1 ha
theorem sw_and {rest : List Expr} {ft gt : Lo → M Bool} (ha : ST Γ W X a ft) (hb : PW X (.BoolOp .And (b :: rest) pos) (RdT Γ W gt)) : PW X (.BoolOp .And (a :: b :: rest) pos) (RdT Γ W fun L => do let k ← ft L; if k then gt L else pure false) := by
  refine PW_imp (pw_and ha hb) fun σ H Q g => ?_
  obtain ⟨ρ, ph, L, hr, lo, p⟩ := Go.t (k := fun k L => if k then gt L else pure false) g
  refine ⟨ρ, ph, L, hr, lo, p.imp fun k ρ' H' ph' e hr' q => ?_⟩
  cases k with
  | true => exact q
  | false =>
    obtain ⟨ρ2, ph2, L2, hr2, lo2, p2⟩ := q
    have p2 : Post Γ (wx Γ W σ) ρ2 H' (Qb Q) (R.ok false ph2) := p2
    have r := post_ok p2 hr2
    exact r
theorem sw_or {rest : List Expr} {ft gt : Lo → M Bool} (ha : ST Γ W X a ft) (hb : PW X (.BoolOp .Or (b :: rest) pos) (RdT Γ W gt)) : PW X (.BoolOp .Or (a :: b :: rest) pos) (RdT Γ W fun L => do let k ← ft L; if k then pure true else gt L) := by
  refine PW_imp (pw_or ha hb) fun σ H Q g => ?_
  obtain ⟨ρ, ph, L, hr, lo, p⟩ := Go.t (k := fun k L => if k then pure true else gt L) g
  refine ⟨ρ, ph, L, hr, lo, p.imp fun k ρ' H' ph' e hr' q => ?_⟩
  cases k with
  | true =>
    obtain ⟨ρ2, ph2, L2, hr2, lo2, p2⟩ := q
    have p2 : Post Γ (wx Γ W σ) ρ2 H' (Qb Q) (R.ok true ph2) := p2
    have r := post_ok p2 hr2
    exact r
  | false => exact q
theorem st_not {ft : Lo → M Bool} (ha : ST Γ W X a ft) : ST Γ W X (.UnaryOp .Not a pos) (fun L => do let k ← ft L; pure !k) := by
  refine PT_imp (pt_not ha) fun σ H Q g => ?_
  obtain ⟨ρ, ph, L, hr, lo, p⟩ := Go.t (k := fun k L => pure !k) g
  refine ⟨ρ, ph, L, hr, lo, p.imp fun k ρ' H' ph' e hr' q => ?_⟩
  obtain ⟨ρ2, ph2, L2, hr2, lo2, p2⟩ := q
  have p2 : Post Γ (wx Γ W σ) ρ2 H' (Qb Q) (R.ok (!k) ph2) := p2
  have r := post_ok p2 hr2
  exact r
/-! ### calls -/
theorem se_call {k : Nat} {fa : Addr} {fd : FuncData} {ps : List Str} {m : List PV → M PV} {x : Str} {g : Lo → M (List PV)} (F : FnG X.prog X.w X.K X.mg X.base k fa fd ps (spD Γ m)) (hr : Room k X.A) (hg : X.A.guards = some []) (hb : Binds X.K fd ps []) (tk : Takes X W)
    (gl : Gl X x) (hm : X.mg x = some (.ref fa)) (hk : PySem.W.keepIn X.K (.ref fa) = true) (ha : SA Γ W X (e :: es) g) (hd : (x == ("__debug__" : Str)) = false) (hn : (e :: es).all noStarB = true) :
    SE Γ W X (.Call (.Name x p) (e :: es) [] pos) (fun L => do let xs ← g L; m xs) := by
  obtain ⟨n1, n2⟩ := Bool.and_eq_true_iff.mp (show (noStarB e && es.all noStarB) = true from hn)
  refine ⟨fun pins s σ H Q I h => ?_⟩
  refine wpAny_Call_Name_kw (ld_glob I gl hm ?_ hd)
  refine PySem.W.callWith_K (h₀ := X.base) I.ok.mod.kin hk (thn (ha.run pos pins s σ H _ I (Go.a (k := fun xs _ => m xs) h)) fun us s1 ⟨vs, H1, I1, r, q⟩ => ⟨I1.kIn, ?_⟩) (starEach_cons n1) (starEach_none n2)
  obtain ⟨ρ, ph, L, qs, hr1, lo, d, po⟩ := q
  exact call_fnG F hr hg hb tk I1 r hr1 d po
theorem se_call0 {k : Nat} {fa : Addr} {fd : FuncData} {ps : List Str} {m : List PV → M PV} {x : Str} (F : FnG X.prog X.w X.K X.mg X.base k fa fd ps (spD Γ m)) (hr : Room k X.A) (hg : X.A.guards = some []) (hb : Binds X.K fd ps []) (tk : Takes X W)
    (gl : Gl X x) (hm : X.mg x = some (.ref fa)) (hk : PySem.W.keepIn X.K (.ref fa) = true) (hd : (x == ("__debug__" : Str)) = false) :
    SE Γ W X (.Call (.Name x p) [] [] pos) (fun L => do let xs ← pure []; m xs) := by
  refine ⟨fun pins s σ H Q I h => ?_⟩
  refine wpAny_Call_Name_kw (ld_glob I gl hm ?_ hd)
  obtain ⟨ρ, ph, L, hr1, lo, po⟩ := h
  exact PySem.W.callWith_K0 I.kIn hk (call_fnG (us := []) (vs := []) (qs := []) F hr hg hb tk I .nil hr1 .nil po)
theorem Pr.boot (p : Pr) : bootBuiltins p.nm = some p.fn := by
  cases p <;> decide +kernel
theorem Pr.nn (p : Pr) : p.nm ≠ "__name__" ∧ (p.nm == ("__debug__" : Str)) = false := by
  cases p <;> exact ⟨by decide +kernel, by decide +kernel⟩
theorem se_pr {fz : Bool} {pr : Pr} {g : Lo → M (List PV)} (hK : X.K = Γ.K) (hc : X.calm = true) (hg : X.A.guards = some []) (hu : X.A.units + 80 < cLine) (gl : Gl X pr.nm) (hm : X.mg pr.nm = none) (ha : SA Γ W X (e :: es) g) (hn : (e :: es).all noStarB = true) :
    SE Γ W X (.Call (.Name pr.nm p) (e :: es) [] pos) (fun L => do let xs ← g L; primS fz pr xs) := by
  obtain ⟨n1, n2⟩ := Bool.and_eq_true_iff.mp (show (noStarB e && es.all noStarB) = true from hn)
  have hcall := (prim_ok hK hc hg hu fz pr).rd (nx_prim fz pr) (W := W)
  have i : ∀ σ H Q, RdE Γ W (fun L => do let xs ← g L; primS fz pr xs) σ H Q → tCB (fun xs H Q => ∃ σ, GoL Γ W σ H (Qv Γ Q) xs fun ps _ => primS fz pr ps) (RdA Γ W g) σ H Q := fun σ H Q h => by
    obtain ⟨ρ, ph, L, hr, lo, po⟩ := Go.a (k := fun xs _ => primS fz pr xs) h
    exact ⟨ρ, ph, L, hr, lo, po.imp fun v ρ' H' ph' e hr' q x d => ⟨σ, q x d⟩⟩
  have nb : ∀ f, bootBuiltins pr.nm = some f → f = pr.fn := fun f h => by rw [pr.boot] at h; exact (Option.some.inj h).symm
  have boot := pr.boot
  generalize hf : pr.fn = f at hcall boot
  cases f with
  | builtin id => exact PE_imp (pe_callB hcall gl hm boot ha pr.nn.1 pr.nn.2 (starEach_cons n1) (starEach_none n2)) i
  | type T => exact PE_imp (pe_callTy hcall gl hm boot ha pr.nn.1 pr.nn.2 (starEach_cons n1) (starEach_none n2)) i
  | _ => exact absurd hf (by cases pr <;> exact fun z => nomatch z)
end
end Rk

set_option Elab.async false
set_option linter.all false
set_option maxRecDepth 100000
set_option maxHeartbeats 1000000
/-! RkK: expressions, construct by construct, further. -/
namespace Rk
open PySem PySem.Spec L2
open PyProof.Rows (subscriptTail tail_any)

section
variable {Γ : GI} {X : Cx} {W : WX} {ρ : Rz} {H : Hp} {ph : PH} {pins : List (Addr × Obj)} {σ : L2.St} {s : Shared} {e a b c : Expr} {es : List Expr} {f fa fb fc : Lo → M PV} {pos p : Pos}
/-! ### a < b < c -/
theorem cmpV_ok {op : CmpOp} {x y : PV} {h : PH} {W : PX → Rz → Hp → Prop} {Q : PV → Rz → Hp → PH → Prop} (po : Post Γ W ρ H (fun k ρ' H' ph' => Post Γ W ρ' H' Q (.ok (.bl k) ph')) (cmpS op x y h)) : Post Γ W ρ H Q (cmpV op x y h) := by
  unfold cmpV
  rw [bind_def]
  cases e : cmpS op x y h with
  | ok b ph4 =>
    rw [e] at po
    exact fun ρ' H' ex hr => post_ok (po ρ' H' ex hr) hr
  | exc e1 h1 => exact absurd e (nx_cmp _ _ _ _ _ _)
  | stuck =>
    rw [e] at po
    exact po.elim
theorem cmpV_t {op : CmpOp} {x y : PV} {h : PH} {W : PX → Rz → Hp → Prop} {Q : Bool → Hp → Prop} (po : Post Γ W ρ H (Qb Q) (cmpS op x y h)) : Post Γ W ρ H (Qv Γ fun z H' => ∃ k, z = .bl k ∧ Q k H') (cmpV op x y h) := by
  unfold cmpV
  rw [bind_def]
  cases e : cmpS op x y h with
  | ok b ph4 =>
    rw [e] at po
    exact fun ρ' H' ex hr x d => by cases d; exact ⟨b, rfl, po ρ' H' ex hr⟩
  | exc e1 h1 => exact absurd e (nx_cmp _ _ _ _ _ _)
  | stuck =>
    rw [e] at po
    exact po.elim
theorem se_chain {o1 o2 : CmpOp} (hK : X.K = Γ.K) (hu : X.A.units + 64 < cLine) (hm : lastMarks [o1, o2] [b, c] = false) (ha : SE Γ W X a fa) (hb : SE Γ W X b fb) (hc : SE Γ W X c fc) :
    SE Γ W X (.Compare a [o1, o2] [b, c] pos) (fun L => do let x ← fa L; let y ← fb L; let k ← cmpS o1 x y; if k then (do let z ← fc L; cmpV o2 y z) else pure (.bl false)) := by
  refine PE_imp (pe_chain ((cmp_ok hK hu o1).op.rd (nx_cmpV o1) (W := W)) ((cmp_ok hK hu o2).op.rd (nx_cmpV o2) (W := W)) ha hb hc hm) fun σ H Q g => ?_
  obtain ⟨ρ, ph, L, hr, lo, p⟩ := Go.e (k := fun x L => fb L >>= fun y => cmpS o1 x y >>= fun k => if k then (fc L >>= fun z => cmpV o2 y z) else pure (PV.bl false)) g
  refine ⟨ρ, ph, L, hr, lo, p.imp fun v ρ' H' ph' e hr' q x d => ?_⟩
  obtain ⟨ρ2, ph2, L2, hr2, lo2, p2⟩ := Go1.e (k := fun x y L => cmpS o1 x y >>= fun k => if k then (fc L >>= fun z => cmpV o2 y z) else pure (PV.bl false)) (q x d)
  refine ⟨ρ2, ph2, L2, hr2, lo2, p2.imp fun v ρ' H' ph' e hr' q y d => ⟨σ, ?_⟩⟩
  obtain ⟨ρ3, ph3, L3, v3, u3, hr3, lo3, d3, d4, p3⟩ := q y d
  refine ⟨ρ3, ph3, L3, v3, u3, hr3, lo3, d3, d4, cmpV_ok ((Post.bind p3).imp fun k ρ4 H4 ph4 ex4 hr4 p4 => ?_)⟩
  refine fun ρ5 H5 ex5 hr5 z dz => ?_
  cases dz
  refine ⟨k, rfl, ?_⟩
  have p5 := Post.from ex5 p4
  cases k with
  | true =>
    have p5 : Post Γ (wx Γ W σ) ρ5 H5 (Qv Γ Q) ((fc L3 >>= fun z => cmpV o2 u3 z) ph4) := p5
    refine ⟨ρ5, ph4, L3, hr5, (lo3.ext ex4).ext ex5, (Post.bind p5).imp fun w ρ6 H6 ph6 ex6 hr6 p6 z dz => ⟨σ, ρ6, ph6, L3, u3, w, hr6, ((lo3.ext ex4).ext ex5).ext ex6, ((d4.ext ex4).ext ex5).ext ex6, dz, p6⟩⟩
  | false => exact post_val (show Post Γ (wx Γ W σ) ρ5 H5 (Qv Γ Q) (.ok (.bl false) ph4) from p5) hr5 (.bl false)
theorem st_chain {o1 o2 : CmpOp} (hK : X.K = Γ.K) (hu : X.A.units + 64 < cLine) (hm : lastMarks [o1, o2] [b, c] = false) (ha : SE Γ W X a fa) (hb : SE Γ W X b fb) (hc : SE Γ W X c fc) :
    ST Γ W X (.Compare a [o1, o2] [b, c] pos) (fun L => do let x ← fa L; let y ← fb L; let k ← cmpS o1 x y; if k then (do let z ← fc L; cmpS o2 y z) else pure false) := by
  refine PT_imp (pt_chain ((cmp_ok hK hu o1).op.rd (nx_cmpV o1) (W := W)) ((cmp_ok hK hu o2).op.rd (nx_cmpV o2) (W := W)) ha hb hc hm) fun σ H Q g => ?_
  obtain ⟨ρ, ph, L, hr, lo, p⟩ := Go.e (k := fun x L => fb L >>= fun y => cmpS o1 x y >>= fun k => if k then (fc L >>= fun z => cmpS o2 y z) else pure false) g
  refine ⟨ρ, ph, L, hr, lo, p.imp fun v ρ' H' ph' e hr' q x d => ?_⟩
  obtain ⟨ρ2, ph2, L2, hr2, lo2, p2⟩ := Go1.e (k := fun x y L => cmpS o1 x y >>= fun k => if k then (fc L >>= fun z => cmpS o2 y z) else pure false) (q x d)
  refine ⟨ρ2, ph2, L2, hr2, lo2, p2.imp fun v ρ' H' ph' e hr' q y d => ⟨σ, ?_⟩⟩
  obtain ⟨ρ3, ph3, L3, v3, u3, hr3, lo3, d3, d4, p3⟩ := q y d
  refine ⟨ρ3, ph3, L3, v3, u3, hr3, lo3, d3, d4, cmpV_ok ((Post.bind p3).imp fun k ρ4 H4 ph4 ex4 hr4 p4 => ?_)⟩
  refine fun ρ5 H5 ex5 hr5 z dz => ?_
  cases dz
  refine ⟨k, rfl, ?_⟩
  have p5 := Post.from ex5 p4
  cases k with
  | true =>
    have p5 : Post Γ (wx Γ W σ) ρ5 H5 (Qb Q) ((fc L3 >>= fun z => cmpS o2 u3 z) ph4) := p5
    refine ⟨ρ5, ph4, L3, hr5, (lo3.ext ex4).ext ex5, (Post.bind p5).imp fun w ρ6 H6 ph6 ex6 hr6 p6 z dz => ⟨σ, ρ6, ph6, L3, u3, w, hr6, ((lo3.ext ex4).ext ex5).ext ex6, ((d4.ext ex4).ext ex5).ext ex6, dz, ?_⟩⟩
    exact cmpV_t p6
  | false =>
    have p5 : Post Γ (wx Γ W σ) ρ5 H5 (Qb Q) (R.ok false ph4) := p5
    have r := post_ok p5 hr5
    exact ⟨false, rfl, r⟩
theorem st_ife {fc fa fb : Lo → M Bool} (hc : ST Γ W X c fc) (ha : ST Γ W X a fa) (hb : ST Γ W X b fb) : ST Γ W X (.IfExp c a b pos) (fun L => do let k ← fc L; if k then fa L else fb L) := by
  refine ⟨fun pins s σ H Q I g => ?_⟩
  refine PyProof.Rows.isTrue_IfExp (thn (hc.run pins s σ H _ I (Go.t (k := fun k L => if k then fa L else fb L) g)) fun d s1 ⟨H1, I1, q1⟩ => ?_)
  cases d with
  | true => exact ha.run pins s1 σ H1 Q I1 q1
  | false => exact hb.run pins s1 σ H1 Q I1 q1
/-! ### items, slices -/
def plainIxB : Expr → Bool
  | .Slice _ _ _ _ => false
  | _ => true
theorem plainIx_of (h : plainIxB b = true) : PlainIx b := by
  cases b <;> first | exact fun _ _ => rfl | cases h
theorem se_sub (hK : X.K = Γ.K) (hu : X.A.units + 64 < cLine) (hs : plainIxB b = true) (ha : SE Γ W X a fa) (hb : SE Γ W X b fb) : SE Γ W X (.Subscript a b pos) (fun L => do let x ← fa L; let y ← fb L; subS x y) := by
  have hix : IxR X fun x y H Q => ∃ σ, Go2 Γ W σ H (Qv Γ Q) x y fun p q _ => subS p q := by
    intro value slice pins s σ H x y v u Q I rx ry ⟨σ', ρ, ph, L, p, q, hr, lo, dx, dy, po⟩ hs
    exact ix_ok hK hu I rx ry hr dx dy (po.nx (nx_sub p q)) hs
  refine PE_imp (pe_ix hix ha hb (plainIx_of hs)) fun σ H Q g => ?_
  obtain ⟨ρ, ph, L, hr, lo, p⟩ := Go.e (k := fun x L => fb L >>= fun y => subS x y) g
  refine ⟨ρ, ph, L, hr, lo, p.imp fun v ρ' H' ph' e hr' q x d => ?_⟩
  obtain ⟨ρ2, ph2, L2, hr2, lo2, p2⟩ := Go1.e (k := fun x y _ => subS x y) (q x d)
  exact ⟨ρ2, ph2, L2, hr2, lo2, p2.imp fun v ρ' H' ph' e hr' q x d => ⟨σ, q x d⟩⟩
/-- a slice's end: an int, or none -/
def RdO (Γ : GI) (W : WX) (f : Lo → M (Option Int)) : TO := fun σ H Q => Go Γ W σ H (fun o _ H' _ => Q o H') f
theorem so_none : L2.PO X none (RdO Γ W fun _ => pure none) := by
  refine ⟨fun pins s σ H Q I h => po_none.run pins s σ H Q I ?_⟩
  obtain ⟨ρ, ph, L, hr, lo, po⟩ := h
  have r := post_ok (a := (none : Option Int)) po hr
  exact r
theorem so_some (he : SE Γ W X e f) : L2.PO X (some e) (RdO Γ W fun L => do let x ← f L; ixM x) := by
  refine ⟨fun pins s σ H Q I h => (po_some he).run pins s σ H Q I ?_⟩
  obtain ⟨ρ, ph, L, hr, lo, po⟩ := Go.e (k := fun x _ => ixM x) h
  refine ⟨ρ, ph, L, hr, lo, po.imp fun v ρ' H' ph' e hr' q x d => ?_⟩
  obtain ⟨ρ2, ph2, L2, v2, hr2, lo2, d2, p2⟩ := q x d
  have p2 : Post Γ (wx Γ W σ) ρ2 H' (fun o _ H' _ => Q o H') (ixM v2 ph2) := p2
  unfold ixM at p2
  split at p2
  · rename_i e1
    obtain ⟨rfl, -⟩ := vwAt hr2 d2 e1
    have r := post_ok p2 hr2
    exact ⟨_, rfl, r⟩
  · exact p2.elim
theorem se_sl {fz : Bool} {lo hi : Option Expr} {fl fh : Lo → M (Option Int)} {p2 : Pos} (hK : X.K = Γ.K) (ha : SE Γ W X a fa) (hl : L2.PO X lo (RdO Γ W fl)) (hh : L2.PO X hi (RdO Γ W fh)) :
    SE Γ W X (.Subscript a (.Slice lo hi none p2) pos) (fun L => do let x ← fa L; let l ← fl L; let u ← fh L; slS fz x l u) := by
  have hsl : SlR X fun x l u H Q => ∃ (ρ : Rz) (ph : PH) (σ : L2.St) (v : PV), HR Γ ρ H ph ∧ Den Γ.K ρ H x v ∧ Post Γ (wx Γ W σ) ρ H (Qv Γ Q) (slS fz v l u ph) := by
    intro pins s σ H x v vl vu lo hi sl Q I rx hs pl pu ⟨ρ, ph, σ', v', hr, d, po⟩
    exact sl_ok hK fz I rx hs pl pu hr d (po.nx (nx_sl fz v' lo hi))
  refine PE_imp (pe_slice hsl ha hl hh) fun σ H Q g => ?_
  obtain ⟨ρ, ph, L, hr, lo, p⟩ := Go.e (k := fun x L => fl L >>= fun l => fh L >>= fun u => slS fz x l u) g
  refine ⟨ρ, ph, L, hr, lo, p.imp fun v ρ' H' ph' e hr' q x d => ?_⟩
  obtain ⟨ρ2, ph2, L2, v2, hr2, lo2, d2, p2⟩ := q x d
  refine ⟨ρ2, ph2, L2, hr2, lo2, (Post.bind p2).imp fun l ρ3 H3 ph3 ex3 hr3 p3 => ?_⟩
  exact ⟨ρ3, ph3, L2, hr3, lo2.ext ex3, (Post.bind p3).imp fun u ρ4 H4 ph4 ex4 hr4 p4 => ⟨ρ4, ph4, σ, v2, hr4, (d2.ext ex3).ext ex4, p4⟩⟩
/-! ### methods of built-in types -/
def notSuperB : Expr → Bool
  | .Call _ _ _ _ => false
  | _ => true
theorem base_of {o : Expr} {x : Str} {env : Env} (h : notSuperB o = true) : attributeBase o x env (eval o env) = eval o env := by
  cases o <;> first | rfl | cases h
def nm3 : Str → Bool := fun x => !(x == ("super" : Str))
theorem se_mt {fz : Bool} {m : Mt} {g : Lo → M (List PV)} {apos : Pos} (hK : X.K = Γ.K) (ho : SE Γ W X a fa) (hg : SA Γ W X (e :: es) g) (hb : attributeBase a m.nm X.env (eval a X.env) = eval a X.env) (hl : (apos.endLine == pos.line) = true) (hn : (e :: es).all noStarB = true) (h30 : (e :: es).length < 30) :
    SE Γ W X (.Call (.Attribute a m.nm apos) (e :: es) [] pos) (fun L => do let x ← fa L; let _ ← kindS m.ty x; let xs ← g L; mthS fz m x xs) := by
  obtain ⟨n1, n2⟩ := Bool.and_eq_true_iff.mp (show (noStarB e && es.all noStarB) = true from hn)
  have hm : MtR X m.id fun x xs H Q => ∃ σ, Go1L Γ W σ H (Qv Γ Q) x xs fun p ps _ => mthS fz m p ps := by
    intro pins s σ H x xs v us Q I rx rs ⟨σ', ρ, ph, L, p, ps, hr, lo, dx, ds, po⟩
    exact mth_ok hK fz m I rx rs hr dx ds (po.nx (nx_mth fz m p ps))
  have all_ns : ∀ {es : List Expr}, es.all noStarB = true → (backTo pos (starEach es X.env)).all (fun x => !x.1) = true ∧ (starEach es X.env).length = es.length := by
    intro es
    induction es with
    | nil => intro _; exact ⟨rfl, rfl⟩
    | cons e es ih =>
      intro h
      obtain ⟨h1, h2⟩ := Bool.and_eq_true_iff.mp (show (noStarB e && es.all noStarB) = true from h)
      obtain ⟨i1, i2⟩ := ih h2
      rw [starEach_cons h1]
      exact ⟨i1, by simp [i2]⟩
  have hfew : ((backTo pos (starEach (e :: es) X.env)).all (fun x => !x.1) && (backToKw pos (keywordEach [] X.env)).all (fun x => x.1.isSome)
      && decide ((e :: es).length + ([] : List Keyword).length + (if ([] : List Keyword).isEmpty then 0 else 1) < 30)) = true := by
    rw [(all_ns hn).1]
    show (true && true && decide ((e :: es).length + 0 + 0 < 30)) = true
    simpa using h30
  refine PE_imp (pe_bm (mt_pa m) (mt_slot m) (mt_type m) hm ho hg hb hfew hl (starEach_cons n1) (starEach_none n2)) fun σ H Q h => ?_
  obtain ⟨ρ, ph, L, hr, lo, p⟩ := Go.e (k := fun x L => kindS m.ty x >>= fun _ => g L >>= fun xs => mthS fz m x xs) h
  refine ⟨ρ, ph, L, hr, lo, p.imp fun v ρ' H' ph' e hr' q x d => ?_⟩
  obtain ⟨ρ2, ph2, L2, v2, hr2, lo2, d2, p2⟩ := q x d
  obtain ⟨ty, p3⟩ := kind_tyV hK hr2 d2 (Post.bind p2)
  refine ⟨ty, ?_⟩
  have g2 : Go1 Γ W σ H' (Qv Γ Q) x fun v L => g L >>= fun xs => mthS fz m v xs := ⟨ρ2, ph2, L2, v2, hr2, lo2, d2, p3⟩
  obtain ⟨ρ4, ph4, L4, hr4, lo4, p4⟩ := Go1.a (k := fun v xs _ => mthS fz m v xs) g2
  exact ⟨ρ4, ph4, L4, hr4, lo4, p4.imp fun vs ρ' H' ph' e hr' q xs ds => ⟨σ, q xs ds⟩⟩
/-! ### isinstance -/
theorem nx_isi (t : Ty) (p : PV) : NX (isiS t p) := fun h e h' z => nx_opt z
theorem isi_ok (hK : X.K = Γ.K) (t : Ty) {x : V} {p : PV} {u1 u2 : Value} {Q : VK} (I : Inv X pins σ H s) (rx : RelV x u1) (ru : RelV (.ty t.nm) u2) (hr : HR Γ ρ H ph) (dx : Den Γ.K ρ H x p)
    (po : Post Γ W0 ρ H (Qv Γ Q) (isiS t p ph)) : wpAny (model X.prog X.w) X.A (call (.builtin "isinstance") [u1, u2]) (EP X pins σ Q) X.xe s := by
  unfold isiS at po
  obtain ⟨_, e1, po⟩ := post_opt po
  obtain ⟨b, e2, rfl⟩ := map_some e1
  have q : Q (.bl b) H := post_val po hr (.bl b)
  have fin : ∀ {ty : Value}, TyX X.K H x ty → PySem.W.kitOne X.K ty (.type t.nm) = some b → wpAny (model X.prog X.w) X.A (call (.builtin "isinstance") [u1, u2]) (EP X pins σ Q) X.xe s := fun {ty} h k =>
    call_isi pins s σ H [x, .ty t.nm] [u1, u2] Q I (.cons rx (.cons ru .nil)) ⟨x, .ty t.nm, ty, .type t.nm, b, rfl, .ty _, h, k, q⟩
  unfold isTy at e2
  split at e2
  · rename_i e3
    obtain ⟨rfl, -⟩ := vwAt hr dx e3
    cases e2
    exact fin (.base .non) (kit_ty (by cases t <;> decide +kernel))
  · rename_i e3
    obtain ⟨rfl, -⟩ := vwAt hr dx e3
    cases e2
    exact fin (.base (.bl _)) (kit_ty (by cases t <;> decide +kernel))
  · rename_i e3
    obtain ⟨rfl, -⟩ := vwAt hr dx e3
    cases e2
    exact fin (.base (.int _)) (kit_ty (by cases t <;> decide +kernel))
  · rename_i e3
    obtain ⟨rfl, -⟩ := vwAt hr dx e3
    cases e2
    exact fin (.base (.str _)) (kit_ty (by cases t <;> decide +kernel))
  · rename_i e3
    obtain ⟨a, vs, rfl, -, g, r⟩ := vwAt hr dx e3
    cases e2
    have k : PySem.W.kitOne X.K (.type "tuple") (.type t.nm) = some (t == .tuple) := kit_ty (by cases t <;> decide +kernel)
    rcases g with ⟨g | ⟨o, g⟩, _⟩ | ⟨o, its, n, g, c, _⟩
    · exact fin (.base (.tup g)) k
    · exact fin (.fTuple g) k
    · exact fin (.kTuple (hK ▸ g) c) k
  · rename_i e3
    obtain ⟨a, vs, rfl, g, r, -⟩ := vwAt hr dx e3
    cases e2
    have k : PySem.W.kitOne X.K (.type "list") (.type t.nm) = some (t == .list) := kit_ty (by cases t <;> decide +kernel)
    rcases g with (g | ⟨o, g⟩) | ⟨o, its, n, g, c, _⟩
    · exact fin (.base (.lst g)) k
    · exact fin (.base (.frz g)) k
    · exact fin (.kList (hK ▸ g) c) k
  · rename_i e3
    obtain ⟨a, vs, rfl, g, r, -⟩ := vwAt hr dx e3
    cases e2
    have k : PySem.W.kitOne X.K (.type "dict") (.type t.nm) = some (t == .dict) := kit_ty (by cases t <;> decide +kernel)
    rcases g with ⟨_, g⟩ | ⟨o, _, g⟩
    · exact fin (.base (.dK g)) k
    · exact fin (.fDict g) k
  · cases e2
def Ty.sn : Ty → Str
  | .int => "int" | .bool => "bool" | .str => "str" | .tuple => "tuple" | .list => "list" | .dict => "dict"
theorem Ty.boot (t : Ty) : bootBuiltins t.sn = some (.type t.nm) ∧ t.sn ≠ "__name__" ∧ (t.sn == ("__debug__" : Str)) = false := by
  cases t <;> exact ⟨by decide +kernel, by decide +kernel, by decide +kernel⟩
theorem boot_isi : bootBuiltins "isinstance" = some (.builtin "isinstance") := by decide +kernel
theorem se_isi {t : Ty} {p2 : Pos} (hK : X.K = Γ.K) (gl : Gl X "isinstance") (hm : X.mg "isinstance" = none) (gt : Gl X t.sn) (ht : X.mg t.sn = none) (ha : SE Γ W X a fa) (hn : noStarB a = true) :
    SE Γ W X (.Call (.Name "isinstance" p) [a, .Name t.sn p2] [] pos) (fun L => do let x ← fa L; isiS t x) := by
  have hc : CallR X (.builtin "isinstance") fun xs H Q => ∃ x, xs = [x, .ty t.nm] ∧ ∃ σ, Go1 Γ W σ H (Qv Γ Q) x fun p _ => isiS t p := by
    intro pins s σ H xs us Q I rs ⟨x, e, σ', ρ, ph, L, p, hr, lo, dx, po⟩
    subst e
    obtain ⟨u1, u2, rfl, r1, r2⟩ := vals2 rs
    exact isi_ok hK t I r1 r2 hr dx (po.nx (nx_isi t p))
  have hty : PE X (.Name t.sn p2) (tC (.ty t.nm)) := pe_bltn gt ht t.boot.1 rfl t.boot.2.1 t.boot.2.2
  refine PE_imp (pe_callB hc gl hm boot_isi (pa_cons ha (pa_cons hty pa_nil (starEach_cons rfl)) (starEach_cons hn)) (by decide +kernel) (by decide +kernel) (starEach_cons hn) (starEach_none rfl)) fun σ H Q h => ?_
  obtain ⟨ρ, ph, L, hr, lo, p⟩ := Go.e (k := fun x _ => isiS t x) h
  exact ⟨ρ, ph, L, hr, lo, p.imp fun v ρ' H' ph' e hr' q x d => ⟨x, rfl, σ, q x d⟩⟩
end
end Rk

set_option Elab.async false
set_option linter.all false
set_option maxRecDepth 100000
set_option maxHeartbeats 1000000
/-! RkK2: expressions, construct by construct: reversed lists, lists repeated, keywords, enumerate, dict comprehensions. -/
namespace Rk
open PySem PySem.Spec L2

section
variable {Γ : GI} {X : Cx} {W : WX} {ρ : Rz} {H : Hp} {ph : PH} {pins : List (Addr × Obj)} {σ : L2.St} {s : Shared} {e a b c : Expr} {es : List Expr} {f fa fb fc : Lo → M PV} {pos p : Pos}
theorem nx_rev (fz : Bool) (x : PV) : NX (revS fz x) := fun h e h' z => by
  unfold revS at z
  split at z
  · exact nx_fresh _ _ _ _ _ z
  · cases z
theorem se_rev {fz : Bool} {k : Nat} {p1 p2 p3 : Pos} (hK : X.K = Γ.K) (ha : SE Γ W X a fa) : SE Γ W X (.Subscript a (.Slice none none (some (.UnaryOp .USub (.Constant (.int 1) k p1) p2)) p3) pos) (fun L => do let x ← fa L; revS fz x) := by
  refine PE_imp (pe_revL ha) fun σ H Q h => ?_
  obtain ⟨ρ, ph, L, hr, lo, po⟩ := Go.e (k := fun x _ => revS fz x) h
  refine ⟨ρ, ph, L, hr, lo, po.imp fun v ρ' H' ph' e hr' q x d => ?_⟩
  obtain ⟨ρ2, ph2, L2, v2, hr2, lo2, d2, po2⟩ := q x d
  have po2 : Post Γ _ _ _ _ (revS fz v2 ph2) := po2
  unfold revS at po2
  split at po2
  · rename_i xs e1
    obtain ⟨l, vs, rfl, hq, r, -⟩ := vwAt hr2 d2 e1
    obtain ⟨hz, q⟩ := post_fresh po2 hr2 r.reverse
    exact ⟨l, vs, rfl, hK ▸ hq, q⟩
  · exact po2.elim
/-! ### a list so many times -/
theorem denL_rep {K : PySem.W.Frag} {vs : List V} {xs : List PV} (r : DenL K ρ H vs xs) : ∀ n : Nat, DenL K ρ H (List.replicate n vs).flatten (List.replicate n xs).flatten
  | 0 => .nil
  | n + 1 => by
    rw [List.replicate_succ, List.replicate_succ, List.flatten_cons, List.flatten_cons]
    exact r.append (denL_rep r n)
theorem nx_rep (fz : Bool) (xs : List PV) (x : PV) : NX (repS fz xs x) := fun h e h' z => by
  unfold repS at z
  split at z
  · split at z
    · exact nx_fresh _ _ _ _ _ z
    · cases z
  · cases z
theorem se_rep {fz : Bool} {g : Lo → M (List PV)} (h : SA Γ W X es g) (ha : SE Γ W X a fa) : SE Γ W X (.BinOp (.List es p) .Mult a pos) (fun L => do let xs ← g L; let _ ← szS xs; let j ← fa L; repS fz xs j) := by
  refine PE_imp (pe_op op_rep (pe_lst h) ha) fun σ H Q q => ?_
  obtain ⟨ρ, ph, L, hr, lo, po⟩ := Go.a (k := fun xs L => szS xs >>= fun _ => fa L >>= fun j => repS fz xs j) q
  refine ⟨ρ, ph, L, hr, lo, po.imp fun v ρ1 H1 ph1 e1 hr1 q x d => ?_⟩
  obtain ⟨ρ2, ph2, L2, v2, hr2, lo2, d2, po2⟩ := q x d
  have po2 : Post Γ (wx Γ W σ) ρ2 H1 (Qv Γ Q) ((szS v2 >>= fun _ => fa L2 >>= fun j => repS fz v2 j) ph2) := po2
  rw [bind_def] at po2
  unfold szS at po2
  by_cases hz : v2.length ≤ sizeLine
  · rw [if_pos hz] at po2
    have po2 : Post Γ (wx Γ W σ) ρ2 H1 (Qv Γ Q) ((fa L2 >>= fun j => repS fz v2 j) ph2) := po2
    refine ⟨by rw [d2.length]; exact hz, fun p0 n0 => ?_⟩
    refine ⟨ρ2, ph2, L2, hr2.laid n0, lo2.ext (Ext.laid n0), ?_⟩
    refine ((Post.bind po2).from (Ext.laid n0)).imp fun j ρ3 H3 ph3 e3 hr3 po3 y dy => ?_
    have h0 : H3 p0 = some (.lst x) := e3.keep _ _ upd_same (Rz.out_r (hr2.out n0)) fun _ z => nomatch z
    have d3 := (d2.ext (Ext.laid n0 (o := .lst x))).ext e3
    have po3 : Post Γ (wx Γ W σ) ρ3 H3 (Qv Γ Q) (repS fz v2 j ph3) := po3
    unfold repS at po3
    split at po3
    · rename_i k ek
      obtain ⟨⟨c1, c2, c3⟩, po3⟩ := post_if po3
      obtain ⟨rfl, -⟩ := vwAt hr3 dy ek
      obtain ⟨_, q⟩ := post_fresh po3 hr3 (denL_rep d3 k.toNat)
      exact ⟨p0, k, x, rfl, rfl, h0, by omega, by omega, by rw [d3.length]; exact c1, q⟩
    · exact po3.elim
  · rw [if_neg hz] at po2
    exact po2.elim
/-! ### keywords -/
/-- what a call with keywords binds: n values by place, the keywords ks; pm: where each parameter's value stands in the row of them -/
def KB (K : PySem.W.Frag) (fd : FuncData) (ps : List Str) (n : Nat) (ks : List Str) (pm : List Nat) : Prop :=
  ∀ (s : Shared) (us ws : List Value), K.In s.heap → us.length = n → ws.length = ks.length → BindsTo s fd ⟨us, ks.zip ws⟩ (ps.zip (pm.filterMap fun j => (us ++ ws)[j]?))
/-- the values of the keywords -/
def kwE (kws : List Keyword) : List Expr := kws.map (·.value)
def kwN (kws : List Keyword) : List Str := kws.filterMap (·.arg)
theorem kw_all {env : Env} : ∀ {kws : List Keyword}, kws.all (fun k => k.arg.isSome) = true → (backToKw pos (keywordEach kws env)).all (·.1.isSome) = true ∧ (backToKw pos (keywordEach kws env)).filterMap (·.1) = kwN kws ∧ (backToKw pos (keywordEach kws env)).any (·.1.isNone) = false
  | [], _ => ⟨rfl, rfl, rfl⟩
  | k :: kws, h => by
    obtain ⟨h1, h2⟩ := Bool.and_eq_true_iff.mp (show (k.arg.isSome && kws.all fun k => k.arg.isSome) = true from h)
    obtain ⟨i1, i2, i3⟩ := kw_all (env := env) h2
    obtain ⟨ar, v, pp⟩ := k
    cases ar with
    | none => cases h1
    | some n =>
      refine ⟨i1, ?_, i3⟩
      show n :: (backToKw pos (keywordEach kws env)).filterMap (·.1) = n :: kwN kws
      rw [i2]
theorem sk_nil : PK X [] (RdA Γ W fun _ => pure []) := ⟨fun pos pins s σ H Q I h => by
  obtain ⟨ρ, ph, L, hr, lo, po⟩ := h
  exact pk_nil.run pos pins s σ H Q I (post_ok po hr _ .nil)⟩
theorem sk_cons {nm : Option Str} {kpos : Pos} {kws : List Keyword} {g : Lo → M (List PV)} (he : SE Γ W X e f) (hr : PK X kws (RdA Γ W g)) : PK X (⟨nm, e, kpos⟩ :: kws) (RdA Γ W fun L => do let x ← f L; let xs ← g L; pure (x :: xs)) := by
  refine ⟨fun pos pins s σ H Q I h => (pk_cons he hr).run pos pins s σ H Q I ?_⟩
  obtain ⟨ρ, ph, L, hr, lo, po⟩ := Go.e (k := fun x L => g L >>= fun xs => pure (x :: xs)) h
  refine ⟨ρ, ph, L, hr, lo, po.imp fun v ρ' H' ph' e hr' q x d => ?_⟩
  obtain ⟨ρ2, ph2, L2, hr2, lo2, po2⟩ := Go1.a (k := fun x xs _ => pure (x :: xs)) (q x d)
  refine ⟨ρ2, ph2, L2, hr2, lo2, po2.imp fun vs ρ' H' ph' e hr' q xs ds => ?_⟩
  obtain ⟨ρ3, ph3, L3, v3, vs3, hr3, lo3, d3, ds3, po3⟩ := q xs ds
  exact post_ok po3 hr3 _ (.cons d3 ds3)
theorem vals_pm {us : List Value} {vs : List V} (r : Vals vs us) : ∀ pm : List Nat, Vals (pm.filterMap fun j => vs[j]?) (pm.filterMap fun j => us[j]?)
  | [] => .nil
  | j :: pm => by
    have i := vals_pm r pm
    cases e : vs[j]? with
    | none =>
      have e2 : us[j]? = none := by
        rw [List.getElem?_eq_none_iff] at e ⊢
        rw [← r.length]
        exact e
      rw [List.filterMap_cons_none e, List.filterMap_cons_none e2]
      exact i
    | some v =>
      obtain ⟨u, e2, rv⟩ := r.get e
      rw [List.filterMap_cons_some e, List.filterMap_cons_some e2]
      exact .cons rv i
theorem den_pm {K : PySem.W.Frag} {vs : List V} {xs : List PV} (r : DenL K ρ H vs xs) : ∀ pm : List Nat, DenL K ρ H (pm.filterMap fun j => vs[j]?) (pm.filterMap fun j => xs[j]?)
  | [] => .nil
  | j :: pm => by
    have i := den_pm r pm
    cases e : vs[j]? with
    | none =>
      have e2 : xs[j]? = none := by
        rw [List.getElem?_eq_none_iff] at e ⊢
        rw [← r.length]
        exact e
      rw [List.filterMap_cons_none e, List.filterMap_cons_none e2]
      exact i
    | some v =>
      obtain ⟨u, e2, rv⟩ := r.getV e
      rw [List.filterMap_cons_some e, List.filterMap_cons_some e2]
      exact .cons rv i
/-- a call whose values are there -/
theorem call_fnK {k n : Nat} {f : Addr} {fd : FuncData} {ps ks : List Str} {pm : List Nat} {m : List PV → M PV} {us ws : List Value} {vs zs : List V} {qs : List PV} {Q : VK} (F : FnG X.prog X.w X.K X.mg X.base k f fd ps (spD Γ m)) (hr : Room k X.A) (hg : X.A.guards = some [])
    (hb : KB X.K fd ps n ks pm) (tk : Takes X W) (I : Inv X pins σ H s) (r : Vals vs us) (rz : Vals zs ws) (l1 : us.length = n) (l2 : ws.length = ks.length) (h : HR Γ ρ H ph) (d : DenL Γ.K ρ H (vs ++ zs) qs)
    (po : Post Γ (wx Γ W σ) ρ H (Qv Γ Q) (m (pm.filterMap fun j => qs[j]?) ph)) : wpAny (model X.prog X.w) X.A (call (.ref f) us (ks.zip ws)) (EP X pins σ Q) X.xe s := by
  have hsp : spD Γ m (pm.filterMap fun j => (vs ++ zs)[j]?) H Q (fun cls d H' => W cls d σ H') := ⟨ρ, ph, _, h, den_pm d pm, po⟩
  refine wpAny_call (codeAny_mono (F.run X.A X.stack s H ⟨us, ks.zip ws⟩ (pm.filterMap fun j => (us ++ ws)[j]?) _ Q (fun cls d H' => W cls d σ H') hr hg I.env0 (hb s us ws I.kIn l1 l2) (vals_pm (r.append rz) pm) hsp) fun r s' hq => ?_)
  cases r with
  | error e => exact tk e s' (XE.of_call I (fun cls d H' z => z) hq)
  | ok fl =>
    cases fl with
    | ret u => exact I.after hq
    | next => exact False.elim hq
    | brk => exact False.elim hq
    | cont => exact False.elim hq
theorem go_two {α : Type} {Q : α → Rz → Hp → PH → Prop} {xs : List V} {g : Lo → M (List PV)} {m : List PV → List PV → Lo → M α} (h : GoL Γ W σ H Q xs fun vs L => g L >>= fun us => m vs us L) :
    RdA Γ W g σ H fun ys H1 => ∃ ρ ph L vs us, HR Γ ρ H1 ph ∧ LoR Γ.K ρ H1 σ L ∧ DenL Γ.K ρ H1 xs vs ∧ DenL Γ.K ρ H1 ys us ∧ Post Γ (wx Γ W σ) ρ H1 Q (m vs us L ph) := by
  obtain ⟨ρ, ph, L, vs, hr, lo, ds, po⟩ := h
  exact ⟨ρ, ph, L, hr, lo, (Post.bind po).imp fun us ρ' H' ph' e hr' q ys d => ⟨ρ', ph', L, vs, us, hr', lo.ext e, ds.ext e, d, q⟩⟩
theorem se_callK {k n : Nat} {fa : Addr} {fd : FuncData} {ps ks : List Str} {pm : List Nat} {m : List PV → M PV} {x : Str} {kws : List Keyword} {g gk : Lo → M (List PV)} (F : FnG X.prog X.w X.K X.mg X.base k fa fd ps (spD Γ m)) (hr : Room k X.A) (hg : X.A.guards = some []) (hb : KB X.K fd ps n ks pm) (tk : Takes X W)
    (gl : Gl X x) (hm : X.mg x = some (.ref fa)) (hk : PySem.W.keepIn X.K (.ref fa) = true) (ha : SA Γ W X es g) (h0g : es = [] → ∀ L h, g L h = .ok [] h) (hkw : PK X kws (RdA Γ W gk)) (hd : (x == ("__debug__" : Str)) = false) (hn : es.all noStarB = true)
    (kn : kws.all (fun k => k.arg.isSome) = true) (ek : kwN kws = ks) :
    SE Γ W X (.Call (.Name x p) es kws pos) (fun L => do let xs ← g L; let ys ← gk L; kwS n ks.length pm m xs ys) := by
  obtain ⟨k1, k2, k3⟩ := kw_all (pos := pos) (env := X.env) kn
  refine ⟨fun pins s σ H Q I h => ?_⟩
  have h0 := Go.a (k := fun xs L => gk L >>= fun ys => kwS n ks.length pm m xs ys) h
  have fin : ∀ {us : List Value} {vs : List V} {s1 : Shared} {H1 : Hp}, Inv X pins σ H1 s1 → Vals vs us → GoL Γ W σ H1 (Qv Γ Q) vs (fun xs L => gk L >>= fun ys => kwS n ks.length pm m xs ys) →
      wpAny (model X.prog X.w) X.A (evalAll ((backToKw pos (keywordEach kws X.env)).map (·.2))) (fun zs s₂ => X.K.In s₂.heap ∧ wpAny (model X.prog X.w) X.A (call (.ref fa) ([] ++ us) (((backToKw pos (keywordEach kws X.env)).filterMap (·.1)).zip zs)) (EP X pins σ Q) X.xe s₂) X.xe s1 := by
    intro us vs s1 H1 I1 r q
    refine wpAny_mono (hkw.run pos pins s1 σ H1 _ I1 (go_two q)) (fun ws s2 ⟨zs, H2, I2, rz, q2⟩ => ⟨I2.kIn, ?_⟩) fun _ _ z => z
    obtain ⟨ρ, ph, L, xs, ys, hr1, lo, d1, d2, po⟩ := q2
    rw [k2, ek, List.nil_append]
    have po : Post Γ (wx Γ W σ) ρ H2 (Qv Γ Q) (if xs.length = n ∧ ys.length = ks.length then m (pm.filterMap fun j => (xs ++ ys)[j]?) ph else .stuck) := po
    obtain ⟨⟨l1, l2⟩, po⟩ := post_if po
    exact call_fnK F hr hg hb tk I2 r rz (by rw [← r.length, d1.length]; exact l1) (by rw [← rz.length, d2.length]; exact l2) hr1 (d1.append d2) po
  refine wpAny_Call_Name_kw (ld_glob I gl hm ?_ hd)
  cases es with
  | nil =>
    refine PySem.W.callWith_KW0 (h₀ := X.base) I.ok.mod.kin hk k1 ?_ ?_
    · refine fin I .nil ?_
      obtain ⟨ρ, ph, L, hr1, lo, po⟩ := h
      have po : Post Γ (wx Γ W σ) ρ H (Qv Γ Q) ((g L >>= fun xs => gk L >>= fun ys => kwS n ks.length pm m xs ys) ph) := po
      rw [bind_def, h0g rfl] at po
      exact ⟨ρ, ph, L, [], hr1, lo, .nil, po⟩
    · show ((backTo pos []).any (·.1) || _) = false
      rw [k3]
      rfl
  | cons e es =>
    obtain ⟨n1, n2⟩ := Bool.and_eq_true_iff.mp (show (noStarB e && es.all noStarB) = true from hn)
    refine PySem.W.callWith_KW (h₀ := X.base) I.ok.mod.kin hk k1 (thn (ha.run pos pins s σ H _ I h0) fun us s1 ⟨vs, H1, I1, r, q⟩ => fin I1 r q) ?_ (starEach_cons n1)
    rw [k3, starEach_none (pos := pos) (env := X.env) hn]
    rfl
/-! ### enumerate -/
theorem enumL_at : ∀ (xs : List PV) (k i : Nat) (p : PV), (enumL k xs)[i]? = some p → ∃ x, xs[i]? = some x ∧ p = .tup [.int ((k + i : Nat) : Int), x]
  | [], k, i, p, e => by simp [enumL] at e
  | x :: xs, k, 0, p, e => by
    have e : some (PV.tup [.int (k : Int), x]) = some p := e
    cases e
    exact ⟨x, rfl, rfl⟩
  | x :: xs, k, i + 1, p, e => by
    have e : (enumL (k + 1) xs)[i]? = some p := e
    obtain ⟨y, h1, h2⟩ := enumL_at xs (k + 1) i p e
    exact ⟨y, h1, by rw [h2, show k + 1 + i = k + (i + 1) by omega]⟩
theorem enumL_len : ∀ (xs : List PV) (k : Nat), (enumL k xs).length = xs.length
  | [], _ => rfl
  | x :: xs, k => by
    show (enumL (k + 1) xs).length + 1 = _
    rw [enumL_len xs (k + 1)]
    rfl
theorem jw_enum {a : Addr} {vs : List V} {xs : List PV} : JW Γ (.fx (enumL 0 xs)) (Ite Γ.K a) fun ρ H => FzL Γ.K ρ H a vs ∧ DenL Γ.K ρ H vs xs where
  ext := fun ρ H ρ' H' h e => ⟨h.1.ext e, h.2.ext e⟩
  mov := fun ρ H ρ' H' h e => ⟨h.1.mov e, h.2.mov e⟩
  stop := fun ρ H ph i ys hr h e hl => by
    cases e
    exact ⟨vs, h.1.sq, by rw [h.2.length, ← enumL_len xs 0]; exact hl⟩
  go := fun ρ H ph i ys p hr h e hi => by
    cases e
    obtain ⟨x, hx, rfl⟩ := enumL_at xs 0 i p hi
    obtain ⟨v, h1, h2⟩ := h.2.get hx
    refine ⟨⟨vs, v, h.1.sq, h1⟩, fun y H' ⟨T, z, e1, nT, e2, e3⟩ => ?_⟩
    subst e1 e2
    have e3 := e3 vs h.1.sq
    rw [h1] at e3
    cases e3
    refine ⟨ρ, Ext.laid nT, hr.laid nT, .tup (.inl ⟨.inl upd_same, hr.out nT⟩) ?_⟩
    rw [Nat.zero_add]
    exact .cons (.int _) (.cons (h2.ext (Ext.laid nT)) .nil)
theorem si_enum {elts : List Expr} {kk : Nat} {tpos : Pos} (hK : X.K = Γ.K) (hg : Gl X "enumerate") (hm : X.mg "enumerate" = none) (ha : SE Γ W X a fa) (hs : starEach [a] X.env = [(false, eval a X.env)]) :
    SI Γ W X (.Tuple elts kk tpos) (.Call (.Name "enumerate" p) [a] [] pos) (fun L => do let x ← fa L; enumS x) := by
  refine PI_imp (pi_enum (ta := tCons (RdE Γ W fa) tNil) hg hm (pa_cons ha pa_nil hs) hs) fun σ H R h => ?_
  show RdE Γ W fa σ H fun x H1 => _
  obtain ⟨ρ, ph, L, hr, lo, po⟩ := Go.e (k := fun x _ => enumS x) h
  refine ⟨ρ, ph, L, hr, lo, po.imp fun v ρ' H' ph' e hr' q x d => ?_⟩
  obtain ⟨ρ2, ph2, L2, v2, hr2, lo2, d2, po2⟩ := q x d
  have po2 : Post Γ (wx Γ W σ) _ _ _ (enumS v2 ph2) := po2
  unfold enumS at po2
  split at po2
  · exact po2.elim
  · rename_i hp
    split at po2
    · rename_i xs e1
      obtain ⟨l, vs, rfl, f, r, h⟩ := vwAt hr2 d2 e1
      rcases h with ⟨z, fz⟩ | ⟨k, z, hn, hH⟩
      · exact ⟨l, vs, rfl, hK ▸ f, by rw [hK]; exact post_ok po2 hr2 _ _ jw_enum ⟨fz, r⟩⟩
      · exact absurd z (hp k)
    · exact po2.elim
end
end Rk

set_option Elab.async false
set_option linter.all false
set_option maxRecDepth 100000
set_option maxHeartbeats 2000000
/-! RkK3: try .. except (C1, C2) as e: x = e. -/
namespace Rk
open PySem PySem.Spec L2

section
variable {X : Cx} {pins : List (Addr × Obj)} {σ : L2.St} {H : Hp} {s : Shared}
/-- a flight goes on over a heap that grew -/
theorem fly_grow {B h h' : Heap} {l : List Env} {a : Addr} {Z : Obj → Prop} (f : HandSPX.FlyingZ B l a Z h) (k : ∀ b o, h.get? b = some o → h'.get? b = some o) : HandSPX.FlyingZ B l a Z h' := by
  obtain ⟨f1, f2, f3, oe, vs, T, oT, ts, g1, g2, g3, g4, g5, g6, g7, g8, g9⟩ := f
  exact ⟨fun b o e => k b o (f1 b o e), f2, f3.of_keeps fun b o e _ => ⟨o, k b o e, rfl⟩, oe, vs, T, oT, ts, k _ _ g1, g2, g3, g4, g5, g6, k _ _ g7, g8, g9⟩
theorem up_grow {h h' h'' : Heap} (u : h.UpToSlots h') (k : ∀ b o, h'.get? b = some o → h''.get? b = some o) : h.UpToSlots h'' := fun b o e n =>
  let ⟨sl, q⟩ := u b o e n; ⟨sl, k _ _ q⟩
/-- what an except clause's expression looks for: with this class the answer is b -/
def Catches (X : Cx) (te : Expr) (cls : Value) (b : Bool) : Prop :=
  ∀ (a : Addr) (oe : Obj) (pn pins : List (Addr × Obj)) (σ : L2.St) (H : Hp) (s : Shared) (Q : Bool → Shared → Prop) (E E' : Value → Shared → Prop), Inv (X.suite a ((a, oe) :: pn)) pins σ H s → PySem.W.Looks (model X.prog X.w) s.heap (typeOf (.ref a)) cls →
    (∀ (h' : Heap) (tk : Nat), (∀ b o, s.heap.get? b = some o → h'.get? b = some o) → Q b { s with heap := h', toks := tk }) →
    wpAny (model X.prog X.w) (X.A.mark (some (.ref a))) (eval te X.env) (fun c s1 => wpAny (model X.prog X.w) (X.A.mark (some (.ref a))) (excMatches (.ref a) c) Q E s1) E' s
theorem catches_one {x : Str} {c cls : Value} {b : Bool} {p : Pos} (hg : Gl X x) (hd : (x == ("__debug__" : Str)) = false) (hm : X.mg x = some c) (e : PySem.W.exmOne X.K cls c = some b) : Catches X (.Name x p) cls b := by
  intro a oe pn pins σ H s Q E E' I LT q
  refine ld_glob (X := X.suite a ((a, oe) :: pn)) I hg hm ?_ hd
  exact (PySem.W.exm_one (M := model X.prog X.w) I.kIn LT e).here (q s.heap s.toks fun _ _ z => z)
theorem catches_two {x y : Str} {c1 c2 cls : Value} {b : Bool} {p p1 p2 : Pos} {k : Nat} (gx : Gl X x) (dx : (x == ("__debug__" : Str)) = false) (mx : X.mg x = some c1) (gy : Gl X y) (dy : (y == ("__debug__" : Str)) = false) (my : X.mg y = some c2)
    (e : PySem.W.exmAny X.K cls [c1, c2] = some b) : Catches X (.Tuple [.Name x p1, .Name y p2] k p) cls b := by
  intro a oe pn pins σ H s Q E E' I LT q
  refine wpAny_Tuple_spliced ?_
  show wpAny _ _ (spliced ((false, eval (.Name x p1) X.env) :: (false, eval (.Name y p2) X.env) :: [])) _ _ s
  refine Calls.spliced_cons (ld_glob (X := X.suite a ((a, oe) :: pn)) I gx mx ?_ dx)
  refine Calls.spliced_cons (ld_glob (X := X.suite a ((a, oe) :: pn)) I gy my ?_ dy)
  refine Calls.spliced_nil ⟨(show 2 ≤ sizeLine by decide), ?_⟩
  have kp : ∀ b o, s.heap.get? b = some o → (s.heap.push { cls := .type "tuple", data := .seq [c1, c2].toArray }).get? b = some o := fun b o h => Heap.get?_push_of_some _ h
  exact (PySem.W.exm_tup2 (M := model X.prog X.w) (PySem.W.Frag.In.keeps I.kIn kp) (LT.keeps kp) (Heap.get?_push_size _ rfl) e).here (q _ _ kp)
/-- a caught exception becomes a thing that is known -/
theorem inv_adopt {a : Addr} {cls : Value} {d : Option Addr} {oe : Obj} (I : Inv X pins σ H s) (ga : s.heap.get? a = some oe) (z : Zc cls d oe) (hf : ∃ vs, oe.data = .fields vs) (na : H a = none) (n0 : X.s_0.heap.get? a = none) (nL : a ≠ X.env.locals) (nC : ∀ y c, X.env.cells.lookup y = some c → a ≠ c) (nP : ∀ p ∈ X.pn ++ pins, p.1 ≠ a) :
    Inv X pins σ (upd H a (ExV cls d a)) s := by
  obtain ⟨vs, hv⟩ := hf
  have ne : ∀ {b : Addr} {u : HO}, H b = some u → b ≠ a := fun e z => by
    rw [z, na] at e
    cases e
  refine ⟨I.ok, I.os, I.bare, ⟨I.base.keep, I.base.slot, fun b o e n x => ?_, I.base.there, fun b xs e => ?_, fun b o u e => ?_, fun b ps e => ?_⟩, I.loc, I.cell, ?_, fun y c e => ?_, fun p hp => ?_, ?_, I.len⟩
  · rw [upd_ne fun z => by rw [z, n0] at e; cases e]
    exact I.base.free b o e n x
  · have q := I.base.tups b xs e
    rw [upd_ne (ne q)]
    exact q
  · have q := I.base.frzs b o u e
    rw [upd_ne (ne q)]
    exact q
  · obtain ⟨m, q⟩ := I.base.tbls b ps e
    exact ⟨m, by rw [upd_ne (ne q)]; exact q⟩
  · rw [upd_ne (Ne.symm nL)]
    exact I.free
  · rw [upd_ne (Ne.symm (nC y c e))]
    exact I.freeC y c e
  · obtain ⟨q1, q2, q3⟩ := I.pin p hp
    exact ⟨q1, by rw [upd_ne (nP p hp)]; exact q2, q3⟩
  · exact I.hok.laidN (fun _ _ q => q) na ⟨⟨oe, vs, ga, z, hv⟩, ⟨oe, ga⟩, fun h1 h2 ⟨o, v, q, r⟩ k => ⟨o, v, k o q, r⟩⟩
/-- what the clause 'except .. as e: x = e' wishes of an exception of the body: slot i is e's, slot j is x's -/
def wStore (T : Value → Bool → Prop) (i j : Nat) (Wout : WX) (D : Ends) : WX := fun cls d σ H =>
  ∃ b, T cls b ∧ (b = true → ∀ a, H a = none → D.nx (((σ.set i (some (.ref a))).set j (some (.ref a))).set i none) (upd H a (ExV cls d a))) ∧ (b = false → Wout cls d σ H)
theorem ps_tryS {te : Expr} {T : Value → Bool → Prop} {n x : Str} {i j : Nat} {body : List Stmt} {px pn' pa ph' pos pos' : Pos} {tb : WX → TS} {Wout : WX} (hst : X.stack = X.env :: X.outer) (hfm : X.env.frame = some X.env.locals) (hex : X.ex = []) (hN : X.N.Nodup) (hi : X.N[i]? = some n) (hj : X.N[j]? = some x)
    (hln : X.env.kindOf n = some .local) (hlx : X.env.scope.names.lookup x = some .local) (hT : ∀ cls b, T cls b → Catches X te cls b) (tk : Takes X Wout) (dn : (n == ("__debug__" : Str)) = false) (cn : (n == ("__classdict__" : Str)) = false)
    (hb : ∀ (W : WX) (pn : List (Addr × Obj)) (xe : Value → Shared → Prop), Takes (X.tr pn xe) W → PassesOwn (model X.prog X.w) X.A X.env xe → PSs (X.tr pn xe) body (tb W)) :
    PS X (.Try body [.ExceptHandler (some te) (some n) [.Assign [.Name x px] (.Name n pn') pa] pos'] [] [] pos) (fun D σ H => tb (wStore T i j Wout D) D σ H) := by
  refine ⟨fun pins s σ H D I h => ?_⟩
  have ok := I.ok
  have hframes : X.A.frames = some (X.env :: X.outer) := by rw [ok.frames, hst]
  refine wpAny_Try_except ?_
  have caught : ∀ (u : Value) (s' : Shared), XE (X.tr (X.pn ++ pins) (fun e s₁ => wpAny (model X.prog X.w) X.A (noteFrame e X.env) (fun _ s₂ => wpAny (model X.prog X.w) X.A (setFlight e none) (fun _ s₃ =>
      wpAny (model X.prog X.w) X.A (handleBy e X.env [.ExceptHandler (some te) (some n) [.Assign [.Name x px] (.Name n pn') pa] pos']) (SP X pins D) X.xe s₃) X.xe s₂) X.xe s₁)) (wStore T i j Wout D) u s' →
      wpAny (model X.prog X.w) X.A (noteFrame u X.env) (fun _ s₂ => wpAny (model X.prog X.w) X.A (setFlight u none) (fun _ s₃ => wpAny (model X.prog X.w) X.A (handleBy u X.env [.ExceptHandler (some te) (some n) [.Assign [.Name x px] (.Name n pn') pa] pos']) (SP X pins D) X.xe s₃) X.xe s₂) X.xe s' := by
    rintro u s' ⟨a, B, sI, pins', σ', H', cls, d, rfl, J', nb, up, sky, na, os, ag, b, ht, hyes, hno⟩
    have J : Inv X pins σ' H' sI := J'.ofTry ok
    refine Sky.land Zc.steady hframes hfm (by rw [← hst]; exact sky) fun h3 fl3 up3 => ?_
    have J3 : Inv X pins σ' H' { s' with heap := h3 } := J.landed nb fl3.1 (up.trans up3) os ag
    obtain ⟨oe3, vs3, he3, hz3, hd3⟩ := fl3.there
    have aF : ∀ {h : Heap} {o : Obj} {vs : Array Value}, h.FunFrames B (X.env :: X.outer) → h.get? a = some o → o.data = .fields vs → a ∉ frs (X.env :: X.outer) := fun {h o vs} ff e dd hm => by
      obtain ⟨_, o', e', hnf⟩ := ff.mem hm
      rw [e] at e'
      cases e'
      exact hnf _ dd
    have nfr := aF fl3.2.2.1 he3 hd3
    have nL : a ≠ X.env.locals := fun z => nfr (List.mem_filterMap.mpr ⟨X.env, List.mem_cons_self, by rw [hfm, z]⟩)
    have nF : a ∉ X.fs := fun hm => by
      obtain ⟨e, he, q⟩ := List.mem_filterMap.mp hm
      exact nfr (List.mem_filterMap.mpr ⟨e, List.mem_cons_of_mem _ he, q⟩)
    have aB : B.get? a = none := fl3.2.1
    have sIn : sI.heap.get? a = none := by
      cases q : sI.heap.get? a with
      | none => rfl
      | some o =>
        have := nb a o q (by rw [hst]; exact nfr)
        rw [aB] at this
        cases this
    have S3 := J3.suite he3 hd3 na nL nF
    refine wpAny_handleBy_cons (codeAny_handlers_test ?_) (by intro q; cases q)
    have LT : PySem.W.Looks (model X.prog X.w) h3 (typeOf (.ref a)) cls := fun A Q E s k q => wpAny_typeOf_ref (k _ _ he3) (by rw [hz3.1]; exact q)
    refine hT cls b ht a oe3 _ _ σ' H' _ _ _ _ S3 LT fun h5 tk5 k5 => ?_
    have fl5 := fly_grow fl3 k5
    have up5 := up_grow (up.trans up3) k5
    have J5 : Inv X pins σ' H' { s' with heap := h5, toks := tk5 } := J.landed nb fl5.1 up5 os ag
    cases b with
    | true =>
      refine codeAny_handlers_suite_as ?_
      refine HandSPX.lands_againZ fl5 fun h4 fl4 up4 => ?_
      have J4 : Inv X pins σ' H' { s' with heap := h4, toks := tk5 } := J.landed nb fl4.1 (up5.trans up4) os ag
      obtain ⟨oe4, vs4, he4, hz4, hd4⟩ := fl4.there
      have S4 := J4.suite he4 hd4 na nL nF
      refine store_ok (X := X.suite a ((a, oe4) :: (X.pn ++ pins))) (v := .ref a) S4 hN hi (.inl hln) rfl (fun s5 S5 => ?_) (.inr hln)
      have hset : PSs (X.suite a ((a, oe4) :: (X.pn ++ pins))) [.Assign [.Name x px] (.Name n pn') pa] _ :=
        pss_one (ps_set (pos' := px) (pos := pa) hN hj (.inl hlx) (pe_var (pos := pn') hi (.inl hln) dn cn) rfl (.inr hlx))
      have l5 : (σ'.set i (some (.ref a)))[i]? = some (some (.ref a)) := by
        have hlen : i < σ'.length := by
          rw [J4.len]
          exact (List.getElem?_eq_some_iff.mp hi).1
        exact List.getElem?_set_self hlen
      refine wpAny_mono (hset.run [] s5 _ H' { nx := fun σ6 H6 => σ6 = (σ'.set i (some (.ref a))).set j (some (.ref a)) ∧ H6 = H', rt := fun _ _ => False, bk := fun _ _ => False, ct := fun _ _ => False } S5 ⟨.ref a, l5, rfl, rfl⟩) (fun f s6 hsp => ?_) (fun _ _ z => False.elim z)
      cases f with
      | next =>
        obtain ⟨σ6, H6, S6, q1, q2⟩ := hsp
        subst q1 q2
        obtain ⟨p1, p2, p3, p4, p5⟩ := S6.pin (a, oe4) (List.mem_append.mpr (.inl List.mem_cons_self))
        have J6 : Inv X ((a, oe4) :: pins) _ H6 s6 := (S6.unsuite ok).pins_of fun p hp => by
          rcases List.mem_cons.mp hp with z | z
          · rw [z]
            exact ⟨p1, p2, p3, p4, p5⟩
          · exact (S6.unsuite ok).pin p (List.mem_append_right _ z)
        refine gone_ok J6 hN hi hln fun s7 J7 => ?_
        obtain ⟨g1, g2, _⟩ := J7.pin (a, oe4) (List.mem_append_right _ List.mem_cons_self)
        have J8 : Inv X pins _ H6 s7 := J7.pins_of fun p hp => J7.pin p (List.mem_append_right _ (List.mem_cons_of_mem _ hp))
        refine ⟨_, _, inv_adopt (cls := cls) (d := d) J8 g1 hz4 ⟨_, hd4⟩ g2 ?_ nL (fun y c e z => ?_) (fun p hp z => ?_), hyes rfl a na⟩
        · cases q : X.s_0.heap.get? a with
          | none => rfl
          | some o =>
            obtain ⟨o', q'⟩ := J.base.there a o q (by rw [hex]; exact fun z => nomatch z)
            rw [sIn] at q'
            cases q'
        · obtain ⟨v, o, ho, hv⟩ := J8.cell y c e
          rw [← z, g1] at ho
          cases ho
          rw [hd4] at hv
          cases hv
        · obtain ⟨q1, _⟩ := J.pin p hp
          rw [z, sIn] at q1
          cases q1
      | brk =>
        obtain ⟨_, _, _, z⟩ := hsp
        exact z.elim
      | cont =>
        obtain ⟨_, _, _, z⟩ := hsp
        exact z.elim
      | ret u =>
        obtain ⟨_, _, _, _, _, z⟩ := hsp
        exact z.elim
    | false =>
      show wpAny _ X.A (handleBy (.ref a) X.env []) _ _ _
      refine wpAny_handleBy_nil ?_
      obtain ⟨_, _, _, oe, vs, tb', oT, ts', g1, gz, gd, g4, gr⟩ := id fl5
      unfold PySem.passOn
      refine wpAny_bind (wpAny_field g1 gd g4 ?_)
      rw [if_neg (show ¬ ((Value.ref tb' == Value.none) = true) from by simp)]
      have fin : wpAny (model X.prog X.w) X.A (setFlight (.ref a) X.env.frame) (fun _ s4 => wpAny (model X.prog X.w) X.A (throw (.ref a) : Sem Flow) (SP X pins D) X.xe s4) X.xe { s' with heap := h5, toks := tk5 } := by
        rw [hfm]
        refine HandSPX.setFlight_upZ fl5 fun h4 hh4 up4 => wpAny_throw (tk _ _ ?_)
        exact ⟨a, B, sI, pins, σ', H', cls, d, rfl, J, nb, up5.trans up4, .inr (.inr (by rw [hst]; exact hh4)), na, os, ag, hno rfl⟩
      first
        | exact wpAny_bind (wpAny_pure (wpAny_bind fin))
        | exact wpAny_bind fin
  refine wpAny_mono ((hb (wStore T i j Wout D) (X.pn ++ pins) _ (fun u s' xx => caught u s' xx) PassesOwn.looking).run [] s σ H D (I.toTry _) h) (fun f s1 hsp => ?_) (fun e s1 he => he)
  cases f with
  | next =>
    obtain ⟨σ1, H1, J1, q⟩ := hsp
    exact wpAny_execs_nil ⟨σ1, H1, J1.ofTry ok, q⟩
  | brk =>
    obtain ⟨σ1, H1, J1, q⟩ := hsp
    exact ⟨σ1, H1, J1.ofTry ok, q⟩
  | cont =>
    obtain ⟨σ1, H1, J1, q⟩ := hsp
    exact ⟨σ1, H1, J1.ofTry ok, q⟩
  | ret u =>
    obtain ⟨v, σ1, H1, J1, r, q⟩ := hsp
    exact ⟨v, σ1, H1, J1.ofTry ok, r, q⟩
end
end Rk

set_option Elab.async false
set_option linter.all false
set_option maxRecDepth 100000
set_option maxHeartbeats 2000000
/-! RkK4: isinstance of a caught error. -/
namespace Rk
open PySem PySem.Spec L2

section
variable {Γ : GI} {X : Cx} {W : WX} {ρ : Rz} {H : Hp} {ph : PH} {pins : List (Addr × Obj)} {σ : L2.St} {s : Shared} {a : Expr} {fa : Lo → M PV} {pos p : Pos}
/-- what the module says of an own class whose errors are asked -/
structure ClsE (K : PySem.W.Frag) (mg : Str → Option Value) (c : Str) : Prop where
  at_ : mg c = some (.ref (He.ga K c))
  ex : ExcC K (He.ga K c)
/-- a class by its name: an own one, or a built-in one -/
def ClsN (K : PySem.W.Frag) (mg : Str → Option Value) (c : Str) (u : Value) : Prop := (mg c = some (.ref (He.ga K c)) ∧ u = .ref (He.ga K c)) ∨ (mg c = none ∧ c ≠ "__name__" ∧ ∃ T, bootBuiltins c = some (.type T) ∧ u = .type T)
theorem nx_isx (tab : List (Str × Bool)) (x : PV) : NX (isxS tab x) := fun h e h' z => by
  unfold isxS at z
  split at z
  · exact nx_opt z
  · cases z
theorem kit_exc {a : Addr} {c : Str} (hK : X.K = Γ.K) (C : ExcC X.K (He.ga X.K c)) (I : Inv X pins σ H s) (h : H a = some (ExV (.ref (He.ga Γ.K c)) none a)) :
    ∃ P : Heap → Prop, PySem.W.KitX X.K (.ref a) (.ref (He.ga X.K c)) P ∧ P s.heap := by
  obtain ⟨⟨oe, vs, g1, ⟨g2, g3⟩, g4⟩, _, _⟩ := (show ObjOk X.prog X.w H s.heap a (ExV (.ref (He.ga Γ.K c)) none a) from I.hok a _ h)
  refine ⟨_, PySem.W.handS_kitx_exc (x := a) (ox := oe) C.hg C.hk C.hs C.hd C.ha C.hn C.ht C.hm, ?_⟩
  obtain ⟨oc, od, oda, osl⟩ := oe
  dsimp only at g2 g3 g4
  subst g2 g3 g4
  rw [hK]
  exact ⟨g1, rfl, rfl, trivial⟩
theorem se_clsN {c : Str} {u : Value} {q : Pos} (gl : Gl X c) (hd : (c == ("__debug__" : Str)) = false) (h : ClsN X.K X.mg c u) : ∃ v, PE X (.Name c q) (tC v) ∧ ClsV v u := by
  rcases h with ⟨h1, rfl⟩ | ⟨h1, h2, T, h3, rfl⟩
  · exact ⟨.ref (He.ga X.K c), pe_glob gl h1 rfl hd, .own _⟩
  · exact ⟨.ty T, pe_bltn gl h1 h3 rfl h2 hd, .ty _⟩
/-- with this class the answer is b -/
def IsxF (K : PySem.W.Frag) (tab : List (Str × Bool)) (us : List Value) : Prop := ∀ c b, tabL tab c = some b → ExcC K (He.ga K c) ∧ PySem.W.kitAny K (.ref (He.ga K c)) us = some b
def IsxF1 (K : PySem.W.Frag) (tab : List (Str × Bool)) (u : Value) : Prop := ∀ c b, tabL tab c = some b → ExcC K (He.ga K c) ∧ PySem.W.kitOne K (.ref (He.ga K c)) u = some b
theorem isx_at {tab : List (Str × Bool)} {x : V} {p : PV} {Q : VK} (hr : HR Γ ρ H ph) (dx : Den Γ.K ρ H x p) (po : Post Γ W0 ρ H (Qv Γ Q) (isxS tab p ph)) :
    ∃ a c b, x = .ref a ∧ H a = some (ExV (.ref (He.ga Γ.K c)) none a) ∧ tabL tab c = some b ∧ Q (.bl b) H := by
  unfold isxS at po
  split at po
  · obtain ⟨_, e1, po⟩ := post_opt po
    obtain ⟨b, e2, rfl⟩ := map_some e1
    cases dx with
    | exc0 h n => exact ⟨_, _, b, rfl, h, e2, post_val po hr (.bl b)⟩
    | exc1 h g n m z r => exact absurd rfl z
  · exact po.elim
theorem se_isx1 {c : Str} {u : Value} {q : Pos} {tab : List (Str × Bool)} (hK : X.K = Γ.K) (gl : Gl X "isinstance") (hm : X.mg "isinstance" = none) (gc : Gl X c) (hd : (c == ("__debug__" : Str)) = false) (hc : ClsN X.K X.mg c u) (F : IsxF1 X.K tab u) (ha : SE Γ W X a fa) (hn : noStarB a = true) :
    SE Γ W X (.Call (.Name "isinstance" p) [a, .Name c q] [] pos) (fun L => do let x ← fa L; isxS tab x) := by
  obtain ⟨v, hv, cv⟩ := se_clsN (q := q) gc hd hc
  have hcall : CallR X (.builtin "isinstance") fun xs H Q => ∃ x, xs = [x, v] ∧ ∃ σ, Go1 Γ W σ H (Qv Γ Q) x fun p _ => isxS tab p := by
    intro pins s σ H xs us Q I rs ⟨x, e, σ', ρ, ph, L, p, hr, lo, dx, po⟩
    subst e
    obtain ⟨u1, u2, rfl, r1, r2⟩ := vals2 rs
    have e2 := cv.eq r2
    subst e2
    obtain ⟨l, c', b, rfl, h, e, q⟩ := isx_at hr dx (po.nx (nx_isx tab p))
    cases r1
    obtain ⟨C, e3⟩ := F c' b e
    obtain ⟨P, Z, pz⟩ := kit_exc hK C I h
    exact PySem.W.kia_one Z I.kIn pz e3 (fun z => nomatch z) fun tk => ⟨.bl b, H, I.tok tk, rfl, q⟩
  refine PE_imp (pe_callB hcall gl hm boot_isi (pa_cons ha (pa_cons hv pa_nil (starEach_cons rfl)) (starEach_cons hn)) (by decide +kernel) (by decide +kernel) (starEach_cons hn) (starEach_none rfl)) fun σ H Q h => ?_
  obtain ⟨ρ, ph, L, hr, lo, p⟩ := Go.e (k := fun x _ => isxS tab x) h
  exact ⟨ρ, ph, L, hr, lo, p.imp fun v ρ' H' ph' e hr' q x d => ⟨x, rfl, σ, q x d⟩⟩
/-- names of classes -/
inductive ClsNs (X : Cx) : List Expr → List Value → Prop
  | nil : ClsNs X [] []
  | cons {c : Str} {q : Pos} {u : Value} {es : List Expr} {us : List Value} : Gl X c → (c == ("__debug__" : Str)) = false → ClsN X.K X.mg c u → ClsNs X es us → ClsNs X (.Name c q :: es) (u :: us)
theorem clsNs_pa {es : List Expr} {us : List Value} (h : ClsNs X es us) : ∃ vs, PA X es (fun _ H Q => Q vs H) ∧ Paired ClsV vs us := by
  induction h with
  | nil => exact ⟨[], pa_nil, .nil⟩
  | cons g d c r ih =>
    obtain ⟨vs, h1, h2⟩ := ih
    obtain ⟨v, h3, h4⟩ := se_clsN g d c
    exact ⟨v :: vs, pa_cons h3 h1 (starEach_cons rfl), .cons h4 h2⟩
theorem paired_len {α β : Type} {r : α → β → Prop} : ∀ {xs : List α} {ys : List β}, Paired r xs ys → xs.length = ys.length
  | _, _, .nil => rfl
  | _, _, .cons _ t => congrArg (· + 1) (paired_len t)
theorem se_isxT {es : List Expr} {us : List Value} {k : Nat} {q : Pos} {tab : List (Str × Bool)} (hK : X.K = Γ.K) (gl : Gl X "isinstance") (hm : X.mg "isinstance" = none) (hc : ClsNs X es us) (hz : us.length ≤ 20) (F : IsxF X.K tab us) (ha : SE Γ W X a fa) (hn : noStarB a = true) :
    SE Γ W X (.Call (.Name "isinstance" p) [a, .Tuple es k q] [] pos) (fun L => do let x ← fa L; isxS tab x) := by
  obtain ⟨vs, hvs, cv⟩ := clsNs_pa hc
  have hl : vs.length ≤ sizeLine := by
    have := paired_len cv
    have : 20 ≤ sizeLine := by decide
    omega
  have hcall : CallR X (.builtin "isinstance") fun xs H Q => ∃ x tp, xs = [x, .ref tp] ∧ H tp = some (.tup vs) ∧ ∃ σ, Go1 Γ W σ H (Qv Γ Q) x fun p _ => isxS tab p := by
    intro pins s σ H xs ws Q I rs ⟨x, tp, e, hT, σ', ρ, ph, L, p, hr, lo, dx, po⟩
    subst e
    obtain ⟨u1, u2, rfl, r1, r2⟩ := vals2 rs
    cases (show u2 = Value.ref tp from r2)
    obtain ⟨l, c', b, rfl, h, e, q⟩ := isx_at hr dx (po.nx (nx_isx tab p))
    cases r1
    obtain ⟨C, e3⟩ := F c' b e
    obtain ⟨P, Z, pz⟩ := kit_exc hK C I h
    obtain ⟨_, its, rv, o, h1, h2, n, h3⟩ := (show ObjOk X.prog X.w H s.heap tp (.tup vs) from I.hok tp _ hT)
    have ew := ClsV.all cv rv
    subst ew
    obtain ⟨oc, od, dt, sl⟩ := o
    simp only at h2 h3
    subst h2 h3
    exact PySem.W.kia_tup Z I.kIn pz h1 e3 (fun z => nomatch z) fun tk => ⟨.bl b, H, I.tok tk, rfl, q⟩
  refine PE_imp (pe_callB hcall gl hm boot_isi (pa_cons ha (pa_cons (pe_tup (x1 := k) (pos := q) hvs) pa_nil (starEach_cons rfl)) (starEach_cons hn)) (by decide +kernel) (by decide +kernel) (starEach_cons hn) (starEach_none rfl)) fun σ H Q h => ?_
  obtain ⟨ρ, ph, L, hr, lo, p⟩ := Go.e (k := fun x _ => isxS tab x) h
  refine ⟨ρ, ph, L, hr, lo, p.imp fun v ρ' H' ph' e hr' q x d => ?_⟩
  refine ⟨hl, fun tp np => ⟨x, tp, rfl, upd_same, σ, ?_⟩⟩
  obtain ⟨ρ2, ph2, L2, v2, hr2, lo2, d2, po2⟩ := q x d
  exact ⟨ρ2, ph2, L2, v2, hr2.laid np, lo2.ext (Ext.laid np), d2.ext (Ext.laid np), po2.from (Ext.laid np)⟩
end
end Rk

set_option Elab.async false
set_option linter.all false
set_option maxRecDepth 100000
set_option maxHeartbeats 2000000
/-! RkK5: a lambda handed to a def. -/
namespace Rk
open PySem PySem.Spec L2
open LamX (CodeO Tabs TabB ExtN LamS lamEnv lamCx lam_start2 run_ofS codeO_ne inv_table among_app)
open PyProof.Rows (envOfC)

section
variable {X : Cx} {pins : List (Addr × Obj)} {σ : L2.St} {H HZ : Hp} {s s1 : Shared}
/-- the lambda that a def got is called there: what is raised goes out at that very place -/
theorem pe_actS {CXg : CXT} {Eg : XK} {Ng : List Str} {qg : Str} {sg : Scope} {g f c' : Addr} {cdg pm ctv : Value} {params : Arguments} {body : Expr} {scope : Scope} {k i : Nat} {x : Str} {pn : List (Addr × Obj)} {xe : Value → Shared → Prop} {W : WX} {tb : XK → TE} {p1 p2 : Pos}
    (I : Inv X pins σ H s) (hL : LamS X.env.scope scope) (hf : s.heap.get? f = some (PySem.W.kla_obj "<lambda>" (X.env.qual ++ "<lambda>") params body scope (cloFrom X.env.cells scope.names []) pm c' ctv)) (nf : H f = none) (ff : f ∉ frs X.stack) (hgd : X.A.guards = some [])
    (hbind : bindArgs (PySem.W.kla_fn "<lambda>" (X.env.qual ++ "<lambda>") params body scope (cloFrom X.env.cells scope.names []) pm (.ref c') ctv) ⟨[], []⟩ = pure [])
    (tk : Takes ((cxOf CXg X.prog X.w X.K X.mg X.base Ng qg sg g cdg X.A X.stack s H Eg).tr pn xe) W) (hr : Room (k + 1) (X.A.deeper (envOfC qg sg s.heap.objs.size g cdg)))
    (hbody : ∀ (A : Around) (outer : List Env) (s : Shared) (H : Hp) (E : XK), Room k (A.deeper (lamEnv X scope s.heap.objs.size f c')) → A.guards = some [] → PE (lamCx X A outer s H E scope f c') body (tb E))
    (hN : Ng[i]? = some x) (hv : Vis sg x) (hd : (x == ("__debug__" : Str)) = false) (hcd : (x == ("__classdict__" : Str)) = false) :
    PE ((cxOf CXg X.prog X.w X.K X.mg X.base Ng qg sg g cdg X.A X.stack s H Eg).tr pn xe) (.Call (.Name x p1) [] [] p2)
      (fun σZ HZ Q => σZ[i]? = some (some (.ref f)) ∧ HZ c' = some (CodeO c' (X.env.qual ++ "<lambda>")) ∧ ∃ E : XK, (∀ cls d H', E cls d H' → W cls d σZ H') ∧ tb E σ HZ Q) := by
  refine ⟨fun pinsZ sZ σZ HZ Q IZ h => ?_⟩
  obtain ⟨hs, hc, E, hW, ht⟩ := h
  have rd := (pe_var (pos := p1) (i := i) hN hv hd hcd).run pinsZ sZ σZ HZ (fun v H1 => v = .ref f ∧ H1 = HZ) IZ ⟨.ref f, hs, rfl, rfl⟩
  refine wpAny_Call_Name_kw (thn rd fun u s1 ⟨v, H1, I1, r1, e1, e2⟩ => ?_)
  subst e1 e2
  obtain rfl : u = Value.ref f := r1
  have un : Un (frs X.stack) [] H H1 s.heap s1.heap := I1.base
  have of1 := un.keep f _ hf nf ff (fun z => nomatch z)
  refine PySem.W.callWith_F0 ⟨_, _, _, _, of1⟩ ?_
  obtain ⟨⟨oc, vs, t, hoc, hdc, hvc⟩, _, _⟩ := I1.hok c' _ hc
  have rc : codeAny (model X.prog X.w) (X.A.deeper (envOfC qg sg s.heap.objs.size g cdg)) (.call (.ref f) ⟨[], []⟩) (CR (L2.CX X.prog X.w) (envOfC qg sg s.heap.objs.size g cdg :: X.stack) X.prog X.w H1 s1 Q E) s1 := by
    refine PySem.W.kla_callFunE hr.depth of1 rfl hL.co hL.gen rfl ⟨c', oc, vs, t, rfl, hoc, hdc, hvc⟩ ?_
    rw [hbind]
    refine wpAny_pure (wpAny_newFunctionEnv (fun y hy => (hL.own y hy).2) (fun y hy => absurd hy (by simp)) (fun h₁ hns hsb => ⟨I1.nolimit.fresh _ hsb, ?_⟩) hL.kind)
    show codeAny _ _ (.expr body (lamEnv X scope s1.heap.objs.size f c')) _ _
    have kp : ∀ b o, s1.heap.get? b = some o → h₁.get? b = some o := fun b o e => hsb.extBut b o (Nat.ne_of_lt (Heap.lt_size e)) (Heap.get?_push_of_some _ e)
    have J := lam_start2 (A := X.A.deeper (envOfC qg sg s.heap.objs.size g cdg)) (outer := envOfC qg sg s.heap.objs.size g cdg :: X.stack) (E := E) (f := f) (c' := c') (tk := s1.toks + ([] : List (Str × Value)).length) I hL I1.env0 hr.hd un hns kp
    refine PySem.W.kla_codeExpr (wpAny_mono ((hbody _ _ s1 H1 E (hr.deeper _) hgd).run [] _ _ H1 Q J ht) (fun v s' hq => ?_) fun e s' hq => hq)
    obtain ⟨w', H', J', rv, q⟩ := hq
    exact ⟨w', H', J'.os, J'.bare, J'.base, J'.hok, rv, q⟩
  refine wpAny_call (codeAny_mono rc fun r s' hq => ?_)
  cases r with
  | error e => exact tk e s' (XE.of_call I1 hW hq)
  | ok fl =>
    cases fl with
    | ret u => exact I1.after hq
    | next => exact False.elim hq
    | brk => exact False.elim hq
    | cont => exact False.elim hq
/-- tables grow, a code object is new; all else stays -/
inductive Grown (T : List (Addr × Str)) (P : Addr) (q : Str) (c' : Addr) (H : Hp) : Hp → Prop
  | hit : H c' = some (CodeO c' q) → Grown T P q c' H H
  | new {ps more : Array Value} : H P = some (.tbl ps) → H c' = none → Grown T P q c' H (upd (upd H P (.tbl (ps ++ more))) c' (CodeO c' q))
theorem lam_makeS {T : List (Addr × Str)} {c P : Addr} {params : Arguments} {body : Expr} {scope : Scope} {pos : Pos} {E : Value → Shared → Prop} {Q : Value → Shared → Prop} (I : Inv X pins σ H s) (B : TabB X.base X.mg c P) (hcd : X.env.code = .ref c)
    (mT : (P, X.env.qual ++ "<lambda>") ∈ T) (uT : ∀ p ∈ T, p.1 = P → p.2 = X.env.qual ++ "<lambda>") (tT : Tabs T H) (hdf : defaultsOf params X.env = ([], [])) (hfr : ∀ y ∈ scope.names, y.2 = .free → ∃ c, X.env.cells.lookup y.1 = some c)
    (go : ∀ (f c' : Addr) (pm ctv : Value) (H1 : Hp) (s' : Shared), Inv X pins σ H1 s' → Grown T P (X.env.qual ++ "<lambda>") c' H H1 → Tabs T H1 → s'.heap.get? f = some (PySem.W.kla_obj "<lambda>" (X.env.qual ++ "<lambda>") params body scope (cloFrom X.env.cells scope.names []) pm c' ctv) →
      H1 f = none → f ∉ frs X.stack → H1 c' = some (CodeO c' (X.env.qual ++ "<lambda>")) → Q (.ref f) s') :
    wpAny (model X.prog X.w) X.A (eval (.Lambda params body scope pos) X.env) Q E s := by
  obtain ⟨ps, atP, tr, am⟩ := tT _ mT
  refine PySem.W.kla_eval hdf ?_
  have bP : s.heap.BuiltinsAt X.mg P := B.bm.keeps I.bk
  have oP : s.heap.get? P = some { cls := .none, data := .fields ps } := I.hok P _ atP
  have no : ∀ f, s.heap.objs.size ≤ f → f ∉ frs X.stack := fun f hf z => (List.mem_cons.mp (I.stkSub _ z)).elim (fun e => by
    have h1 := I.lt
    rw [← e] at h1
    exact Nat.lt_irrefl _ (Nat.lt_of_lt_of_le h1 hf)) fun e => I.nofs hf e
  cases am' : codeAmong pos ps.toList with
  | some cv =>
    obtain ⟨c', rfl, hco⟩ := am pos cv am'
    refine PySem.W.kla_makeFunctionHit (mg := X.mg) (c := c) (P := P) (ps := ps) (closure_ok hfr) I.ok.glob (I.mod.glob.keeps I.bk) hcd (B.code.keeps I.bk) oP tr am' bP fun ctv h' tk hx hsz => ?_
    have J : Inv X pins σ H { s with heap := h'.push (PySem.W.kla_obj "<lambda>" (X.env.qual ++ "<lambda>") params body scope (cloFrom X.env.cells scope.names []) ((X.mg "__name__").getD .none) c' ctv), toks := tk } := I.kept fun b o e => Heap.get?_push_of_some _ (hx b o e)
    exact go h'.objs.size c' _ ctv H _ J (.hit hco) tT (Heap.get?_push_size _ rfl) (I.hok.fresh hsz) (no _ hsz) hco
  | none =>
    refine PySem.W.kla_makeFunction (mg := X.mg) (c := c) (P := P) (ps := ps) (closure_ok hfr) I.ok.glob (I.mod.glob.keeps I.bk) hcd (B.code.keeps I.bk) oP tr am' B.gP bP fun c' ctv h' tk hx hge hlt hrec htb => ?_
    obtain ⟨c2, oc, vs, t, e2, hoc, hd, hv⟩ := hrec
    cases e2
    have le : s.heap.objs.size ≤ h'.objs.size := Nat.le_trans hge (Nat.le_of_lt hlt)
    have nC : H c' = none := I.hok.fresh hge
    have nPc : P ≠ c' := ne_of_none atP nC
    have J := inv_table (t' := tk) (more := #[rawInt pos.line, rawInt pos.col, .ref c']) (h' := h'.push (PySem.W.kla_obj "<lambda>" (X.env.qual ++ "<lambda>") params body scope (cloFrom X.env.cells scope.names []) ((X.mg "__name__").getD .none) c' ctv)) I atP
      (fun b o hb e => Heap.get?_push_of_some _ (hx b o hb e)) (Heap.get?_push_of_some _ htb) hge ⟨oc, vs, t, Heap.get?_push_of_some _ hoc, hd, hv⟩
    have keep : ∀ b o, H b = some o → b ≠ P → upd (upd H P (.tbl (ps ++ #[rawInt pos.line, rawInt pos.col, .ref c']))) c' (CodeO c' (X.env.qual ++ "<lambda>")) b = some o := fun b o e n => by
      rw [upd_ne (ne_of_none e nC), upd_ne n]
      exact e
    have ext : ∀ c0 q0, H c0 = some (CodeO c0 q0) → upd (upd H P (.tbl (ps ++ #[rawInt pos.line, rawInt pos.col, .ref c']))) c' (CodeO c' (X.env.qual ++ "<lambda>")) c0 = some (CodeO c0 q0) := fun c0 q0 e =>
      keep c0 _ e fun z => by
        rw [z, atP] at e
        exact codeO_ne _ (Option.some.inj e).symm
    have eL : (ps ++ #[rawInt pos.line, rawInt pos.col, .ref c']).toList = ps.toList ++ [rawInt pos.line, rawInt pos.col, .ref c'] := by simp
    refine go h'.objs.size c' ((X.mg "__name__").getD .none) ctv _ _ J (.new atP nC) (fun p hp => ?_) (Heap.get?_push_size _ rfl) ?_ (no _ le) upd_same
    · by_cases hb : p.1 = P
      · rw [uT p hp hb, hb]
        refine ⟨_, by rw [upd_ne nPc, upd_same], by rw [eL]; exact PySem.TriplesOk_snoc _ _ _ _ tr, fun p' cv h => ?_⟩
        rw [eL] at h
        rcases among_app _ tr h with z | z
        · obtain ⟨c0, e1, e2⟩ := am p' cv z
          exact ⟨c0, e1, ext _ _ e2⟩
        · exact ⟨c', z, upd_same⟩
      · obtain ⟨ps', a1, a2, a3⟩ := tT p hp
        refine ⟨ps', keep _ _ a1 hb, a2, fun p' cv h => ?_⟩
        obtain ⟨c0, e1, e2⟩ := a3 p' cv h
        exact ⟨c0, e1, ext _ _ e2⟩
    · have n1 : h'.objs.size ≠ c' := Nat.ne_of_gt hlt
      have n2 : h'.objs.size ≠ P := Nat.ne_of_gt (Nat.lt_of_lt_of_le (Heap.lt_size oP) le)
      rw [upd_ne n1, upd_ne n2]
      exact I.hok.fresh le
/-- what a def makes of a lambda's reading -/
def Gives (X : Cx) (k : Nat) (Ng : List Str) (x : Str) (sg : Scope) (g : Addr) (cdg : Value) (bg : List Stmt) (q : Str) (TT : Addr → Addr → (XK → Hp → VK → Prop) → Hp → VK → Prop) : Prop :=
  ∀ (f c' : Addr) (s : Shared) (H : Hp) (Q : VK) (tl : XK → Hp → VK → Prop),
    (∀ (W : WX) (pn : List (Addr × Obj)) (xe : Value → Shared → Prop) (i : Nat) (a : Str) (p1 p2 : Pos), Ng[i]? = some a → Vis sg a → (a == ("__debug__" : Str)) = false → (a == ("__classdict__" : Str)) = false → Takes ((cxOf C8.CX0 X.prog X.w X.K X.mg X.base Ng x sg g cdg X.A X.stack s H C8.E0).tr pn xe) W →
      PE ((cxOf C8.CX0 X.prog X.w X.K X.mg X.base Ng x sg g cdg X.A X.stack s H C8.E0).tr pn xe) (.Call (.Name a p1) [] [] p2) (fun σZ HZ Q => σZ[i]? = some (some (.ref f)) ∧ HZ c' = some (CodeO c' q) ∧ ∃ E : XK, (∀ cls d H', E cls d H' → W cls d σZ H') ∧ tl E HZ Q)) →
    Room (k + 1) (X.A.deeper (envOfC x sg s.heap.objs.size g cdg)) → H c' = some (CodeO c' q) → TT f c' tl H Q →
    ∃ t, PSs (cxOf C8.CX0 X.prog X.w X.K X.mg X.base Ng x sg g cdg X.A X.stack s H C8.E0).nox bg t ∧ t { nx := fun _ H' => Q .non H', rt := Q } (L2.start Ng [.ref f]) H
def tLamS (T : List (Addr × Str)) (P : Addr) (q : Str) (TT : Addr → Addr → (XK → Hp → VK → Prop) → Hp → VK → Prop) (t : XK → TE) : TE := fun σ H Q => Tabs T H ∧ ∀ H1 f c', Grown T P q c' H H1 → Tabs T H1 → H1 c' = some (CodeO c' q) → TT f c' (fun E H' Q' => t E σ H' Q') H1 Q
/-- x(lambda: body) -/
theorem pe_lamS {T : List (Addr × Str)} {TT : Addr → Addr → (XK → Hp → VK → Prop) → Hp → VK → Prop} {x a : Str} {g c P : Addr} {k : Nat} {pg : Arguments} {bg : List Stmt} {sg : Scope} {dV kV doc pm cdv ct oc : Value} {an od : Option Addr} {osl : Array (Option Value)} {Ng : List Str}
    {params : Arguments} {body : Expr} {scope : Scope} {t : XK → TE} {p lpos pos : Pos} (gl : Gl X x) (hm : X.mg x = some (.ref g)) (hk : PySem.W.keepIn X.K (.ref g) = true) (hgd : X.A.guards = some [])
    (lk : X.K.lookup g = some ⟨oc, od, .func (PySem.W.fnOf x x pg bg sg dV kV doc pm an cdv ct), osl⟩) (hcg : PySem.W.codeIn X.K cdv x = true) (hb : L2.Binds X.K (PySem.W.fnOf x x pg bg sg dV kV doc pm an cdv ct) [a] []) (Sg : FnScope Ng [a] sg)
    (hG : Gives X k Ng x sg g cdv bg (X.env.qual ++ "<lambda>") TT)
    (B : TabB X.base X.mg c P) (hcd : X.env.code = .ref c) (mT : (P, X.env.qual ++ "<lambda>") ∈ T) (uT : ∀ p ∈ T, p.1 = P → p.2 = X.env.qual ++ "<lambda>") (hr : Room (k + 2) X.A) (hL : LamS X.env.scope scope) (hdf : defaultsOf params X.env = ([], []))
    (hbind : ∀ (q : Str) (cl : List (Str × Addr)) (pm cv ctv : Value), bindArgs (PySem.W.kla_fn "<lambda>" q params body scope cl pm cv ctv) ⟨[], []⟩ = pure [])
    (hbody : ∀ (A : Around) (outer : List Env) (s : Shared) (H : Hp) (E : XK) (f c' : Addr), Room k (A.deeper (lamEnv X scope s.heap.objs.size f c')) → A.guards = some [] → PE (lamCx X A outer s H E scope f c') body (t E))
    (d1 : (x == ("__debug__" : Str)) = false) :
    PE X (.Call (.Name x p) [.Lambda params body scope lpos] [] pos) (tLamS T P (X.env.qual ++ "<lambda>") TT t) := by
  refine ⟨fun pins s σ H Q I h => ?_⟩
  obtain ⟨tT, h⟩ := h
  refine wpAny_Call_Name_kw (ld_glob I gl hm ?_ d1)
  refine PySem.W.callWith_K (h₀ := X.base) I.ok.mod.kin hk ?_ (by rfl) (by rfl)
  show wpAny _ _ (spliced ((false, eval (.Lambda params body scope lpos) X.env) :: backTo pos (starEach [] X.env))) _ _ s
  refine Calls.spliced_cons (lam_makeS I B hcd mT uT tT hdf (hL.has I.ok) fun f c' pm' ctv H1 s' I1 eN T1 hf nf ff hco => ?_)
  refine Calls.spliced_nil ⟨I1.kIn, ?_⟩
  have rc : codeAny (model X.prog X.w) X.A (.call (.ref g) ⟨[.ref f], []⟩) (CR C8.CX0 X.stack X.prog X.w H1 s' Q C8.E0) s' := by
    refine run_ofS (N := Ng) (ps := [a]) (us := [.ref f]) (vs := [.ref f]) lk hcg Sg hr I1.env0 (hb s' [.ref f] I1.kIn rfl) (.cons rfl .nil) rfl fun hr' => ?_
    obtain ⟨t', ht', hq'⟩ := hG f c' s' H1 Q (fun E H' Q' => t E σ H' Q') (fun W pn xe i a p1 p2 hNg hva d2 d3 tk => pe_actS (i := i) I1 hL hf nf ff hgd (hbind _ _ _ _ _) tk hr' (fun A outer s H E hr2 hg2 => hbody A outer s H E f c' hr2 hg2) hNg hva d2 d3) hr' hco (h H1 f c' eN T1 hco)
    exact ⟨t', ht'.nox, hq'⟩
  refine wpAny_call (codeAny_mono rc fun r s2 hq => ?_)
  cases r with
  | error e => exact (show False from hq).elim
  | ok fl =>
    cases fl with
    | ret u => exact I1.after hq
    | next => exact False.elim hq
    | brk => exact False.elim hq
    | cont => exact False.elim hq
end
end Rk

set_option Elab.async false
set_option linter.all false
set_option maxRecDepth 100000
set_option maxHeartbeats 1000000
/-! RkL: the code is the text's: looked at; expressions are sound. -/
namespace Rk
open PySem PySem.Spec L2

/-! ### what is looked at -/
structure GS where
  defs : List FD
  free : List Str
  consts : List (Str × GC)
  kws : List (Nat × Nat × List Str × List Nat)
  isx1 : List (Str × List (Str × Bool))
  isxT : List (List Str × List (Str × Bool))
  exm : List (List Str × List (Str × Bool))
  exc : List Str
/-- a scope; of a comprehension's block its own one -/
structure SX where
  sc : Scope
  fs : Option Scope
  lm : Bool
def visB (sc : Scope) (x : Str) : Bool := match sc.names.lookup x with
  | some .local => true
  | some .cell => true
  | some .free => true
  | _ => false
def stB (S : SX) (x : Str) : Bool := match S.sc.names.lookup x with
  | some .local => true
  | some .cell => (match S.fs with
    | none => true
    | some s0 => s0.names.lookup x == some .cell)
  | _ => false
def glB (sc : Scope) (x : Str) : Bool := decide (sc.names.lookup x = some .globalImplicit)
def plainB (x : Str) : Bool := !(x == ("__debug__" : Str)) && !(x == ("__classdict__" : Str))
def okNames (N : List Str) (S : SX) : List Nat → List Expr → Bool
  | [], [] => true
  | i :: is, .Name x _ :: es => decide (N[i]? = some x) && (stB S x && okNames N S is es)
  | _, _ => false
def okTg (N : List Str) (S : SX) : Tg → Expr → Bool
  | .nm i, .Name x _ => decide (N[i]? = some x) && stB S x
  | .tup is, .Tuple es _ _ => okNames N S is es
  | _, _ => false
def ownP (N : List Str) (own : List Nat) : List (Str × Nat) := own.filterMap fun i => (N[i]?).map fun x => (x, i)
/-- a test that is a value's truth -/
def plainT : Expr → Bool
  | .UnaryOp .Not _ _ => false
  | .BoolOp _ _ _ => false
  | .IfExp _ _ _ _ => false
  | .Compare _ _ _ _ => false
  | _ => true
def setB : Expr → Bool
  | .Set _ _ _ => true
  | _ => false
/-- names of classes in a tuple -/
def clsB (sc : Scope) : List Expr → List Str → Bool
  | [], [] => true
  | .Name x _ :: es, y :: ys => decide (x = y) && (glB sc x && (plainB x && clsB sc es ys))
  | _, _ => false
section
variable (G : GS) (N : List Str)
mutual
def okE : SX → CE → Expr → Bool
  | S, .var i, e => (match e with
    | .Name x _ => decide (N[i]? = some x) && (visB S.sc x && plainB x)
    | _ => false)
  | _, .cst c, e => (match e with
    | .Constant k _ _ => decide (k = c.const) && c.okB
    | _ => false)
  | S, .glob x v, e => (match e with
    | .Name y _ => decide (y = x) && (glB S.sc x && (plainB x && decide ((x, v) ∈ G.consts)))
    | _ => false)
  | S, .tup es, e => (match e with
    | .Tuple els _ _ => okEs S es els
    | _ => false)
  | S, .lst _ es, e => (match e with
    | .List els _ => okEs S es els
    | _ => false)
  | S, .dct es, e => (match e with
    | .Dict ks vs _ => okKV S es ks vs && decide (ks.length ≤ 15)
    | _ => false)
  | S, .bin _ op a b, e => (match e with
    | .BinOp l o r _ => decide (o = op) && (okE S a l && okE S b r)
    | _ => false)
  | S, .neg a, e => (match e with
    | .UnaryOp .USub x _ => okE S a x
    | _ => false)
  | S, .cmp op a b, e => (match e with
    | .Compare l [o] [r] _ => decide (o = op) && (!behindInMarks op r && (okE S a l && okE S b r))
    | _ => false)
  | S, .chain o1 o2 a b c, e => (match e with
    | .Compare l [p1, p2] [r1, r2] _ => decide (p1 = o1) && (decide (p2 = o2) && (!lastMarks [o1, o2] [r1, r2] && (okE S a l && (okE S b r1 && okE S c r2))))
    | _ => false)
  | S, .band es, e => (match e with
    | .BoolOp .And vs _ => okEs S es vs
    | _ => false)
  | S, .bor es, e => (match e with
    | .BoolOp .Or vs _ => okEs S es vs
    | _ => false)
  | S, .bnot a, e => (match e with
    | .UnaryOp .Not x _ => okE S a x
    | _ => false)
  | S, .ife c a b, e => (match e with
    | .IfExp t x y _ => okT S c t && (okE S a x && okE S b y)
    | _ => false)
  | S, .call f es, e => (match e with
    | .Call (.Name x _) args [] _ => (match G.defs[f]? with
      | some d => decide (d.gname = x) && (glB S.sc x && (plainB x && okEs S es args))
      | none => false)
    | _ => false)
  | S, .pr _ p es, e => (match e with
    | .Call (.Name x _) args [] _ => decide (x = p.nm) && (glB S.sc x && (decide (x ∈ G.free) && (okEs S es args && !args.isEmpty)))
    | _ => false)
  | S, .mt _ m o es, e => (match e with
    | .Call (.Attribute ob nm apos) args [] cpos => decide (nm = m.nm) && (notSuperB ob && ((apos.endLine == cpos.line) && (okE S o ob && (okEs S es args && (!args.isEmpty && decide (args.length < 30))))))
    | _ => false)
  | S, .isi a t, e => (match e with
    | .Call (.Name x _) [ea, .Name y _] [] _ => decide (x = "isinstance") && (glB S.sc x && (decide (x ∈ G.free) && (decide (y = t.sn) && (glB S.sc y && (decide (y ∈ G.free) && (okE S a ea && noStarB ea))))))
    | _ => false)
  | S, .sub a i, e => (match e with
    | .Subscript v ix _ => plainIxB ix && (okE S a v && okE S i ix)
    | _ => false)
  | S, .sl _ a lo hi, e => (match e with
    | .Subscript v (.Slice l h none _) _ => okE S a v && (okP S lo l && okP S hi h)
    | _ => false)
  | S, .comp _ elt tg it ifs own, e => (match e with
    | .ListComp ee [⟨te, ie, fe, 0⟩] scope _ => okI S it te ie && (okTg N ⟨relS scope S.sc, some scope, false⟩ tg te && (okE ⟨relS scope S.sc, some scope, false⟩ elt ee && (okIfs ⟨relS scope S.sc, some scope, false⟩ ifs fe &&
      (blkC N S.sc scope (ownP N own) && (decide ((ownP N own).map (·.2) = own) && tg.slots.all fun j => decide (j ∈ own))))))
    | _ => false)
  | S, .act i, e => (match e with
    | .Call (.Name x _) [] [] _ => decide (N[i]? = some x) && (visB S.sc x && (plainB x && S.fs.isNone))
    | _ => false)
  | S, .lam f body, e => (match e with
    | .Call (.Name x _) [.Lambda ⟨[], [], none, [], [], none, []⟩ b scope _] [] _ => (match G.defs[f]? with
      | some d => decide (d.gname = x) && (glB S.sc x && (plainB x && (S.lm && (S.fs.isNone && (LamX.lamSB S.sc scope && okE ⟨scope, some scope, false⟩ body b)))))
      | none => false)
    | _ => false)
  | S, .callK f n es nks ks pm, e => (match e with
    | .Call (.Name x _) args kws _ => (match G.defs[f]? with
      | some d => decide (d.gname = x) && (glB S.sc x && (plainB x && (okEs S es args && (kws.all (fun k => k.arg.isSome) && (decide (kwN kws = nks) && (okEs S ks (kwE kws) && decide ((f, n, nks, pm) ∈ G.kws)))))))
      | none => false)
    | _ => false)
  | S, .isx a cs tab, e => (match e with
    | .Call (.Name x _) [ea, .Name y _] [] _ => decide (x = "isinstance") && (glB S.sc x && (decide (x ∈ G.free) && (glB S.sc y && (plainB y && (decide ((y, tab) ∈ G.isx1) && (okE S a ea && noStarB ea))))))
    | .Call (.Name x _) [ea, .Tuple ys _ _] [] _ => decide (x = "isinstance") && (glB S.sc x && (decide (x ∈ G.free) && (clsB S.sc ys cs && (decide ((cs, tab) ∈ G.isxT) && (okE S a ea && noStarB ea)))))
    | _ => false)
  | S, .rev _ a, e => (match e with
    | .Subscript v (.Slice none none (some (.UnaryOp .USub (.Constant (.int j) _ _) _)) _) _ => decide (j = 1) && okE S a v
    | _ => false)
  | S, .rep _ es n, e => (match e with
    | .BinOp (.List els _) .Mult r _ => okEs S es els && okE S n r
    | _ => false)
  | S, .dcomp ck cv tg it ifs own, e => (match e with
    | .DictComp ek ev [⟨te, ie, fe, 0⟩] scope _ => okI S it te ie && (okTg N ⟨relS scope S.sc, some scope, false⟩ tg te && (okE ⟨relS scope S.sc, some scope, false⟩ ck ek && (okE ⟨relS scope S.sc, some scope, false⟩ cv ev && (okIfs ⟨relS scope S.sc, some scope, false⟩ ifs fe &&
      (blkC N S.sc scope (ownP N own) && (decide ((ownP N own).map (·.2) = own) && tg.slots.all fun j => decide (j ∈ own)))))))
    | _ => false)
  | _, .wall, _ => true
def okEs : SX → CEs → List Expr → Bool
  | _, .nil, es => es.isEmpty
  | S, .cons c r, es => (match es with
    | e :: es => okE S c e && (noStarB e && okEs S r es)
    | [] => false)
def okKV : SX → CEs → List (Option Expr) → List Expr → Bool
  | _, .nil, ks, vs => ks.isEmpty && vs.isEmpty
  | S, .cons k r, ks, vs => (match ks, vs, r with
    | some ek :: ks, ev :: vs, .cons v r => okE S k ek && (okE S v ev && okKV S r ks vs)
    | _, _, _ => false)
def okT : SX → CT → Expr → Bool
  | S, .and es, e => (match e with
    | .BoolOp .And vs _ => okTs S es vs
    | _ => false)
  | S, .or es, e => (match e with
    | .BoolOp .Or vs _ => okTs S es vs
    | _ => false)
  | S, .not a, e => (match e with
    | .UnaryOp .Not x _ => okT S a x
    | _ => false)
  | S, .ife c a b, e => (match e with
    | .IfExp t x y _ => okT S c t && (okT S a x && okT S b y)
    | _ => false)
  | S, .cmp op a b, e => (match e with
    | .Compare l [o] [r] _ => decide (o = op) && (!behindInMarks op r && (okE S a l && okE S b r))
    | _ => false)
  | S, .chain o1 o2 a b c, e => (match e with
    | .Compare l [p1, p2] [r1, r2] _ => decide (p1 = o1) && (decide (p2 = o2) && (!lastMarks [o1, o2] [r1, r2] && (okE S a l && (okE S b r1 && okE S c r2))))
    | _ => false)
  | S, .val a, e => okE S a e && plainT e
def okTs : SX → CTs → List Expr → Bool
  | _, .nil, es => es.isEmpty
  | S, .cons c r, es => (match es with
    | e :: es => okT S c e && okTs S r es
    | [] => false)
def okIfs : SX → CTs → List Expr → Bool
  | _, .nil, es => es.isEmpty
  | S, .cons c r, es => (match es, r with
    | [e], .nil => okT S c e
    | _, _ => false)
def okP : SX → CEs → Option Expr → Bool
  | _, .nil, e => e.isNone
  | S, .cons c r, e => (match e, r with
    | some e, .nil => okE S c e
    | _, _ => false)
def okI : SX → IT → Expr → Expr → Bool
  | S, .seq c, _, e => !setB e && okE S c e
  | S, .range1 a, _, e => (match e with
    | .Call (.Name x _) [ea] [] _ => decide (x = "range") && (glB S.sc x && (decide (x ∈ G.free) && (okE S a ea && noStarB ea)))
    | _ => false)
  | S, .range2 a b, _, e => (match e with
    | .Call (.Name x _) [ea, eb] [] _ => decide (x = "range") && (glB S.sc x && (decide (x ∈ G.free) && (okE S a ea && (noStarB ea && (okE S b eb && noStarB eb)))))
    | _ => false)
  | S, .enum a, t, e => (match e with
    | .Call (.Name x _) [ea] [] _ => decide (x = "enumerate") && (glB S.sc x && (decide (x ∈ G.free) && (okE S a ea && (noStarB ea && (match t with | .Tuple _ _ _ => true | _ => false)))))
    | _ => false)
end
end
end Rk

set_option Elab.async false
set_option linter.all false
set_option maxRecDepth 100000
set_option maxHeartbeats 2000000
/-! RkM: expressions that were looked at do what the code does. -/
namespace Rk
open PySem PySem.Spec L2

/-- the call of a name that may hold a lambda -/
def actE (cf : CF) (i : Nat) : Lo → M PV := fun L h => match L[i]? with
  | some (some v) => actV cf v h
  | _ => .stuck
/-- two rows, thing by thing -/
inductive Both {α β : Type} (r : α → β → Prop) : List α → List β → Prop
  | nil : Both r [] []
  | cons {x : α} {y : β} {xs : List α} {ys : List β} : r x y → Both r xs ys → Both r (x :: xs) (y :: ys)
/-- what an except clause's classes answer -/
def ExmF (K : PySem.W.Frag) (mg : Str → Option Value) (q : List Str × List (Str × Bool)) : Prop := match q.1 with
  | [x] => ∃ c, mg x = some c ∧ ∀ cl b, tabL q.2 cl = some b → PySem.W.exmOne K (.ref (He.ga K cl)) c = some b
  | [x, y] => ∃ c1 c2, mg x = some c1 ∧ mg y = some c2 ∧ ∀ cl b, tabL q.2 cl = some b → PySem.W.exmAny K (.ref (He.ga K cl)) [c1, c2] = some b
  | _ => False
/-- an own class whose errors are raised -/
structure RaiF (K : PySem.W.Frag) (mg : Str → Option Value) (c : Str) : Prop where
  at_ : mg c = some (.ref (He.ga K c))
  ex : PySem.W.excIn K (He.ga K c) He.veBase "ValueError.__new__" = true
  kp : PySem.W.keepIn K (.ref (He.ga K c)) = true
  sub : PySem.W.subIn K (.ref (He.ga K c)) (.type "BaseException") = some true
  ty : PySem.W.typeIn K (.ref (He.ga K c)) = some (.type "type")
/-- what a text's module says besides its defs -/
structure ModF (K : PySem.W.Frag) (mg : Str → Option Value) (G : GS) : Prop where
  isx1 : ∀ q ∈ G.isx1, ∃ u, ClsN K mg q.1 u ∧ IsxF1 K q.2 u
  isxT : ∀ q ∈ G.isxT, ∃ us, Both (ClsN K mg) q.1 us ∧ us.length ≤ 20 ∧ IsxF K q.2 us
  exm : ∀ q ∈ G.exm, ExmF K mg q
  exc : ∀ c ∈ G.exc, RaiF K mg c
/-- a lambda handed to a def does what the code does -/
def LamR (Γ : GI) (G : GS) (N : List Str) (cf : CF) (W : WX) (S : SX) (X : Cx) : Prop :=
  ∀ (f : Nat) (d : FD) (m : Lo → M PV) (b : Expr) (scope : Scope) (p lpos pos : Pos), G.defs[f]? = some d → (d.gname == ("__debug__" : Str)) = false → Gl X d.gname → LamX.LamS X.env.scope scope →
    (∀ (A : Around) (outer : List Env) (s : Shared) (H : Hp) (E : XK) (f' c' : Addr), Room cf.lv (A.deeper (LamX.lamEnv X scope s.heap.objs.size f' c')) → (A.deeper (LamX.lamEnv X scope s.heap.objs.size f' c')).guards = some [] →
      SE Γ (fun cls dd _ H => E cls dd H) (LamX.lamCx X A outer s H E scope f' c') b m) →
    SE Γ W X (.Call (.Name d.gname p) [.Lambda ⟨[], [], none, [], [], none, []⟩ b scope lpos] [] pos) (fun L => noX (cf.lam f (m L)))
/-- the context of a body, or of a comprehension's block -/
structure CK (Γ : GI) (G : GS) (N : List Str) (cf : CF) (W : WX) (S : SX) (X : Cx) : Prop where
  hN : X.N = N
  nd : N.Nodup
  hK : X.K = Γ.K
  calm : X.calm = true
  gd : X.A.guards = some []
  un : X.A.units + 200 < cLine
  takes : Takes X W
  hsc : X.env.scope = S.sc
  hfn : ∀ x, stB S x = true → X.fn x = true ∨ X.env.scope.names.lookup x = some .local
  free : ∀ x ∈ G.free, X.mg x = none
  consts : ∀ p ∈ G.consts, ∃ u x, X.mg p.1 = some u ∧ RelV x u ∧ ∀ ρ H, Den Γ.K ρ H x p.2.pv
  fns : ∀ f d, G.defs[f]? = some d → ∃ fa fd, X.mg d.gname = some (.ref fa) ∧ PySem.W.keepIn X.K (.ref fa) = true ∧ Binds X.K fd d.ps [] ∧ Room cf.lv X.A ∧ FnG X.prog X.w X.K X.mg X.base cf.lv fa fd d.ps (spD Γ (cf.call f)) ∧ ∀ n nks pm, (f, n, nks, pm) ∈ G.kws → KB X.K fd d.ps n nks pm
  md : ModF X.K X.mg G
  acts : S.fs = none → ∀ (i : Nat) (x : Str) (p1 p2 : Pos), N[i]? = some x → visB S.sc x = true → plainB x = true → ∀ (pn : List (Addr × Obj)) (xe : Value → Shared → Prop) (W' : WX), Takes (X.tr pn xe) W' → SE Γ W' (X.tr pn xe) (.Call (.Name x p1) [] [] p2) (actE cf i)
  act0 : S.fs = none → ∀ (i : Nat) (x : Str) (p1 p2 : Pos), N[i]? = some x → visB S.sc x = true → plainB x = true → SE Γ W X (.Call (.Name x p1) [] [] p2) (actE cf i)
  lams : S.lm = true → LamR Γ G N cf W S X
/-- nothing is let out -/
theorem takesN {X : Cx} : Takes X WN := fun _ _ x => by
  obtain ⟨_, _, _, _, _, _, _, _, _, _, _, _, _, _, _, _, z⟩ := x
  exact z.elim
theorem CK.blk {Γ : GI} {G : GS} {N : List Str} {cf : CF} {W : WX} {S : SX} {X : Cx} (k : CK Γ G N cf W S X) (scope : Scope) (s : Shared) (H : Hp) (C : Addr) (cl : List (Str × Addr)) (fp : List Addr) :
    CK Γ G N cf WN ⟨relS scope S.sc, some scope, false⟩ (X.blk s H scope (compEnvC scope cl C X.env) fp) where
  hN := k.hN
  nd := k.nd
  hK := k.hK
  calm := k.calm
  gd := k.gd
  un := k.un
  takes := takesN
  hsc := by
    show relS scope X.env.scope = relS scope S.sc
    rw [k.hsc]
  hfn := fun x h => by
    have e : relS scope X.env.scope = relS scope S.sc := by rw [k.hsc]
    show (scope.names.lookup x == some .cell) = true ∨ (relS scope X.env.scope).names.lookup x = some .local
    rw [e]
    unfold stB at h
    split at h
    · rename_i q
      exact .inr q
    · exact .inl h
    · cases h
  free := k.free
  consts := k.consts
  fns := k.fns
  md := k.md
  acts := fun z => nomatch z
  act0 := fun z => nomatch z
  lams := fun z => nomatch z
/-- the body of a try -/
theorem CK.tr {Γ : GI} {G : GS} {N : List Str} {cf : CF} {W W' : WX} {S : SX} {X : Cx} {pn : List (Addr × Obj)} {xe : Value → Shared → Prop} (k : CK Γ G N cf W S X) (tk : Takes (X.tr pn xe) W') : CK Γ G N cf W' { S with lm := false } (X.tr pn xe) where
  hN := k.hN
  nd := k.nd
  hK := k.hK
  calm := k.calm
  gd := k.gd
  un := k.un
  takes := tk
  hsc := k.hsc
  hfn := k.hfn
  free := k.free
  consts := k.consts
  fns := k.fns
  md := k.md
  acts := fun z i x p1 p2 e1 e2 e3 pn xe W tk => k.acts z i x p1 p2 e1 e2 e3 pn xe W tk
  act0 := fun z i x p1 p2 e1 e2 e3 => k.acts z i x p1 p2 e1 e2 e3 _ _ _ tk
  lams := fun z => nomatch z
/-- a lambda's body -/
theorem CK.lm {Γ : GI} {G : GS} {N : List Str} {cf : CF} {W : WX} {S : SX} {X : Cx} (k : CK Γ G N cf W S X) {scope : Scope} (hL : LamX.LamS X.env.scope scope) {A : Around} {outer : List Env} {s : Shared} {H : Hp} {E : XK} {f c : Addr}
    (hr : Room cf.lv (A.deeper (LamX.lamEnv X scope s.heap.objs.size f c))) (hg : (A.deeper (LamX.lamEnv X scope s.heap.objs.size f c)).guards = some []) :
    CK Γ G N cf (fun cls dd _ H => E cls dd H) ⟨scope, some scope, false⟩ (LamX.lamCx X A outer s H E scope f c) where
  hN := k.hN
  nd := k.nd
  hK := k.hK
  calm := rfl
  gd := hg
  un := by
    have := hr.un
    show (A.deeper _).units + 200 < cLine
    omega
  takes := takes_of rfl rfl rfl rfl
  hsc := rfl
  hfn := fun x h => by
    unfold stB at h
    split at h
    · rename_i q
      exact absurd rfl (hL.own _ (PySem.mem_of_lookup q)).1
    · rename_i q
      exact absurd rfl (hL.own _ (PySem.mem_of_lookup q)).2
    · cases h
  free := k.free
  consts := k.consts
  fns := fun f d e => by
    obtain ⟨fa, fd, e1, e2, e3, e4, e5, e6⟩ := k.fns f d e
    exact ⟨fa, fd, e1, e2, e3, hr, e5, e6⟩
  md := k.md
  acts := fun z => nomatch z
  act0 := fun z => nomatch z
  lams := fun z => nomatch z

section
variable {Γ : GI} {G : GS} {N : List Str} {cf : CF} {W : WX} {S : SX} {X : Cx} (k : CK Γ G N cf W S X)
include k
theorem CK.vis {x : Str} (h : visB S.sc x = true) : Vis X.env.scope x := by
  rw [k.hsc]
  unfold visB at h
  split at h
  · rename_i q
    exact .inl q
  · rename_i q
    exact .inr (.inl q)
  · rename_i q
    exact .inr (.inr q)
  · cases h
theorem CK.loc {x : Str} (h : stB S x = true) : Loc X.env.scope x := by
  rw [k.hsc]
  unfold stB at h
  split at h
  · rename_i q
    exact .inl q
  · rename_i q
    exact .inr q
  · cases h
theorem CK.gl {x : Str} (h : glB S.sc x = true) : Gl X x := by
  show X.env.scope.names.lookup x = some .globalImplicit
  rw [k.hsc]
  exact of_decide_eq_true h
theorem CK.u64 : X.A.units + 64 < cLine := by have := k.un; omega
theorem CK.u80 : X.A.units + 80 < cLine := by have := k.un; omega
omit k in
theorem plain_of {x : Str} (h : plainB x = true) : (x == ("__debug__" : Str)) = false ∧ (x == ("__classdict__" : Str)) = false := by
  unfold plainB at h
  obtain ⟨h1, h2⟩ := Bool.and_eq_true_iff.mp h
  exact ⟨by simpa using h1, by simpa using h2⟩
omit k in
theorem and2 {a b : Bool} (h : (a && b) = true) : a = true ∧ b = true := Bool.and_eq_true_iff.mp h
theorem c_names : ∀ {is : List Nat} {es : List Expr}, okNames N S is es = true → GNames X es is
  | [], [], _ => .nil
  | i :: is, .Name x p :: es, h => by
    obtain ⟨h1, h⟩ := and2 (show (decide (N[i]? = some x) && (stB S x && okNames N S is es)) = true from h)
    obtain ⟨h2, h3⟩ := and2 h
    exact .cons (by rw [k.hN]; exact of_decide_eq_true h1) (k.loc h2) (k.hfn x h2) (c_names h3)
theorem c_tg {t : Tg} {e : Expr} (h : okTg N S t e = true) : PG X e (RdG Γ t) := by
  cases t with
  | nm i =>
    cases e with
    | Name x p =>
      obtain ⟨h1, h2⟩ := and2 (show (decide (N[i]? = some x) && stB S x) = true from h)
      exact sg_name (by rw [k.hN]; exact k.nd) (by rw [k.hN]; exact of_decide_eq_true h1) (k.loc h2) (k.hfn x h2)
    | _ => cases h
  | tup is =>
    cases e with
    | Tuple es q p => exact sg_tup k.hK k.calm (by rw [k.hN]; exact k.nd) (c_names k (show okNames N S is es = true from h))
    | _ => cases h
theorem cE_var {i : Nat} {e : Expr} (h : okE G N S (.var i) e = true) : SE Γ W X e (evE cf (.var i)) := by
  cases e with
  | Name x p =>
    obtain ⟨h1, h⟩ := and2 (show (decide (N[i]? = some x) && (visB S.sc x && plainB x)) = true from h)
    obtain ⟨h2, h3⟩ := and2 h
    exact se_var (by rw [k.hN]; exact of_decide_eq_true h1) (k.vis h2) (plain_of h3).1 (plain_of h3).2
  | _ => cases h
theorem cE_cst {c : Cst} {e : Expr} (h : okE G N S (.cst c) e = true) : SE Γ W X e (evE cf (.cst c)) := by
  cases e with
  | Constant q n p =>
    obtain ⟨h1, h2⟩ := and2 (show (decide (q = c.const) && c.okB) = true from h)
    rw [of_decide_eq_true h1]
    exact se_cst c h2
  | _ => cases h
theorem cE_glob {x : Str} {v : GC} {e : Expr} (h : okE G N S (.glob x v) e = true) : SE Γ W X e (evE cf (.glob x v)) := by
  cases e with
  | Name y p =>
    obtain ⟨h1, h⟩ := and2 (show (decide (y = x) && (glB S.sc x && (plainB x && decide ((x, v) ∈ G.consts)))) = true from h)
    obtain ⟨h2, h⟩ := and2 h
    obtain ⟨h3, h4⟩ := and2 h
    rw [of_decide_eq_true h1]
    obtain ⟨u, w, e1, e2, e3⟩ := k.consts _ (of_decide_eq_true h4)
    refine PE_imp (pe_glob (k.gl h2) e1 e2 (plain_of h3).1) fun σ H Q h => ?_
    obtain ⟨ρ, ph, L, hr, lo, po⟩ := h
    exact post_val po hr (e3 ρ H)
  | _ => cases h
theorem cE_tup {es : CEs} {e : Expr} (i : ∀ {es'}, okEs G N S es es' = true → SA Γ W X es' (evEs cf es)) (h : okE G N S (.tup es) e = true) : SE Γ W X e (evE cf (.tup es)) := by
  cases e with
  | Tuple els q p => exact se_tup (i h)
  | _ => cases h
theorem cE_lst {fz : Bool} {es : CEs} {e : Expr} (i : ∀ {es'}, okEs G N S es es' = true → SA Γ W X es' (evEs cf es)) (h : okE G N S (.lst fz es) e = true) : SE Γ W X e (evE cf (.lst fz es)) := by
  cases e with
  | List els p => exact se_lst (i h)
  | _ => cases h
theorem cE_bin {fz : Bool} {op : Operator} {a b : CE} {e : Expr} (i1 : ∀ {e}, okE G N S a e = true → SE Γ W X e (evE cf a)) (i2 : ∀ {e}, okE G N S b e = true → SE Γ W X e (evE cf b)) (h : okE G N S (.bin fz op a b) e = true) : SE Γ W X e (evE cf (.bin fz op a b)) := by
  cases e with
  | BinOp l o r p =>
    obtain ⟨h1, h⟩ := and2 (show (decide (o = op) && (okE G N S a l && okE G N S b r)) = true from h)
    obtain ⟨h2, h3⟩ := and2 h
    rw [of_decide_eq_true h1]
    exact se_bin (bin_ok k.hK fz op) (nx_bin fz op) (i1 h2) (i2 h3)
  | _ => cases h
theorem cE_neg {a : CE} {e : Expr} (i1 : ∀ {e}, okE G N S a e = true → SE Γ W X e (evE cf a)) (h : okE G N S (.neg a) e = true) : SE Γ W X e (evE cf (.neg a)) := by
  cases e with
  | UnaryOp o x p =>
    cases o with
    | USub => exact se_neg (i1 h)
    | _ => cases h
  | _ => cases h
theorem cE_cmp {op : CmpOp} {a b : CE} {e : Expr} (i1 : ∀ {e}, okE G N S a e = true → SE Γ W X e (evE cf a)) (i2 : ∀ {e}, okE G N S b e = true → SE Γ W X e (evE cf b)) (h : okE G N S (.cmp op a b) e = true) :
    SE Γ W X e (evE cf (.cmp op a b)) ∧ ST Γ W X e (evT cf (.cmp op a b)) := by
  cases e with
  | Compare l os rs p =>
    match os, rs, h with
    | [o], [r], h =>
      obtain ⟨h1, h⟩ := and2 (show (decide (o = op) && (!behindInMarks op r && (okE G N S a l && okE G N S b r))) = true from h)
      obtain ⟨h2, h⟩ := and2 h
      obtain ⟨h3, h4⟩ := and2 h
      rw [of_decide_eq_true h1]
      have h2 : behindInMarks op r = false := by simpa using h2
      exact ⟨se_cmp k.hK k.u64 h2 (i1 h3) (i2 h4), st_cmp k.hK k.u64 h2 (i1 h3) (i2 h4)⟩
    | [], _, h => cases h
    | [_], [], h => cases h
    | [_], _ :: _ :: _, h => cases h
    | _ :: _ :: _, _, h => cases h
  | _ => cases h
theorem cE_chain {o1 o2 : CmpOp} {a b c : CE} {e : Expr} (i1 : ∀ {e}, okE G N S a e = true → SE Γ W X e (evE cf a)) (i2 : ∀ {e}, okE G N S b e = true → SE Γ W X e (evE cf b)) (i3 : ∀ {e}, okE G N S c e = true → SE Γ W X e (evE cf c)) (h : okE G N S (.chain o1 o2 a b c) e = true) :
    SE Γ W X e (evE cf (.chain o1 o2 a b c)) ∧ ST Γ W X e (evT cf (.chain o1 o2 a b c)) := by
  cases e with
  | Compare l os rs p =>
    match os, rs, h with
    | [p1, p2], [r1, r2], h =>
      obtain ⟨h1, h⟩ := and2 (show (decide (p1 = o1) && (decide (p2 = o2) && (!lastMarks [o1, o2] [r1, r2] && (okE G N S a l && (okE G N S b r1 && okE G N S c r2))))) = true from h)
      obtain ⟨h2, h⟩ := and2 h
      obtain ⟨h3, h⟩ := and2 h
      obtain ⟨h4, h⟩ := and2 h
      obtain ⟨h5, h6⟩ := and2 h
      rw [of_decide_eq_true h1, of_decide_eq_true h2]
      have h3 : lastMarks [o1, o2] [r1, r2] = false := by simpa using h3
      exact ⟨se_chain k.hK k.u64 h3 (i1 h4) (i2 h5) (i3 h6), st_chain k.hK k.u64 h3 (i1 h4) (i2 h5) (i3 h6)⟩
    | [], _, h => cases h
    | [_], _, h => cases h
    | [_, _], [], h => cases h
    | [_, _], [_], h => cases h
    | [_, _], _ :: _ :: _ :: _, h => cases h
    | _ :: _ :: _ :: _, _, h => cases h
  | _ => cases h
theorem cE_bnot {a : CE} {e : Expr} (i1 : ∀ {e}, okE G N S a e = true → SE Γ W X e (evE cf a)) (h : okE G N S (.bnot a) e = true) : SE Γ W X e (evE cf (.bnot a)) := by
  cases e with
  | UnaryOp o x p =>
    cases o with
    | Not => exact se_not k.hK (i1 h)
    | _ => cases h
  | _ => cases h
theorem cT_not {a : CT} {e : Expr} (i1 : ∀ {e}, okT G N S a e = true → ST Γ W X e (evT cf a)) (h : okT G N S (.not a) e = true) : ST Γ W X e (evT cf (.not a)) := by
  cases e with
  | UnaryOp o x p =>
    cases o with
    | Not => exact st_not (i1 h)
    | _ => cases h
  | _ => cases h
theorem cT_ife {c a b : CT} {e : Expr} (i0 : ∀ {e}, okT G N S c e = true → ST Γ W X e (evT cf c)) (i1 : ∀ {e}, okT G N S a e = true → ST Γ W X e (evT cf a)) (i2 : ∀ {e}, okT G N S b e = true → ST Γ W X e (evT cf b)) (h : okT G N S (.ife c a b) e = true) : ST Γ W X e (evT cf (.ife c a b)) := by
  cases e with
  | IfExp t x y p =>
    obtain ⟨h1, h⟩ := and2 (show (okT G N S c t && (okT G N S a x && okT G N S b y)) = true from h)
    obtain ⟨h2, h3⟩ := and2 h
    exact st_ife (i0 h1) (i1 h2) (i2 h3)
  | _ => cases h
theorem cT_val {a : CE} {e : Expr} (i1 : ∀ {e}, okE G N S a e = true → SE Γ W X e (evE cf a)) (h : okT G N S (.val a) e = true) : ST Γ W X e (evT cf (.val a)) := by
  obtain ⟨h1, h2⟩ := and2 (show (okE G N S a e && plainT e) = true from h)
  refine st_val k.hK (i1 h1) fun whole => ?_
  cases e with
  | UnaryOp o x p =>
    cases o with
    | Not => cases h2
    | _ => rfl
  | BoolOp _ _ _ => cases h2
  | IfExp _ _ _ _ => cases h2
  | Compare _ _ _ _ => cases h2
  | _ => rfl
theorem cE_ife {c : CT} {a b : CE} {e : Expr} (i0 : ∀ {e}, okT G N S c e = true → ST Γ W X e (evT cf c)) (i1 : ∀ {e}, okE G N S a e = true → SE Γ W X e (evE cf a)) (i2 : ∀ {e}, okE G N S b e = true → SE Γ W X e (evE cf b)) (h : okE G N S (.ife c a b) e = true) : SE Γ W X e (evE cf (.ife c a b)) := by
  cases e with
  | IfExp t x y p =>
    obtain ⟨h1, h⟩ := and2 (show (okT G N S c t && (okE G N S a x && okE G N S b y)) = true from h)
    obtain ⟨h2, h3⟩ := and2 h
    exact se_ife (i0 h1) (i1 h2) (i2 h3)
  | _ => cases h
end
end Rk

set_option Elab.async false
set_option linter.all false
set_option maxRecDepth 100000
set_option maxHeartbeats 2000000
/-! RkN: expressions that were looked at do what the code does: the whole. -/
namespace Rk
open PySem PySem.Spec L2

/-! ### dict displays -/
theorem putM {K : PySem.W.Frag} {ρ : Rz} {H : Hp} {v : V} {x : PV} (k : Key) (d : Den K ρ H v x) : ∀ {vs : List (Key × V)} {xs : List (Key × PV)}, DenK K ρ H vs xs → DenK K ρ H (vs.map fun kv => if kv.1 = k then (kv.1, v) else kv) (xs.map fun kv => if kv.1 = k then (kv.1, x) else kv)
  | _, _, .nil => .nil
  | _, _, .cons (k := k') h t => by
    simp only [List.map_cons]
    by_cases e : k' = k
    · simp only [e, if_true]
      exact .cons d (putM k d t)
    · simp only [if_neg e]
      exact .cons h (putM k d t)
theorem putA {K : PySem.W.Frag} {ρ : Rz} {H : Hp} {v : V} {x : PV} (k : Key) (d : Den K ρ H v x) : ∀ {vs : List (Key × V)} {xs : List (Key × PV)}, DenK K ρ H vs xs → DenK K ρ H (vs ++ [(k, v)]) (xs ++ [(k, x)])
  | _, _, .nil => .cons d .nil
  | _, _, .cons h t => .cons h (putA k d t)
theorem DenK.put {K : PySem.W.Frag} {ρ : Rz} {H : Hp} {v : V} {x : PV} (k : Key) (d : Den K ρ H v x) : ∀ {vs : List (Key × V)} {xs : List (Key × PV)}, DenK K ρ H vs xs → DenK K ρ H (putK vs k v) (insK xs k x) := by
  intro vs xs r
  have hk := r.keys
  have ha : (vs.any fun kv => decide (kv.1 = k)) = (xs.any fun kv => decide (kv.1 = k)) := by
    have e1 : (vs.any fun kv => decide (kv.1 = k)) = ((vs.map (·.1)).any fun z => decide (z = k)) := by rw [List.any_map]; rfl
    have e2 : (xs.any fun kv => decide (kv.1 = k)) = ((xs.map (·.1)).any fun z => decide (z = k)) := by rw [List.any_map]; rfl
    rw [e1, e2, hk]
  unfold putK insK
  rw [ha]
  split
  · exact putM k d r
  · exact putA k d r
theorem DenK.merge {K : PySem.W.Frag} {ρ : Rz} {H : Hp} : ∀ {ms : List (Key × V)} {ns : List (Key × PV)} {vs : List (Key × V)} {xs : List (Key × PV)}, DenK K ρ H ms ns → DenK K ρ H vs xs →
    DenK K ρ H (ms.foldl (fun acc kv => putK acc kv.1 kv.2) vs) (ns.foldl (fun acc kv => insK acc kv.1 kv.2) xs)
  | _, _, _, _, .nil, r => r
  | _, _, _, _, .cons (vs := ms) (xs := ns) h t, r => DenK.merge (ms := ms) (ns := ns) t (r.put _ h)
def flatP : List (V × V) → List V
  | [] => []
  | (a, b) :: r => a :: b :: flatP r
theorem pairK_den {K : PySem.W.Frag} {ρ : Rz} {H : Hp} : ∀ {ps : List (V × V)} {xs : List PV} {kvs : List (Key × PV)}, DenL K ρ H (flatP ps) xs → pairK xs = some kvs → ∃ ws : List (Key × V), ps = ws.map (fun kv => (kV kv.1, kv.2)) ∧ DenK K ρ H ws kvs ∧ ws.length = ps.length
  | [], _, _, .nil, e => by
    cases e
    exact ⟨[], rfl, .nil, rfl⟩
  | (a, b) :: r, x :: y :: xs, kvs, .cons d1 (.cons d2 t), e => by
    have e : (match asKey x, pairK xs with
      | some k, some r => some ((k, y) :: r)
      | _, _ => none) = some kvs := e
    split at e
    · rename_i k r2 e1 e2
      cases e
      obtain ⟨ws, rfl, h2, h3⟩ := pairK_den t e2
      refine ⟨(k, b) :: ws, ?_, .cons d2 h2, by rw [List.length_cons, List.length_cons, h3]⟩
      have ea : a = kV k := by
        cases d1 with
        | int i =>
          cases e1
          rfl
        | str z _ =>
          cases e1
          rfl
        | _ => cases e1
      simp only [List.map_cons]
      rw [ea]
    · cases e

section
variable {Γ : GI} {G : GS} {N : List Str} {cf : CF} {W : WX} {S : SX} {X : Cx} (k : CK Γ G N cf W S X)
include k
theorem cE_call {f : Nat} {es : CEs} {e : Expr} (i : ∀ {es'}, okEs G N S es es' = true → SA Γ W X es' (evEs cf es) ∧ es'.all noStarB = true) (h : okE G N S (.call f es) e = true) : SE Γ W X e (evE cf (.call f es)) := by
  cases e with
  | Call fn args kws p =>
    cases fn with
    | Name x p2 =>
      cases kws with
      | nil =>
        have h : (match G.defs[f]? with
          | some d => decide (d.gname = x) && (glB S.sc x && (plainB x && okEs G N S es args))
          | none => false) = true := h
        split at h
        · rename_i d hd
          obtain ⟨h1, h⟩ := and2 h
          obtain ⟨h2, h⟩ := and2 h
          obtain ⟨h3, h4⟩ := and2 h
          have h1 := of_decide_eq_true h1
          subst h1
          obtain ⟨fa, fd, e1, e2, e3, e4, e5, _⟩ := k.fns f d hd
          obtain ⟨i1, i2⟩ := i h4
          cases args with
          | nil =>
            have e : es = .nil := by
              cases es with
              | nil => rfl
              | cons _ _ => cases h4
            subst e
            exact se_call0 e5 e4 k.gd e3 k.takes (k.gl h2) e1 e2 (plain_of h3).1
          | cons a as => exact se_call e5 e4 k.gd e3 k.takes (k.gl h2) e1 e2 i1 (plain_of h3).1 i2
        · cases h
      | cons _ _ => cases h
    | _ => cases h
  | _ => cases h
theorem cE_pr {fz : Bool} {p : Pr} {es : CEs} {e : Expr} (i : ∀ {es'}, okEs G N S es es' = true → SA Γ W X es' (evEs cf es) ∧ es'.all noStarB = true) (h : okE G N S (.pr fz p es) e = true) : SE Γ W X e (evE cf (.pr fz p es)) := by
  cases e with
  | Call fn args kws q =>
    cases fn with
    | Name x p2 =>
      cases kws with
      | nil =>
        obtain ⟨h1, h⟩ := and2 (show (decide (x = p.nm) && (glB S.sc x && (decide (x ∈ G.free) && (okEs G N S es args && !args.isEmpty)))) = true from h)
        obtain ⟨h2, h⟩ := and2 h
        obtain ⟨h3, h⟩ := and2 h
        obtain ⟨h4, h5⟩ := and2 h
        have h1 := of_decide_eq_true h1
        subst h1
        obtain ⟨i1, i2⟩ := i h4
        cases args with
        | nil => cases h5
        | cons a as => exact se_pr k.hK k.calm k.gd k.u80 (k.gl h2) (k.free _ (of_decide_eq_true h3)) i1 i2
      | cons _ _ => cases h
    | _ => cases h
  | _ => cases h
theorem cE_mt {fz : Bool} {m : Mt} {o : CE} {es : CEs} {e : Expr} (i0 : ∀ {e}, okE G N S o e = true → SE Γ W X e (evE cf o)) (i : ∀ {es'}, okEs G N S es es' = true → SA Γ W X es' (evEs cf es) ∧ es'.all noStarB = true) (h : okE G N S (.mt fz m o es) e = true) : SE Γ W X e (evE cf (.mt fz m o es)) := by
  cases e with
  | Call fn args kws q =>
    cases fn with
    | Attribute ob nm apos =>
      cases kws with
      | nil =>
        obtain ⟨h1, h⟩ := and2 (show (decide (nm = m.nm) && (notSuperB ob && ((apos.endLine == q.line) && (okE G N S o ob && (okEs G N S es args && (!args.isEmpty && decide (args.length < 30))))))) = true from h)
        obtain ⟨h2, h⟩ := and2 h
        obtain ⟨h3, h⟩ := and2 h
        obtain ⟨h4, h⟩ := and2 h
        obtain ⟨h5, h⟩ := and2 h
        obtain ⟨h6, h7⟩ := and2 h
        have h1 := of_decide_eq_true h1
        subst h1
        obtain ⟨i1, i2⟩ := i h5
        cases args with
        | nil => cases h6
        | cons a as => exact se_mt k.hK (i0 h4) i1 (base_of h2) h3 i2 (of_decide_eq_true h7)
      | cons _ _ => cases h
    | _ => cases h
  | _ => cases h
theorem cE_isi {a : CE} {t : Ty} {e : Expr} (i0 : ∀ {e}, okE G N S a e = true → SE Γ W X e (evE cf a)) (h : okE G N S (.isi a t) e = true) : SE Γ W X e (evE cf (.isi a t)) := by
  unfold okE at h
  split at h
  · obtain ⟨h1, h⟩ := and2 h
    obtain ⟨h2, h⟩ := and2 h
    obtain ⟨h3, h⟩ := and2 h
    obtain ⟨h4, h⟩ := and2 h
    obtain ⟨h5, h⟩ := and2 h
    obtain ⟨h6, h⟩ := and2 h
    obtain ⟨h7, h8⟩ := and2 h
    have h1 := of_decide_eq_true h1
    have h4 := of_decide_eq_true h4
    subst h1
    subst h4
    exact se_isi k.hK (k.gl h2) (k.free _ (of_decide_eq_true h3)) (k.gl h5) (k.free _ (of_decide_eq_true h6)) (i0 h7) h8
  · cases h
theorem cE_sub {a b : CE} {e : Expr} (i1 : ∀ {e}, okE G N S a e = true → SE Γ W X e (evE cf a)) (i2 : ∀ {e}, okE G N S b e = true → SE Γ W X e (evE cf b)) (h : okE G N S (.sub a b) e = true) : SE Γ W X e (evE cf (.sub a b)) := by
  cases e with
  | Subscript v ix p =>
    obtain ⟨h1, h⟩ := and2 (show (plainIxB ix && (okE G N S a v && okE G N S b ix)) = true from h)
    obtain ⟨h2, h3⟩ := and2 h
    exact se_sub k.hK k.u64 h1 (i1 h2) (i2 h3)
  | _ => cases h
theorem cE_sl {fz : Bool} {a : CE} {lo hi : CEs} {e : Expr} (i1 : ∀ {e}, okE G N S a e = true → SE Γ W X e (evE cf a)) (i2 : ∀ {e}, okP G N S lo e = true → L2.PO X e (RdO Γ W (evP cf lo))) (i3 : ∀ {e}, okP G N S hi e = true → L2.PO X e (RdO Γ W (evP cf hi)))
    (h : okE G N S (.sl fz a lo hi) e = true) : SE Γ W X e (evE cf (.sl fz a lo hi)) := by
  cases e with
  | Subscript v ix p =>
    cases ix with
    | Slice l u st p2 =>
      cases st with
      | none =>
        obtain ⟨h1, h⟩ := and2 (show (okE G N S a v && (okP G N S lo l && okP G N S hi u)) = true from h)
        obtain ⟨h2, h3⟩ := and2 h
        exact se_sl k.hK (i1 h1) (i2 h2) (i3 h3)
      | some _ => cases h
    | _ => cases h
  | _ => cases h
theorem cI_seq {tg : Expr} {a : CE} {e : Expr} (i1 : ∀ {e}, okE G N S a e = true → SE Γ W X e (evE cf a)) (h : okI G N S (.seq a) tg e = true) : SI Γ W X tg e (evI cf (.seq a)) := si_seq k.hK (i1 (and2 (show (!setB e && okE G N S a e) = true from h)).2)
theorem cI_range1 {tg : Expr} {a : CE} {e : Expr} (i1 : ∀ {e}, okE G N S a e = true → SE Γ W X e (evE cf a)) (h : okI G N S (.range1 a) tg e = true) : SI Γ W X tg e (evI cf (.range1 a)) := by
  cases e with
  | Call fn args kws q =>
    cases fn with
    | Name x p2 =>
      match args, kws, h with
      | [ea], [], h =>
        obtain ⟨h1, h⟩ := and2 (show (decide (x = "range") && (glB S.sc x && (decide (x ∈ G.free) && (okE G N S a ea && noStarB ea)))) = true from h)
        obtain ⟨h2, h⟩ := and2 h
        obtain ⟨h3, h⟩ := and2 h
        obtain ⟨h4, h5⟩ := and2 h
        have h1 := of_decide_eq_true h1
        subst h1
        exact si_range1 (k.gl h2) (k.free _ (of_decide_eq_true h3)) (i1 h4) (starEach_cons h5)
      | [], [], h => cases h
      | _ :: _ :: _, [], h => cases h
      | [], _ :: _, h => cases h
      | [_], _ :: _, h => cases h
      | _ :: _ :: _, _ :: _, h => cases h
    | _ => cases h
  | _ => cases h
theorem cI_range2 {tg : Expr} {a b : CE} {e : Expr} (i1 : ∀ {e}, okE G N S a e = true → SE Γ W X e (evE cf a)) (i2 : ∀ {e}, okE G N S b e = true → SE Γ W X e (evE cf b)) (h : okI G N S (.range2 a b) tg e = true) : SI Γ W X tg e (evI cf (.range2 a b)) := by
  cases e with
  | Call fn args kws q =>
    cases fn with
    | Name x p2 =>
      match args, kws, h with
      | [ea, eb], [], h =>
        obtain ⟨h1, h⟩ := and2 (show (decide (x = "range") && (glB S.sc x && (decide (x ∈ G.free) && (okE G N S a ea && (noStarB ea && (okE G N S b eb && noStarB eb)))))) = true from h)
        obtain ⟨h2, h⟩ := and2 h
        obtain ⟨h3, h⟩ := and2 h
        obtain ⟨h4, h⟩ := and2 h
        obtain ⟨h5, h⟩ := and2 h
        obtain ⟨h6, h7⟩ := and2 h
        have h1 := of_decide_eq_true h1
        subst h1
        exact si_range2 (k.gl h2) (k.free _ (of_decide_eq_true h3)) (i1 h4) (i2 h6) (by rw [starEach_cons h5, starEach_cons h7]; rfl) (starEach_cons h7)
      | [], [], h => cases h
      | [_], [], h => cases h
      | _ :: _ :: _ :: _, [], h => cases h
      | [], _ :: _, h => cases h
      | [_], _ :: _, h => cases h
      | [_, _], _ :: _, h => cases h
      | _ :: _ :: _ :: _, _ :: _, h => cases h
    | _ => cases h
  | _ => cases h
omit k in
theorem fold_of {it : IT} {tg e : Expr} (h : okI G N S it tg e = true) (env : Env) : ∀ x, foldedSetIterable e env x = pure x := by
  cases e with
  | Set _ _ _ =>
    cases it with
    | seq c => cases h
    | range1 _ => cases h
    | range2 _ _ => cases h
    | enum _ => cases h
  | _ => exact fun _ => rfl
theorem cE_comp {fz : Bool} {elt : CE} {t : Tg} {it : IT} {ifs : CTs} {own : List Nat} {e : Expr} (i0 : ∀ {tg e}, okI G N S it tg e = true → SI Γ W X tg e (evI cf it))
    (i1 : ∀ {W S X e}, CK Γ G N cf W S X → okE G N S elt e = true → SE Γ W X e (evE cf elt)) (i2 : ∀ {W S X es}, CK Γ G N cf W S X → okIfs G N S ifs es = true → PTs X es (RdT Γ W (evIfs cf ifs)))
    (h : okE G N S (.comp fz elt t it ifs own) e = true) : SE Γ W X e (evE cf (.comp fz elt t it ifs own)) := by
  unfold okE at h
  split at h
  · rename_i ee te ie fe scope p
    obtain ⟨h1, h⟩ := and2 h
    obtain ⟨h2, h⟩ := and2 h
    obtain ⟨h3, h⟩ := and2 h
    obtain ⟨h4, h⟩ := and2 h
    obtain ⟨h5, h⟩ := and2 h
    obtain ⟨h6, h7⟩ := and2 h
    have h6 := of_decide_eq_true h6
    have hb : BlkOk X.N X.env.scope scope (ownP N own) := by
      rw [k.hN, k.hsc]
      exact blkOk_by h5
    have r := se_comp (Γ := Γ) (W := W) (X := X) (elt := ee) (tg := te) (iter := ie) (ifs := fe) (scope := scope) (own := ownP N own) (pos := p) (fz := fz) (t := t) (fi := evI cf it) (ft := evIfs cf ifs) (fe := evE cf elt)
      k.hK k.calm (by rw [k.hN]; exact k.nd) (i0 h1) hb (fun j hj => by rw [h6]; exact of_decide_eq_true (List.all_eq_true.mp h7 j hj))
      (fun s H C cl fp => c_tg (k.blk scope s H C cl fp) h2) (fun s H C cl fp => i2 (k.blk scope s H C cl fp) h4) (fun s H C cl fp => i1 (k.blk scope s H C cl fp) h3) (fold_of h1 _)
    rw [h6] at r
    exact r
  · cases h
end
end Rk

set_option Elab.async false
set_option linter.all false
set_option maxRecDepth 100000
set_option maxHeartbeats 2000000
/-! RkN2: dict comprehensions. -/
namespace Rk
open PySem PySem.Spec L2

section
variable {Γ : GI} {X : Cx} {ρ : Rz} {H : Hp} {ph : PH} {pins : List (Addr × Obj)} {σ : L2.St} {s : Shared}
theorem den_key {K : PySem.W.Frag} {x : V} {p : PV} {k : Key} (d : Den K ρ H x p) (e : asKey p = some k) : x = kV k := by
  cases d <;> first | cases e | skip
  · rfl
  · rfl
theorem loR_mov {K : PySem.W.Frag} {ρ' : Rz} {H' : Hp} {L : Lo} (e : Mov ρ H ρ' H') (l : LoR K ρ H σ L) : LoR K ρ' H' σ L := ⟨l.1, fun i v q => let ⟨x, h1, h2⟩ := l.2 i v q; ⟨x, h1, h2.mov e⟩⟩
theorem dc_rd {W : WX} {own : List (Str × Nat)} {t : Tg} {fi : Lo → M Sr} {ft : Lo → M Bool} {fk fv : Lo → M PV} (hsl : ∀ j ∈ t.slots, j ∈ own.map (·.2)) {σ : L2.St} {H : Hp} {Q : VK}
    (h : RdE Γ W (fun L => do let s ← fi L; kvS (kvStep t (own.map (·.2)) L ft fk fv) s) σ H Q) : tDc (RdI Γ W fi) (RdG Γ t) (RdT Γ WN ft) (RdE Γ WN fk) (RdE Γ WN fv) (own.map (·.2)) σ H Q := by
  obtain ⟨ρ, ph, L, hr, lo, po⟩ := h
  refine ⟨ρ, ph, L, hr, lo, (Post.bind po).imp fun sr ρ1 H1 ph1 ex hr1 po => ?_⟩
  intro J sd jw sd0 D nD
  have lo1 : LoR Γ.K ρ1 H1 σ L := lo.ext ex
  cases sr with
  | rf n => exact (show False from po).elim
  | fx xs =>
    have po : Post Γ (wx Γ W σ) ρ1 H1 (Qv Γ Q) (match kvL (kvStep t (own.map (·.2)) L ft fk fv) ph1.length xs (ph1 ++ [.dct false []]) with
      | .ok _ h' => R.ok (PV.ref ph1.length) h'
      | _ => .stuck) := po
    cases e0 : kvL (kvStep t (own.map (·.2)) L ft fk fv) ph1.length xs (ph1 ++ [.dct false []]) with
    | exc e h' => rw [e0] at po; exact po.elim
    | stuck => rw [e0] at po; exact po.elim
    | ok u phE =>
      rw [e0] at po
      have po : Post Γ (wx Γ W σ) ρ1 H1 (Qv Γ Q) (R.ok (PV.ref ph1.length) phE) := po
      have exA : Ext ρ1 H1 (ρ1.push D) (upd H1 D (.dK [])) := Ext.alloc nD
      have hrA : HR Γ (ρ1.push D) (upd H1 D (.dK [])) (ph1 ++ [.dct false []]) := hr1.alloc nD (.dct upd_same .nil)
      have atD : (ρ1.push D).r[ph1.length]? = some D := by
        show (ρ1.r ++ [D])[ph1.length]? = some D
        rw [← hr1.len, List.getElem?_append_right (Nat.le_refl _)]
        simp
      let INV : Nat → Nat → Hp → Prop := fun i k H2 => ∃ (ρ2 : Rz) (ph3 : PH), i + k = xs.length ∧ Ext ρ1 H1 ρ2 H2 ∧ HR Γ ρ2 H2 ph3 ∧ sd ρ2 H2 ∧ LoR Γ.K ρ2 H2 σ L ∧ ρ2.r[ph1.length]? = some D ∧
        kvL (kvStep t (own.map (·.2)) L ft fk fv) ph1.length (xs.drop i) ph3 = .ok u phE
      refine ⟨fun i m H2 => INV i m H2, ⟨xs.length, _, _, by omega, exA, hrA, jw.ext _ _ _ _ sd0 exA, lo1.ext exA, atD, by rw [List.drop_zero]; exact e0⟩, ?_⟩
      rintro i k H2 ⟨ρ2, ph3, hik, ex2, hr2, sd2, lo2, aD, e4⟩
      cases k with
      | zero =>
        left
        have hd : xs.drop i = [] := List.drop_eq_nil_of_le (by omega)
        rw [hd] at e4
        have e4 : R.ok () ph3 = R.ok u phE := e4
        cases e4
        exact ⟨jw.stop _ _ _ i xs hr2 sd2 rfl (by omega), po ρ2 H2 ex2 hr2 _ (.ref aD)⟩
      | succ k =>
        right
        have hi : i < xs.length := by omega
        rw [List.drop_eq_getElem_cons hi] at e4
        have e4 : (match kvStep t (own.map (·.2)) L ft fk fv xs[i] ph3 with
          | .ok none h' => kvL (kvStep t (own.map (·.2)) L ft fk fv) ph1.length (xs.drop (i + 1)) h'
          | .ok (some (k, v)) h' => (match asKey k, h'[ph1.length]? with
            | some k, some (.dct false acc) => if acc.length < sizeLine then kvL (kvStep t (own.map (·.2)) L ft fk fv) ph1.length (xs.drop (i + 1)) (h'.set ph1.length (.dct false (insK acc k v))) else .stuck
            | _, _ => .stuck)
          | _ => .stuck) = R.ok u phE := e4
        obtain ⟨hgo, hy⟩ := jw.go _ _ _ i xs xs[i] hr2 sd2 rfl (List.getElem?_eq_getElem hi)
        refine ⟨hgo, fun H' => INV (i + 1) k H', fun H' n => ⟨k, Nat.lt_succ_self k, n⟩, fun x H' yl => ?_⟩
        obtain ⟨ρ3, ex3, hr3, dx⟩ := hy x H' yl
        cases e5 : kvStep t (own.map (·.2)) L ft fk fv xs[i] ph3 with
        | exc e h' => rw [e5] at e4; cases e4
        | stuck => rw [e5] at e4; cases e4
        | ok o ph4 =>
          rw [e5] at e4
          unfold kvStep at e5
          split at e5
          · rename_i L' hb
            refine ⟨ρ3, ph3, _, xs[i], L', hr3, (lo2.ext ex3).wipe _, dx, hb, fun σ' lo' but => ⟨?_, ?_⟩⟩
            · rw [(but.mono hsl).wipe, wipe_wipe]
            · obtain ⟨b, ph5, e9, e10⟩ := bind_ok e5
              refine ⟨ρ3, ph3, L', hr3, lo', post_of e9 fun ρ5 H5 ex5 hr5 => ?_⟩
              show if b = true then _ else _
              have exB : Ext ρ2 H2 ρ5 H5 := ex3.trans ex5
              cases b with
              | true =>
                rw [if_pos rfl]
                obtain ⟨y, ph6, e11, e12⟩ := bind_ok (show (fk L' >>= fun y => fv L' >>= fun z => pure (some (y, z)) : M (Option (PV × PV))) ph5 = .ok o ph4 from e10)
                obtain ⟨z, ph7, e13, e14⟩ := bind_ok e12
                have e14 : R.ok (some (y, z)) ph7 = R.ok o ph4 := e14
                cases e14
                refine ⟨ρ5, ph5, L', hr5, lo'.ext ex5, post_of e11 fun ρ6 H6 ex6 hr6 => ?_⟩
                intro yv dy
                refine ⟨ρ6, ph6, L', hr6, (lo'.ext ex5).ext ex6, post_of e13 fun ρ7 H7 ex7 hr7 => ?_⟩
                intro zv dz
                have e4 : (match asKey y, ph4[ph1.length]? with
                  | some k, some (.dct false acc) => if acc.length < sizeLine then kvL (kvStep t (own.map (·.2)) L ft fk fv) ph1.length (xs.drop (i + 1)) (ph4.set ph1.length (.dct false (insK acc k z))) else .stuck
                  | _, _ => .stuck) = R.ok u phE := e4
                split at e4
                · rename_i ky acc ek ea
                  have exC : Ext ρ2 H2 ρ7 H7 := (exB.trans ex6).trans ex7
                  have aD7 : ρ7.r[ph1.length]? = some D := exC.at aD
                  by_cases hz : acc.length < sizeLine
                  · rw [if_pos hz] at e4
                    cases hr7.ob _ D _ aD7 ea with
                    | @dct vs _ hD r =>
                      refine ⟨vs, ky, den_key (dy.ext ex7) ek, hD, by rw [r.length]; exact hz, ?_⟩
                      have exS : Ext ρ7 H7 ρ7 (upd H7 D (.dK (putK vs ky zv))) := Ext.set aD7
                      refine ⟨ρ7, _, by omega, (ex2.trans exC).trans exS, hr7.set aD7 (.dct upd_same ((DenK.put ky dz r).ext exS)), jw.ext _ _ _ _ sd2 (exC.trans exS), (lo2.ext exC).ext exS, aD7, e4⟩
                  · rw [if_neg hz] at e4
                    cases e4
                · cases e4
              | false =>
                rw [if_neg Bool.false_ne_true]
                have e12 : R.ok none ph5 = R.ok o ph4 := e10
                cases e12
                exact ⟨ρ5, ph4, by omega, ex2.trans exB, hr5, jw.ext _ _ _ _ sd2 exB, lo2.ext exB, exB.at aD, e4⟩
          · cases e5
theorem se_dc {W : WX} {kx vx tg iter : Expr} {ifs : List Expr} {scope : Scope} {own : List (Str × Nat)} {pos : Pos} {t : Tg} {fi : Lo → M Sr} {ft : Lo → M Bool} {fk fv : Lo → M PV}
    (hK : X.K = Γ.K) (hc : X.calm = true) (hN : X.N.Nodup) (hi : SI Γ W X tg iter fi) (ok : BlkOk X.N X.env.scope scope own) (hsl : ∀ j ∈ t.slots, j ∈ own.map (·.2))
    (hg : ∀ (s : Shared) (H : Hp) (C : Addr) (cl : List (Str × Addr)) (fp : List Addr), PG (X.blk s H scope (compEnvC scope cl C X.env) fp) tg (RdG Γ t))
    (ht : ∀ (s : Shared) (H : Hp) (C : Addr) (cl : List (Str × Addr)) (fp : List Addr), PTs (X.blk s H scope (compEnvC scope cl C X.env) fp) ifs (RdT Γ WN ft))
    (hk : ∀ (s : Shared) (H : Hp) (C : Addr) (cl : List (Str × Addr)) (fp : List Addr), PE (X.blk s H scope (compEnvC scope cl C X.env) fp) kx (RdE Γ WN fk))
    (hv : ∀ (s : Shared) (H : Hp) (C : Addr) (cl : List (Str × Addr)) (fp : List Addr), PE (X.blk s H scope (compEnvC scope cl C X.env) fp) vx (RdE Γ WN fv))
    (hs : ∀ x, foldedSetIterable iter X.env x = pure x) :
    SE Γ W X (.DictComp kx vx [⟨tg, iter, ifs, 0⟩] scope pos) (fun L => do let s ← fi L; kvS (kvStep t (own.map (·.2)) L ft fk fv) s) :=
  PE_imp (pe_dc hc hN hi ok hg ht hk hv hs) fun σ H Q h => dc_rd hsl h
end
end Rk

set_option Elab.async false
set_option linter.all false
set_option maxRecDepth 100000
set_option maxHeartbeats 2000000
/-! RkN3: the further kinds of code. -/
namespace Rk
open PySem PySem.Spec L2

section
variable {Γ : GI} {G : GS} {N : List Str} {cf : CF} {W : WX} {S : SX} {X : Cx} (k : CK Γ G N cf W S X)
include k
theorem cE_act {i : Nat} {e : Expr} (h : okE G N S (.act i) e = true) : SE Γ W X e (evE cf (.act i)) := by
  unfold okE at h
  split at h
  · obtain ⟨h1, h⟩ := and2 h
    obtain ⟨h2, h⟩ := and2 h
    obtain ⟨h3, h4⟩ := and2 h
    exact k.act0 (by simpa using h4) i _ _ _ (of_decide_eq_true h1) h2 h3
  · cases h
theorem cE_rev {fz : Bool} {a : CE} {e : Expr} (i1 : ∀ {e}, okE G N S a e = true → SE Γ W X e (evE cf a)) (h : okE G N S (.rev fz a) e = true) : SE Γ W X e (evE cf (.rev fz a)) := by
  unfold okE at h
  split at h
  · obtain ⟨h1, h2⟩ := and2 h
    have h1 := of_decide_eq_true h1
    subst h1
    exact se_rev k.hK (i1 h2)
  · cases h
theorem cE_rep {fz : Bool} {es : CEs} {n : CE} {e : Expr} (i0 : ∀ {es'}, okEs G N S es es' = true → SA Γ W X es' (evEs cf es) ∧ es'.all noStarB = true) (i1 : ∀ {e}, okE G N S n e = true → SE Γ W X e (evE cf n)) (h : okE G N S (.rep fz es n) e = true) :
    SE Γ W X e (evE cf (.rep fz es n)) := by
  unfold okE at h
  split at h
  · obtain ⟨h1, h2⟩ := and2 h
    exact se_rep (i0 h1).1 (i1 h2)
  · cases h
theorem cE_callK {f n : Nat} {es ks : CEs} {nks : List Str} {pm : List Nat} {e : Expr} (i0 : ∀ {es'}, okEs G N S es es' = true → SA Γ W X es' (evEs cf es) ∧ es'.all noStarB = true) (i1 : ∀ {kws : List Keyword}, okEs G N S ks (kwE kws) = true → PK X kws (RdA Γ W (evEs cf ks)))
    (h : okE G N S (.callK f n es nks ks pm) e = true) : SE Γ W X e (evE cf (.callK f n es nks ks pm)) := by
  unfold okE at h
  split at h
  · rename_i x p2 args kws p
    split at h
    · rename_i d hd
      obtain ⟨h1, h⟩ := and2 h
      obtain ⟨h2, h⟩ := and2 h
      obtain ⟨h3, h⟩ := and2 h
      obtain ⟨h4, h⟩ := and2 h
      obtain ⟨h5, h⟩ := and2 h
      obtain ⟨h6, h⟩ := and2 h
      obtain ⟨h7, h8⟩ := and2 h
      have h1 := of_decide_eq_true h1
      subst h1
      obtain ⟨fa, fd, e1, e2, e3, e4, e5, e6⟩ := k.fns f d hd
      obtain ⟨j1, j2⟩ := i0 h4
      refine se_callK e5 e4 k.gd (e6 n nks pm (of_decide_eq_true h8)) k.takes (k.gl h2) e1 e2 j1 (fun z => ?_) (i1 h7) (plain_of h3).1 j2 h5 (of_decide_eq_true h6)
      subst z
      cases es with
      | nil => exact fun _ _ => rfl
      | cons _ _ => cases h4
    · cases h
  · cases h
theorem both_cls {ys : List Expr} {cs : List Str} {us : List Value} (b : Both (ClsN X.K X.mg) cs us) (h : clsB S.sc ys cs = true) : ClsNs X ys us := by
  induction b generalizing ys with
  | nil =>
    cases ys with
    | nil => exact .nil
    | cons y ys => cases y <;> cases h
  | @cons c u cs us r t ih =>
    cases ys with
    | nil => cases h
    | cons y ys =>
      cases y with
      | Name x p =>
        obtain ⟨h1, h⟩ := and2 (show (decide (x = c) && (glB S.sc x && (plainB x && clsB S.sc ys cs))) = true from h)
        obtain ⟨h2, h⟩ := and2 h
        obtain ⟨h3, h4⟩ := and2 h
        have h1 := of_decide_eq_true h1
        subst h1
        exact .cons (k.gl h2) (plain_of h3).1 r (ih h4)
      | _ => cases h
theorem cE_isx {a : CE} {cs : List Str} {tab : List (Str × Bool)} {e : Expr} (i1 : ∀ {e}, okE G N S a e = true → SE Γ W X e (evE cf a)) (h : okE G N S (.isx a cs tab) e = true) : SE Γ W X e (evE cf (.isx a cs tab)) := by
  unfold okE at h
  split at h
  · obtain ⟨h1, h⟩ := and2 h
    obtain ⟨h2, h⟩ := and2 h
    obtain ⟨h3, h⟩ := and2 h
    obtain ⟨h4, h⟩ := and2 h
    obtain ⟨h5, h⟩ := and2 h
    obtain ⟨h6, h⟩ := and2 h
    obtain ⟨h7, h8⟩ := and2 h
    have h1 := of_decide_eq_true h1
    subst h1
    obtain ⟨u, c1, c2⟩ := k.md.isx1 _ (of_decide_eq_true h6)
    exact se_isx1 k.hK (k.gl h2) (k.free _ (of_decide_eq_true h3)) (k.gl h4) (plain_of h5).1 c1 c2 (i1 h7) h8
  · obtain ⟨h1, h⟩ := and2 h
    obtain ⟨h2, h⟩ := and2 h
    obtain ⟨h3, h⟩ := and2 h
    obtain ⟨h4, h⟩ := and2 h
    obtain ⟨h5, h⟩ := and2 h
    obtain ⟨h6, h7⟩ := and2 h
    have h1 := of_decide_eq_true h1
    subst h1
    obtain ⟨us, c1, c2, c3⟩ := k.md.isxT _ (of_decide_eq_true h5)
    exact se_isxT k.hK (k.gl h2) (k.free _ (of_decide_eq_true h3)) (both_cls k c1 h4) c2 c3 (i1 h6) h7
  · cases h
theorem cI_enum {tg : Expr} {a : CE} {e : Expr} (i1 : ∀ {e}, okE G N S a e = true → SE Γ W X e (evE cf a)) (h : okI G N S (.enum a) tg e = true) : SI Γ W X tg e (evI cf (.enum a)) := by
  unfold okI at h
  split at h
  · obtain ⟨h1, h⟩ := and2 h
    obtain ⟨h2, h⟩ := and2 h
    obtain ⟨h3, h⟩ := and2 h
    obtain ⟨h4, h⟩ := and2 h
    obtain ⟨h5, h6⟩ := and2 h
    have h1 := of_decide_eq_true h1
    subst h1
    split at h6
    · exact si_enum k.hK (k.gl h2) (k.free _ (of_decide_eq_true h3)) (i1 h4) (starEach_cons h5)
    · cases h6
  · cases h
theorem cE_dc {ck cv : CE} {t : Tg} {it : IT} {ifs : CTs} {own : List Nat} {e : Expr} (i0 : ∀ {tg e}, okI G N S it tg e = true → SI Γ W X tg e (evI cf it))
    (i1 : ∀ {W S X e}, CK Γ G N cf W S X → okE G N S ck e = true → SE Γ W X e (evE cf ck)) (i3 : ∀ {W S X e}, CK Γ G N cf W S X → okE G N S cv e = true → SE Γ W X e (evE cf cv)) (i2 : ∀ {W S X es}, CK Γ G N cf W S X → okIfs G N S ifs es = true → PTs X es (RdT Γ W (evIfs cf ifs)))
    (h : okE G N S (.dcomp ck cv t it ifs own) e = true) : SE Γ W X e (evE cf (.dcomp ck cv t it ifs own)) := by
  unfold okE at h
  split at h
  · rename_i ek ev te ie fe scope p
    obtain ⟨h1, h⟩ := and2 h
    obtain ⟨h2, h⟩ := and2 h
    obtain ⟨h3, h⟩ := and2 h
    obtain ⟨h4, h⟩ := and2 h
    obtain ⟨h5, h⟩ := and2 h
    obtain ⟨h6, h⟩ := and2 h
    obtain ⟨h7, h8⟩ := and2 h
    have h7 := of_decide_eq_true h7
    have hb : BlkOk X.N X.env.scope scope (ownP N own) := by
      rw [k.hN, k.hsc]
      exact blkOk_by h6
    have r := se_dc (Γ := Γ) (W := W) (X := X) (kx := ek) (vx := ev) (tg := te) (iter := ie) (ifs := fe) (scope := scope) (own := ownP N own) (pos := p) (t := t) (fi := evI cf it) (ft := evIfs cf ifs) (fk := evE cf ck) (fv := evE cf cv)
      k.hK k.calm (by rw [k.hN]; exact k.nd) (i0 h1) hb (fun j hj => by rw [h7]; exact of_decide_eq_true (List.all_eq_true.mp h8 j hj))
      (fun s H C cl fp => c_tg (k.blk scope s H C cl fp) h2) (fun s H C cl fp => i2 (k.blk scope s H C cl fp) h5) (fun s H C cl fp => i1 (k.blk scope s H C cl fp) h3) (fun s H C cl fp => i3 (k.blk scope s H C cl fp) h4) (fold_of h1 _)
    rw [h7] at r
    exact r
  · cases h
omit k in
theorem comp_inv {fz : Bool} {elt : CE} {t : Tg} {it : IT} {ifs : CTs} {own : List Nat} {e : Expr} (h : okE G N S (.comp fz elt t it ifs own) e = true) : ∃ ee te ie fe scope p, e = .ListComp ee [⟨te, ie, fe, 0⟩] scope p ∧ okI G N S it te ie = true ∧ okTg N ⟨relS scope S.sc, some scope, false⟩ t te = true ∧
    okE G N ⟨relS scope S.sc, some scope, false⟩ elt ee = true ∧ okIfs G N ⟨relS scope S.sc, some scope, false⟩ ifs fe = true ∧ blkC N S.sc scope (ownP N own) = true ∧ (ownP N own).map (·.2) = own ∧ (t.slots.all fun j => decide (j ∈ own)) = true := by
  unfold okE at h
  split at h
  · obtain ⟨h1, h⟩ := and2 h
    obtain ⟨h2, h⟩ := and2 h
    obtain ⟨h3, h⟩ := and2 h
    obtain ⟨h4, h⟩ := and2 h
    obtain ⟨h5, h⟩ := and2 h
    obtain ⟨h6, h7⟩ := and2 h
    exact ⟨_, _, _, _, _, _, rfl, h1, h2, h3, h4, h5, of_decide_eq_true h6, h7⟩
  · cases h
theorem cE_lam {f : Nat} {body : CE} {e : Expr} (i1 : ∀ {W S X e}, CK Γ G N cf W S X → okE G N S body e = true → SE Γ W X e (evE cf body)) (h : okE G N S (.lam f body) e = true) : SE Γ W X e (evE cf (.lam f body)) := by
  unfold okE at h
  split at h
  · split at h
    · rename_i d hd
      obtain ⟨h1, h⟩ := and2 h
      obtain ⟨h2, h⟩ := and2 h
      obtain ⟨h3, h⟩ := and2 h
      obtain ⟨h4, h⟩ := and2 h
      obtain ⟨h5, h⟩ := and2 h
      obtain ⟨h6, h7⟩ := and2 h
      have h1 := of_decide_eq_true h1
      subst h1
      have hL : LamX.LamS X.env.scope _ := LamX.lamS_by (by rw [k.hsc]; exact h6)
      exact k.lams h4 f d (evE cf body) _ _ _ _ _ hd (plain_of h3).1 (k.gl h2) hL fun A outer s H E f' c' hr hg => i1 (k.lm hL hr hg) h7
    · cases h
  · cases h
end
end Rk

set_option Elab.async false
set_option linter.all false
set_option maxRecDepth 100000
set_option maxHeartbeats 2000000
/-! RkO: the theorem for expressions. -/
namespace Rk
open PySem PySem.Spec L2

/-- keys and values by turns, and their readings -/
inductive KvR (Γ : GI) (W : WX) (cf : CF) : List (TE × TE) → CEs → Prop
  | nil : KvR Γ W cf [] .nil
  | cons {a b : CE} {r : CEs} {trs : List (TE × TE)} : KvR Γ W cf trs r → KvR Γ W cf ((RdE Γ W (evE cf a), RdE Γ W (evE cf b)) :: trs) (.cons a (.cons b r))
section
variable {Γ : GI} {G : GS} {N : List Str} {cf : CF}
theorem kv_run {W : WX} {σ : L2.St} : ∀ {trs : List (TE × TE)} {es : CEs}, KvR Γ W cf trs es → ∀ (H : Hp) (Q : List (V × V) → Hp → Prop) (ρ : Rz) (ph : PH) (L : Lo), HR Γ ρ H ph → LoR Γ.K ρ H σ L →
    (∃ xs h', evEs cf es L ph = .ok xs h' ∧ ∀ ρ' H' ps, Ext ρ H ρ' H' → HR Γ ρ' H' h' → DenL Γ.K ρ' H' (flatP ps) xs → ps.length = trs.length → Q ps H') → tPairs trs σ H Q
  | _, _, .nil, H, Q, ρ, ph, L, hr, lo, h => by
    obtain ⟨xs, h', e, q⟩ := h
    have e : R.ok [] ph = R.ok xs h' := e
    cases e
    exact q ρ H [] (Ext.refl _ _) hr .nil rfl
  | _, _, .cons (a := a) (b := b) (r := r) (trs := trs) t, H, Q, ρ, ph, L, hr, lo, h => by
    obtain ⟨xs, h', e, q⟩ := h
    obtain ⟨x, h1, e1, e⟩ := bind_ok (show (evE cf a L >>= fun x => evEs cf (.cons b r) L >>= fun xs => pure (x :: xs) : M (List PV)) ph = .ok xs h' from e)
    obtain ⟨xs1, h2, e2, e⟩ := bind_ok e
    have e : R.ok (x :: xs1) h2 = R.ok xs h' := e
    cases e
    obtain ⟨y, h3, e3, e⟩ := bind_ok (show (evE cf b L >>= fun x => evEs cf r L >>= fun xs => pure (x :: xs) : M (List PV)) h1 = .ok xs1 h' from e2)
    obtain ⟨xs2, h4, e4, e⟩ := bind_ok e
    have e : R.ok (y :: xs2) h4 = R.ok xs1 h' := e
    cases e
    refine ⟨ρ, ph, L, hr, lo, post_of e1 fun ρ1 H1 ex1 hr1 u du => ?_⟩
    refine ⟨ρ1, h1, L, hr1, lo.ext ex1, post_of e3 fun ρ2 H2 ex2 hr2 v dv => ?_⟩
    refine kv_run t H2 _ ρ2 h3 L hr2 ((lo.ext ex1).ext ex2) ⟨xs2, _, e4, fun ρ3 H3 ps ex3 hr3 d hn => ?_⟩
    exact q ρ3 H3 ((u, v) :: ps) ((ex1.trans ex2).trans ex3) hr3 (.cons ((du.ext ex2).ext ex3) (.cons (dv.ext ex3) d)) (by rw [List.length_cons, List.length_cons, hn])
theorem se_dct {W : WX} {X : Cx} {keys : List (Option Expr)} {values : List Expr} {trs : List (TE × TE)} {es : CEs} {pos : Pos} (h : PPs X pos keys values trs) (kv : KvR Γ W cf trs es) (hall : keys.all (·.isSome) = true) (hl : keys.length = values.length) (h15 : keys.length ≤ 15) (hn : trs.length = keys.length) :
    SE Γ W X (.Dict keys values pos) (evE cf (.dct es)) := by
  have hev : ∀ L ph, evE cf (.dct es) L ph = (match evEs cf es L (ph ++ [PO.dct false []]) with
    | .ok xs h' => (match pairK xs, h'[ph.length]? with
      | some kvs, some (PO.dct false []) => .ok (.ref ph.length) (h'.set ph.length (PO.dct false (kvs.foldl (fun (acc : List (Key × PV)) (kv : Key × PV) => insK acc kv.1 kv.2) [])))
      | _, _ => .stuck)
    | .exc _ _ => .stuck
    | .stuck => .stuck) := fun _ _ => rfl
  cases keys with
  | nil =>
    have e : values = [] := List.eq_nil_of_length_eq_zero hl.symm
    subst e
    refine PE_imp pe_dnewK fun σ H Q g => ?_
    have e2 : trs = [] := List.eq_nil_of_length_eq_zero hn
    subst e2
    cases kv
    obtain ⟨ρ, ph, L, hr, lo, po⟩ := g
    intro d nd
    have e3 : evE cf (.dct .nil) L ph = .ok (.ref ph.length) ((ph ++ [PO.dct false []]).set ph.length (PO.dct false [])) := by
      rw [hev]
      show (match pairK [], (ph ++ [PO.dct false []])[ph.length]? with
        | some kvs, some (PO.dct false []) => R.ok (PV.ref ph.length) ((ph ++ [PO.dct false []]).set ph.length (PO.dct false (kvs.foldl (fun (acc : List (Key × PV)) (kv : Key × PV) => insK acc kv.1 kv.2) [])))
        | _, _ => .stuck) = _
      rw [List.getElem?_append_right (Nat.le_refl _), Nat.sub_self]
      rfl
    have e4 : (ph ++ [PO.dct false []]).set ph.length (PO.dct false []) = ph ++ [PO.dct false []] := by
      rw [List.set_append_right _ _ (Nat.le_refl _), Nat.sub_self]
      rfl
    rw [e3, e4] at po
    refine po (ρ.push d) _ (Ext.alloc nd) (hr.alloc nd (.dct upd_same .nil)) _ (.ref ?_)
    show (ρ.r ++ [d])[ph.length]? = some d
    rw [← hr.len, List.getElem?_append_right (Nat.le_refl _)]
    simp
  | cons k0 keys =>
    refine PE_imp (pe_disp h hall hl (fun z => nomatch z) h15) fun σ H Q g => ?_
    obtain ⟨ρ, ph, L, hr, lo, po⟩ := g
    intro p np
    rw [hev] at po
    have hr1 := hr.alloc (o := .dK []) (po := .dct false []) np (.dct upd_same .nil)
    cases e1 : evEs cf es L (ph ++ [PO.dct false []]) with
    | ok xs h' =>
      rw [e1] at po
      have po : Post Γ (wx Γ W σ) ρ H (Qv Γ Q) (match pairK xs, h'[ph.length]? with
        | some kvs, some (PO.dct false []) => R.ok (PV.ref ph.length) (h'.set ph.length (PO.dct false (kvs.foldl (fun (acc : List (Key × PV)) (kv : Key × PV) => insK acc kv.1 kv.2) [])))
        | _, _ => .stuck) := po
      split at po
      · rename_i kvs e2 e3
        refine kv_run kv _ _ (ρ.push p) _ L hr1 (lo.ext (Ext.alloc np)) ⟨xs, h', e1, fun ρ' H' ps ex hr' d hlen => ?_⟩
        have hp : (ρ.push p).r[ph.length]? = some p := by
          show (ρ.r ++ [p])[ph.length]? = some p
          rw [← hr.len, List.getElem?_append_right (Nat.le_refl _)]
          simp
        have hp' := ex.at hp
        have hH : H' p = some (.dK []) := by
          cases hr'.ob _ p _ hp' e3 with
          | dct q r =>
            cases r
            exact q
        obtain ⟨ws, rfl, dk, hw⟩ := pairK_den d e2
        refine ⟨hH, ws, rfl, ?_, ?_⟩
        · rw [hw, hlen, hn]
          exact h15
        · refine po ρ' _ ?_ (hr'.set hp' (.dct upd_same ((DenK.merge dk .nil).ext (Ext.set hp')))) _ (.ref hp')
          exact ((Ext.alloc np).trans ex).trans (Ext.set hp')
      · exact po.elim
    | exc _ _ =>
      rw [e1] at po
      exact po.elim
    | stuck =>
      rw [e1] at po
      exact po.elim
end
end Rk

set_option Elab.async false
set_option linter.all false
set_option maxRecDepth 100000
set_option maxHeartbeats 2000000
/-! RkP: expressions that were looked at do what the code does: the theorem. -/
namespace Rk
open PySem PySem.Spec L2

section
variable {Γ : GI} {G : GS} {N : List Str} {cf : CF}
theorem se_stuck {W : WX} {X : Cx} {e : Expr} : SE Γ W X e (fun _ => M.stuck) := ⟨fun _ _ _ _ _ _ ⟨_, _, _, _, _, z⟩ => z.elim⟩
theorem sw_stuck {W : WX} {X : Cx} {e : Expr} : PW X e (RdT Γ W fun _ => M.stuck) := ⟨fun _ _ _ _ _ _ _ ⟨_, _, _, _, _, z⟩ => z.elim⟩
mutual
theorem sE : ∀ (c : CE) {W : WX} {S : SX} {X : Cx} {e : Expr}, CK Γ G N cf W S X → okE G N S c e = true → SE Γ W X e (evE cf c)
  | .var _, _, _, _, _, k, h => cE_var k h
  | .cst _, _, _, _, _, k, h => cE_cst k h
  | .glob _ _, _, _, _, _, k, h => cE_glob k h
  | .tup es, _, _, _, _, k, h => cE_tup k (fun h => (sEs es k h).1) h
  | .lst _ es, _, _, _, _, k, h => cE_lst k (fun h => (sEs es k h).1) h
  | .dct es, W, S, X, e, k, h => by
    cases e with
    | Dict ks vs p =>
      obtain ⟨h1, h2⟩ := and2 (show (okKV G N S es ks vs && decide (ks.length ≤ 15)) = true from h)
      obtain ⟨trs, a, b, c, d, f⟩ := sKV es (pos := p) k h1
      exact se_dct a b c d (of_decide_eq_true h2) f
    | _ => cases h
  | .bin _ _ a b, _, _, _, _, k, h => cE_bin k (sE a k) (sE b k) h
  | .neg a, _, _, _, _, k, h => cE_neg k (sE a k) h
  | .cmp _ a b, _, _, _, _, k, h => (cE_cmp k (sE a k) (sE b k) h).1
  | .chain _ _ a b c, _, _, _, _, k, h => (cE_chain k (sE a k) (sE b k) (sE c k) h).1
  | .band es, W, S, X, e, k, h => by
    cases e with
    | BoolOp op vs p =>
      cases op with
      | And => exact sAnd es k h
      | Or => cases h
    | _ => cases h
  | .bor es, W, S, X, e, k, h => by
    cases e with
    | BoolOp op vs p =>
      cases op with
      | Or => exact sOr es k h
      | And => cases h
    | _ => cases h
  | .bnot a, _, _, _, _, k, h => cE_bnot k (sE a k) h
  | .ife c a b, _, _, _, _, k, h => cE_ife k (sT c k) (sE a k) (sE b k) h
  | .call _ es, _, _, _, _, k, h => cE_call k (sEs es k) h
  | .pr _ _ es, _, _, _, _, k, h => cE_pr k (sEs es k) h
  | .mt _ _ o es, _, _, _, _, k, h => cE_mt k (sE o k) (sEs es k) h
  | .isi a _, _, _, _, _, k, h => cE_isi k (sE a k) h
  | .sub a b, _, _, _, _, k, h => cE_sub k (sE a k) (sE b k) h
  | .sl _ a lo hi, _, _, _, _, k, h => cE_sl k (sE a k) (sP lo k) (sP hi k) h
  | .act _, _, _, _, _, k, h => cE_act k h
  | .lam _ body, _, _, _, _, k, h => cE_lam k (fun {W S X e} k h => sE body k h) h
  | .callK _ _ es _ ks _, _, _, _, _, k, h => cE_callK k (sEs es k) (fun {kws} h => sKw ks k h) h
  | .isx a _ _, _, _, _, _, k, h => cE_isx k (sE a k) h
  | .rev _ a, _, _, _, _, k, h => cE_rev k (sE a k) h
  | .rep _ es n, _, _, _, _, k, h => cE_rep k (sEs es k) (sE n k) h
  | .dcomp ck cv _ it ifs _, _, _, _, _, k, h => cE_dc k (fun {tg e} h => sI it (tg := tg) k h) (fun {W S X e} k h => sE ck k h) (fun {W S X e} k h => sE cv k h) (fun {W S X es} k h => sIfs ifs k h) h
  | .wall, _, _, _, _, k, h => se_stuck
  | .comp _ elt _ it ifs _, _, _, _, _, k, h => cE_comp k (fun {tg e} h => sI it (tg := tg) k h) (fun {W S X e} k h => sE elt k h) (fun {W S X es} k h => sIfs ifs k h) h
theorem sEs : ∀ (c : CEs) {W : WX} {S : SX} {X : Cx} {es : List Expr}, CK Γ G N cf W S X → okEs G N S c es = true → SA Γ W X es (evEs cf c) ∧ es.all noStarB = true
  | .nil, W, S, X, es, k, h => by
    cases es with
    | nil => exact ⟨sa_nil, rfl⟩
    | cons _ _ => cases h
  | .cons c r, W, S, X, es, k, h => by
    cases es with
    | nil => cases h
    | cons e es =>
      obtain ⟨h1, h⟩ := and2 (show (okE G N S c e && (noStarB e && okEs G N S r es)) = true from h)
      obtain ⟨h2, h3⟩ := and2 h
      have i := sEs r k h3
      refine ⟨sa_cons h2 (sE c k h1) i.1, ?_⟩
      show (noStarB e && es.all noStarB) = true
      rw [h2, i.2]
      rfl
theorem sKw : ∀ (c : CEs) {W : WX} {S : SX} {X : Cx} {kws : List Keyword}, CK Γ G N cf W S X → okEs G N S c (kwE kws) = true → PK X kws (RdA Γ W (evEs cf c))
  | .nil, W, S, X, kws, k, h => by
    cases kws with
    | nil => exact sk_nil
    | cons _ _ => cases h
  | .cons c r, W, S, X, kws, k, h => by
    cases kws with
    | nil => cases h
    | cons q kws =>
      obtain ⟨nm, e, p⟩ := q
      obtain ⟨h1, h⟩ := and2 (show (okE G N S c e && (noStarB e && okEs G N S r (kwE kws))) = true from h)
      obtain ⟨_, h3⟩ := and2 h
      exact sk_cons (sE c k h1) (sKw r k h3)
theorem sAnd : ∀ (c : CEs) {W : WX} {S : SX} {X : Cx} {es : List Expr} {pos : Pos}, CK Γ G N cf W S X → okEs G N S c es = true → SE Γ W X (.BoolOp .And es pos) (evAnd cf c)
  | .nil, W, S, X, es, pos, k, h => se_stuck
  | .cons c .nil, W, S, X, es, pos, k, h => by
    match es, h with
    | [e], h =>
      obtain ⟨h1, _⟩ := and2 (show (okE G N S c e && (noStarB e && true)) = true from h)
      exact se_one (sE c k h1)
    | [], h => cases h
    | e :: e2 :: es, h =>
      obtain ⟨h1, h⟩ := and2 (show (okE G N S c e && (noStarB e && false)) = true from h)
      obtain ⟨h2, h3⟩ := and2 h
      cases h3
  | .cons c (.cons c2 r), W, S, X, es, pos, k, h => by
    match es, h with
    | e :: e2 :: es, h =>
      obtain ⟨h1, h⟩ := and2 (show (okE G N S c e && (noStarB e && okEs G N S (.cons c2 r) (e2 :: es))) = true from h)
      obtain ⟨h2, h3⟩ := and2 h
      exact se_and k.hK (sE c k h1) (sAnd (.cons c2 r) k h3)
    | [], h => cases h
    | [e], h =>
      obtain ⟨h1, h⟩ := and2 (show (okE G N S c e && (noStarB e && false)) = true from h)
      obtain ⟨h2, h3⟩ := and2 h
      cases h3
theorem sOr : ∀ (c : CEs) {W : WX} {S : SX} {X : Cx} {es : List Expr} {pos : Pos}, CK Γ G N cf W S X → okEs G N S c es = true → SE Γ W X (.BoolOp .Or es pos) (evOr cf c)
  | .nil, W, S, X, es, pos, k, h => se_stuck
  | .cons c .nil, W, S, X, es, pos, k, h => by
    match es, h with
    | [e], h =>
      obtain ⟨h1, _⟩ := and2 (show (okE G N S c e && (noStarB e && true)) = true from h)
      exact se_one (sE c k h1)
    | [], h => cases h
    | e :: e2 :: es, h =>
      obtain ⟨h1, h⟩ := and2 (show (okE G N S c e && (noStarB e && false)) = true from h)
      obtain ⟨h2, h3⟩ := and2 h
      cases h3
  | .cons c (.cons c2 r), W, S, X, es, pos, k, h => by
    match es, h with
    | e :: e2 :: es, h =>
      obtain ⟨h1, h⟩ := and2 (show (okE G N S c e && (noStarB e && okEs G N S (.cons c2 r) (e2 :: es))) = true from h)
      obtain ⟨h2, h3⟩ := and2 h
      exact se_or k.hK (sE c k h1) (sOr (.cons c2 r) k h3)
    | [], h => cases h
    | [e], h =>
      obtain ⟨h1, h⟩ := and2 (show (okE G N S c e && (noStarB e && false)) = true from h)
      obtain ⟨h2, h3⟩ := and2 h
      cases h3
theorem sKV : ∀ (c : CEs) {W : WX} {S : SX} {X : Cx} {ks : List (Option Expr)} {vs : List Expr} {pos : Pos}, CK Γ G N cf W S X → okKV G N S c ks vs = true →
    ∃ trs, PPs X pos ks vs trs ∧ KvR Γ W cf trs c ∧ ks.all (·.isSome) = true ∧ ks.length = vs.length ∧ trs.length = ks.length
  | .nil, W, S, X, ks, vs, pos, k, h => by
    obtain ⟨h1, h2⟩ := and2 (show (ks.isEmpty && vs.isEmpty) = true from h)
    have e1 := List.isEmpty_iff.mp h1
    have e2 := List.isEmpty_iff.mp h2
    subst e1
    subst e2
    exact ⟨[], pps_nil, .nil, rfl, rfl, rfl⟩
  | .cons c .nil, W, S, X, ks, vs, pos, k, h => by
    match ks, vs, h with
    | [], _, h => cases h
    | none :: _, _, h => cases h
    | some _ :: _, [], h => cases h
    | some _ :: _, _ :: _, h => cases h
  | .cons c (.cons c2 r), W, S, X, ks, vs, pos, k, h => by
    match ks, vs, h with
    | [], _, h => cases h
    | none :: _, _, h => cases h
    | some _ :: _, [], h => cases h
    | some ek :: ks, ev :: vs, h =>
      obtain ⟨h1, h⟩ := and2 (show (okE G N S c ek && (okE G N S c2 ev && okKV G N S r ks vs)) = true from h)
      obtain ⟨h2, h3⟩ := and2 h
      obtain ⟨trs, a, b, d, e, f⟩ := sKV r (pos := pos) k h3
      exact ⟨_, pps_cons (sE c k h1) (sE c2 k h2) a, .cons b, by simpa using d, by simp [e], by simp [f]⟩
theorem sT : ∀ (c : CT) {W : WX} {S : SX} {X : Cx} {e : Expr}, CK Γ G N cf W S X → okT G N S c e = true → ST Γ W X e (evT cf c)
  | .and es, W, S, X, e, k, h => by
    cases e with
    | BoolOp op vs p =>
      cases op with
      | And => exact (sTAnd es k h).pt
      | Or => cases h
    | _ => cases h
  | .or es, W, S, X, e, k, h => by
    cases e with
    | BoolOp op vs p =>
      cases op with
      | Or => exact (sTOr es k h).pt
      | And => cases h
    | _ => cases h
  | .not a, _, _, _, _, k, h => cT_not k (sT a k) h
  | .ife c a b, _, _, _, _, k, h => cT_ife k (sT c k) (sT a k) (sT b k) h
  | .cmp _ a b, _, _, _, _, k, h => (cE_cmp k (sE a k) (sE b k) h).2
  | .chain _ _ a b c, _, _, _, _, k, h => (cE_chain k (sE a k) (sE b k) (sE c k) h).2
  | .val a, _, _, _, _, k, h => cT_val k (sE a k) h
theorem sTAnd : ∀ (c : CTs) {W : WX} {S : SX} {X : Cx} {es : List Expr} {pos : Pos}, CK Γ G N cf W S X → okTs G N S c es = true → PW X (.BoolOp .And es pos) (RdT Γ W (evTAnd cf c))
  | .nil, W, S, X, es, pos, k, h => sw_stuck
  | .cons c .nil, W, S, X, es, pos, k, h => by
    match es, h with
    | [e], h =>
      obtain ⟨h1, _⟩ := and2 (show (okT G N S c e && true) = true from h)
      exact sw_and1 (sT c k h1)
    | [], h => cases h
    | e :: e2 :: es, h =>
      obtain ⟨h1, h⟩ := and2 (show (okT G N S c e && false) = true from h)
      cases h
  | .cons c (.cons c2 r), W, S, X, es, pos, k, h => by
    match es, h with
    | e :: e2 :: es, h =>
      obtain ⟨h1, h3⟩ := and2 (show (okT G N S c e && okTs G N S (.cons c2 r) (e2 :: es)) = true from h)
      exact sw_and (sT c k h1) (sTAnd (.cons c2 r) k h3)
    | [], h => cases h
    | [e], h =>
      obtain ⟨h1, h⟩ := and2 (show (okT G N S c e && false) = true from h)
      cases h
theorem sTOr : ∀ (c : CTs) {W : WX} {S : SX} {X : Cx} {es : List Expr} {pos : Pos}, CK Γ G N cf W S X → okTs G N S c es = true → PW X (.BoolOp .Or es pos) (RdT Γ W (evTOr cf c))
  | .nil, W, S, X, es, pos, k, h => sw_stuck
  | .cons c .nil, W, S, X, es, pos, k, h => by
    match es, h with
    | [e], h =>
      obtain ⟨h1, _⟩ := and2 (show (okT G N S c e && true) = true from h)
      exact sw_or1 (sT c k h1)
    | [], h => cases h
    | e :: e2 :: es, h =>
      obtain ⟨h1, h⟩ := and2 (show (okT G N S c e && false) = true from h)
      cases h
  | .cons c (.cons c2 r), W, S, X, es, pos, k, h => by
    match es, h with
    | e :: e2 :: es, h =>
      obtain ⟨h1, h3⟩ := and2 (show (okT G N S c e && okTs G N S (.cons c2 r) (e2 :: es)) = true from h)
      exact sw_or (sT c k h1) (sTOr (.cons c2 r) k h3)
    | [], h => cases h
    | [e], h =>
      obtain ⟨h1, h⟩ := and2 (show (okT G N S c e && false) = true from h)
      cases h
theorem sIfs : ∀ (c : CTs) {W : WX} {S : SX} {X : Cx} {es : List Expr}, CK Γ G N cf W S X → okIfs G N S c es = true → PTs X es (RdT Γ W (evIfs cf c))
  | .nil, W, S, X, es, k, h => by
    cases es with
    | nil =>
      refine ⟨fun pins s σ H Q I g => pts_nil.run pins s σ H Q I ?_⟩
      obtain ⟨ρ, ph, L, hr, lo, po⟩ := g
      exact post_ok (a := true) po hr
    | cons _ _ => cases h
  | .cons c .nil, W, S, X, es, k, h => by
    match es, h with
    | [e], h => exact pts_one (sT c k h)
    | [], h => cases h
    | e :: e2 :: es, h => cases h
  | .cons c (.cons c2 r), W, S, X, es, k, h => by
    match es, h with
    | [e], h => cases h
    | [], h => cases h
    | e :: e2 :: es, h => cases h
theorem sP : ∀ (c : CEs) {W : WX} {S : SX} {X : Cx} {e : Option Expr}, CK Γ G N cf W S X → okP G N S c e = true → L2.PO X e (RdO Γ W (evP cf c))
  | .nil, W, S, X, e, k, h => by
    cases e with
    | none => exact so_none
    | some _ => cases h
  | .cons c .nil, W, S, X, e, k, h => by
    cases e with
    | none => cases h
    | some e => exact so_some (sE c k h)
  | .cons c (.cons c2 r), W, S, X, e, k, h => by
    cases e with
    | none => cases h
    | some e => cases h
theorem sI : ∀ (c : IT) {W : WX} {S : SX} {X : Cx} {tg e : Expr}, CK Γ G N cf W S X → okI G N S c tg e = true → SI Γ W X tg e (evI cf c)
  | .seq a, _, _, _, _, _, k, h => cI_seq k (sE a k) h
  | .range1 a, _, _, _, _, _, k, h => cI_range1 k (sE a k) h
  | .range2 a b, _, _, _, _, _, k, h => cI_range2 k (sE a k) (sE b k) h
  | .enum a, _, _, _, _, _, k, h => cI_enum k (sE a k) h
end
end
end Rk

set_option Elab.async false
set_option linter.all false
set_option maxRecDepth 100000
set_option maxHeartbeats 2000000
/-! RkQ: statements' readings. -/
namespace Rk
open PySem PySem.Spec L2

def PostS (Γ : GI) (W : WX) (D : Ends) (ρ : Rz) (H : Hp) : RS → Prop
  | .next L h => ∀ ρ' H' σ', Ext ρ H ρ' H' → HR Γ ρ' H' h → LoR Γ.K ρ' H' σ' L → D.nx σ' H'
  | .brk L h => ∀ ρ' H' σ', Ext ρ H ρ' H' → HR Γ ρ' H' h → LoR Γ.K ρ' H' σ' L → D.bk σ' H'
  | .cont L h => ∀ ρ' H' σ', Ext ρ H ρ' H' → HR Γ ρ' H' h → LoR Γ.K ρ' H' σ' L → D.ct σ' H'
  | .ret v h => ∀ ρ' H' x, Ext ρ H ρ' H' → HR Γ ρ' H' h → Den Γ.K ρ' H' x v → D.rt x H'
  | .exc e L h => ∀ ρ' H' σ', Ext ρ H ρ' H' → HR Γ ρ' H' h → LoR Γ.K ρ' H' σ' L → wx Γ W σ' e ρ' H'
  | .stuck => False
def RdS (Γ : GI) (W : WX) (m : Lo → PH → RS) : TS := fun D σ H => ∃ ρ ph L, HR Γ ρ H ph ∧ LoR Γ.K ρ H σ L ∧ PostS Γ W D ρ H (m L ph)
abbrev SS (Γ : GI) (W : WX) (X : Cx) (s : Stmt) (m : Lo → PH → RS) : Prop := PS X s (RdS Γ W m)
abbrev SB (Γ : GI) (W : WX) (X : Cx) (s : List Stmt) (m : Lo → PH → RS) : Prop := PSs X s (RdS Γ W m)
section
variable {Γ : GI} {W : WX} {D : Ends} {ρ ρ1 : Rz} {H H1 : Hp} {σ : L2.St} {L : Lo} {ph : PH}
theorem PostS.from (e : Ext ρ H ρ1 H1) : ∀ {r : RS}, PostS Γ W D ρ H r → PostS Γ W D ρ1 H1 r
  | .next _ _, h => fun ρ' H' σ' x => h ρ' H' σ' (e.trans x)
  | .brk _ _, h => fun ρ' H' σ' x => h ρ' H' σ' (e.trans x)
  | .cont _ _, h => fun ρ' H' σ' x => h ρ' H' σ' (e.trans x)
  | .ret _ _, h => fun ρ' H' σ' x => h ρ' H' σ' (e.trans x)
  | .exc _ _ _, h => fun ρ' H' σ' x => h ρ' H' σ' (e.trans x)
  | .stuck, h => h
theorem PostS.to {α : Type} (lo : LoR Γ.K ρ H σ L) {k : α → PH → RS} : ∀ {r : R α}, PostS Γ W D ρ H (r.to L k) → Post Γ (wx Γ W σ) ρ H (fun a ρ' H' h' => PostS Γ W D ρ' H' (k a h')) r
  | .ok a h', h => fun ρ' H' x hr => PostS.from x h
  | .exc e h', h => fun ρ' H' x hr => h ρ' H' σ x hr (lo.ext x)
  | .stuck, h => h
/-- a reading of an expression, its value let go on -/
theorem RdS.e {f : Lo → M PV} {k : PV → Lo → PH → RS} (h : RdS Γ W (fun L h => (f L h).to L fun v h' => k v L h') D σ H) :
    RdE Γ W f σ H fun x H1 => ∃ ρ ph L v, HR Γ ρ H1 ph ∧ LoR Γ.K ρ H1 σ L ∧ Den Γ.K ρ H1 x v ∧ PostS Γ W D ρ H1 (k v L ph) := by
  obtain ⟨ρ, ph, L, hr, lo, p⟩ := h
  exact ⟨ρ, ph, L, hr, lo, (p.to lo).imp fun v ρ' H' ph' e hr' q x d => ⟨ρ', ph', L, v, hr', lo.ext e, d, q⟩⟩
variable {X : Cx} {pos : Pos}
theorem ss_pass : SS Γ W X (.Pass pos) (fun L h => .next L h) := PS_imp ps_pass fun D σ H ⟨ρ, ph, L, hr, lo, p⟩ => p ρ H σ (Ext.refl _ _) hr lo
theorem ss_brk : SS Γ W X (.Break pos) (fun L h => .brk L h) := PS_imp ps_break fun D σ H ⟨ρ, ph, L, hr, lo, p⟩ => p ρ H σ (Ext.refl _ _) hr lo
theorem ss_cont : SS Γ W X (.Continue pos) (fun L h => .cont L h) := PS_imp ps_continue fun D σ H ⟨ρ, ph, L, hr, lo, p⟩ => p ρ H σ (Ext.refl _ _) hr lo
theorem ss_retN : SS Γ W X (.Return none pos) (fun L h => .ret .non h) := PS_imp ps_retN fun D σ H ⟨ρ, ph, L, hr, lo, p⟩ => p ρ H .non (Ext.refl _ _) hr .non
theorem ss_ret {e : Expr} {f : Lo → M PV} (he : SE Γ W X e f) : SS Γ W X (.Return (some e) pos) (fun L h => (f L h).to L fun v h' => .ret v h') := by
  refine PS_imp (ps_ret he) fun D σ H g => ?_
  obtain ⟨ρ, ph, L, hr, lo, p⟩ := RdS.e (k := fun v _ h' => .ret v h') g
  exact ⟨ρ, ph, L, hr, lo, p.imp fun v ρ' H' ph' e hr' q x d => let ⟨ρ2, _, _, v2, hr2, _, d2, p2⟩ := q x d; p2 ρ2 H' x (Ext.refl _ _) hr2 d2⟩
def compB : Expr → Bool
  | .ListComp .. => true
  | .SetComp .. => true
  | .DictComp .. => true
  | _ => false
theorem swaps_none {e : Expr} {n : Nat} {env : Env} (h : compB e = false) : swapsWith e none n env = pure false := by
  cases e <;> first | rfl | cases h
theorem ss_expr {e : Expr} {f : Lo → M PV} (hc : compB e = false) (he : SE Γ W X e f) : SS Γ W X (.Expr e pos) (fun L h => (f L h).to L fun _ h' => .next L h') := by
  refine PS_imp (ps_expr he (swaps_none hc)) fun D σ H g => ?_
  obtain ⟨ρ, ph, L, hr, lo, p⟩ := RdS.e (k := fun _ L h' => .next L h') g
  exact ⟨ρ, ph, L, hr, lo, p.imp fun v ρ' H' ph' e hr' q x d => let ⟨ρ2, _, _, v2, hr2, lo2, d2, p2⟩ := q x d; p2 ρ2 H' σ (Ext.refl _ _) hr2 lo2⟩
theorem ss_doc {x : Str} {j : Nat} {pos pos' : Pos} : SS Γ W X (.Expr (.Constant (.str x) j pos) pos') (fun L h => .next L h) := PS_imp ps_doc fun D σ H ⟨ρ, ph, L, hr, lo, p⟩ => p ρ H σ (Ext.refl _ _) hr lo
theorem ss_if {c : Expr} {a b : List Stmt} {fc : Lo → M Bool} {fa fb : Lo → PH → RS} (hc : ST Γ W X c fc) (ha : SB Γ W X a fa) (hb : SB Γ W X b fb) :
    SS Γ W X (.If c a b pos) (fun L h => (fc L h).to L fun k h' => if k then fa L h' else fb L h') := by
  refine PS_imp (ps_if hc ha hb) fun D σ H g => ?_
  obtain ⟨ρ, ph, L, hr, lo, p⟩ := g
  refine ⟨ρ, ph, L, hr, lo, (p.to lo).imp fun k ρ' H' ph' e hr' q => ?_⟩
  cases k with
  | true => exact ⟨ρ', ph', L, hr', lo.ext e, q⟩
  | false => exact ⟨ρ', ph', L, hr', lo.ext e, q⟩
theorem sb_nil : SB Γ W X [] (fun L h => .next L h) := PSs_imp pss_nil fun D σ H ⟨ρ, ph, L, hr, lo, p⟩ => p ρ H σ (Ext.refl _ _) hr lo
theorem sb_cons {st : Stmt} {rest : List Stmt} {f g : Lo → PH → RS} (h1 : SS Γ W X st f) (h2 : SB Γ W X rest g) : SB Γ W X (st :: rest) (fun L h => match f L h with
    | .next L' h' => g L' h'
    | x => x) := by
  refine PSs_imp (pss_cons h1 h2) fun D σ H q => ?_
  obtain ⟨ρ, ph, L, hr, lo, p⟩ := q
  refine ⟨ρ, ph, L, hr, lo, ?_⟩
  have p : PostS Γ W D ρ H (match f L ph with
    | .next L' h' => g L' h'
    | x => x) := p
  cases e : f L ph with
  | next L' h' =>
    rw [e] at p
    exact fun ρ' H' σ' x hr' lo' => ⟨ρ', h', L', hr', lo', p.from x⟩
  | brk L' h' => rw [e] at p; exact p
  | cont L' h' => rw [e] at p; exact p
  | ret L' h' => rw [e] at p; exact p
  | exc x L' h' => rw [e] at p; exact p
  | stuck => rw [e] at p; exact p
theorem ss_while {c : Expr} {body : List Stmt} {fc : Lo → M Bool} {fb : Lo → PH → RS} (hp : PassesOwn (model X.prog X.w) X.A X.env X.xe) (hc : ST Γ W X c fc) (hb : SB Γ W X body fb) (n : Nat) :
    SS Γ W X (.While c body [] pos) (fun L h => whileL fc fb n L h) := by
  refine PS_imp (ps_while hp hc hb) fun D σ H q => ?_
  refine ⟨fun m σ H => ∃ ρ ph L, HR Γ ρ H ph ∧ LoR Γ.K ρ H σ L ∧ PostS Γ W D ρ H (whileL fc fb m L ph), ⟨n, q⟩, ?_⟩
  rintro m σ H ⟨ρ, ph, L, hr, lo, p⟩
  cases m with
  | zero => exact p.elim
  | succ m =>
    have p : PostS Γ W D ρ H ((fc L ph).to L fun k h1 => if k then (match fb L h1 with
      | .next L' h' => whileL fc fb m L' h'
      | .cont L' h' => whileL fc fb m L' h'
      | .brk L' h' => .next L' h'
      | r => r) else .next L h1) := p
    refine ⟨ρ, ph, L, hr, lo, (p.to lo).imp fun k ρ1 H1 ph1 e hr1 q => ?_⟩
    cases k with
    | false => exact q ρ1 H1 σ (Ext.refl _ _) hr1 (lo.ext e)
    | true =>
      refine ⟨fun σ H => ∃ ρ ph L, HR Γ ρ H ph ∧ LoR Γ.K ρ H σ L ∧ PostS Γ W D ρ H (whileL fc fb m L ph), fun σ' H' z => ⟨m, Nat.lt_succ_self m, z⟩, ρ1, ph1, L, hr1, lo.ext e, ?_⟩
      have q : PostS Γ W D ρ1 H1 (match fb L ph1 with
        | .next L' h' => whileL fc fb m L' h'
        | .cont L' h' => whileL fc fb m L' h'
        | .brk L' h' => .next L' h'
        | r => r) := q
      cases e : fb L ph1 with
      | next L' h' => rw [e] at q; exact fun ρ' H' σ' x hr' lo' => ⟨ρ', h', L', hr', lo', q.from x⟩
      | cont L' h' => rw [e] at q; exact fun ρ' H' σ' x hr' lo' => ⟨ρ', h', L', hr', lo', q.from x⟩
      | brk L' h' => rw [e] at q; exact q
      | ret L' h' => rw [e] at q; exact q
      | exc x L' h' => rw [e] at q; exact q
      | stuck => rw [e] at q; exact q
/-! ### for -/
theorem forL_N {bind : PV → Lo → Option Lo} {b : Lo → PH → RS} {xs : List PV} : ∀ (ys pre : List PV), pre ++ ys = xs → ∀ L h, forL bind b ys L h = forN bind b (.fx xs) xs.length ys.length L h
  | [], pre, e, L, h => by
    show RS.next L h = (match (Sr.fx xs).now h with
      | some ys => if ys.length = xs.length then RS.next L h else .stuck
      | none => .stuck)
    show RS.next L h = if xs.length = xs.length then RS.next L h else .stuck
    rw [if_pos rfl]
  | y :: ys, pre, e, L, h => by
    have hl : xs.length - (ys.length + 1) = pre.length := by rw [← e]; simp
    have hy : xs[xs.length - (ys.length + 1)]? = some y := by rw [hl, ← e]; simp
    have ih := forL_N (bind := bind) (b := b) (xs := xs) ys (pre ++ [y]) (by rw [← e]; simp)
    show (match bind y L with
      | some L1 => (match b L1 h with
        | .next L' h' => forL bind b ys L' h'
        | .cont L' h' => forL bind b ys L' h'
        | .brk L' h' => .next L' h'
        | r => r)
      | none => .stuck) = if xs.length = xs.length then (match xs[xs.length - (ys.length + 1)]? with
        | some x => (match bind x L with
          | some L1 => (match b L1 h with
            | .next L' h' => forN bind b (.fx xs) xs.length ys.length L' h'
            | .cont L' h' => forN bind b (.fx xs) xs.length ys.length L' h'
            | .brk L' h' => .next L' h'
            | r => r)
          | none => .stuck)
        | none => .stuck) else .stuck
    rw [if_pos rfl, hy]
    dsimp only
    cases bind y L with
    | none => rfl
    | some L1 =>
      show (match b L1 h with
        | .next L' h' => forL bind b ys L' h'
        | .cont L' h' => forL bind b ys L' h'
        | .brk L' h' => .next L' h'
        | r => r) = (match b L1 h with
            | .next L' h' => forN bind b (.fx xs) xs.length ys.length L' h'
            | .cont L' h' => forN bind b (.fx xs) xs.length ys.length L' h'
            | .brk L' h' => .next L' h'
            | r => r)
      cases b L1 h with
      | next L' h' => exact ih L' h'
      | cont L' h' => exact ih L' h'
      | _ => rfl
theorem ss_for {tg it : Expr} {body : List Stmt} {fi : Lo → M Sr} {t : Tg} {fb : Lo → PH → RS} (hp : PassesOwn (model X.prog X.w) X.A X.env X.xe) (hc : X.calm = true) (hi : SI Γ W X tg it fi) (hg : PG X tg (RdG Γ t)) (hb : SB Γ W X body fb)
    (hs : ∀ x, foldedSetIterable it X.env x = pure x) : SS Γ W X (.For tg it body [] pos) (fun L h => (fi L h).to L fun s h' => forSr t.bind fb s L h') := by
  refine PS_imp (ps_for hp hc hi hg hb hs) fun D σ0 H0 q => ?_
  obtain ⟨ρ0, ph0, L0, hr0, lo0, p⟩ := q
  refine ⟨ρ0, ph0, L0, hr0, lo0, (p.to lo0).imp fun s ρ1 H1 ph1 ex1 hr1 q => ?_⟩
  intro J sd jw sd1
  obtain ⟨xs, hnow, q⟩ : ∃ xs, s.now ph1 = some xs ∧ PostS Γ W D ρ1 H1 (forN t.bind fb s xs.length xs.length L0 ph1) := by
    cases s with
    | fx xs => exact ⟨xs, rfl, forL_N (xs := xs) xs [] rfl L0 ph1 ▸ q⟩
    | rf n =>
      have q : PostS Γ W D ρ1 H1 (match (Sr.rf n).now ph1 with
        | some xs => forN t.bind fb (.rf n) xs.length xs.length L0 ph1
        | none => .stuck) := q
      cases e : (Sr.rf n).now ph1 with
      | none => rw [e] at q; exact q.elim
      | some xs => rw [e] at q; exact ⟨xs, rfl, q⟩
  let INV : Nat → Nat → L2.St → Hp → Prop := fun i k σ H => i + k = xs.length ∧ ∃ ρ ph L, HR Γ ρ H ph ∧ LoR Γ.K ρ H σ L ∧ sd ρ H ∧ PostS Γ W D ρ H (forN t.bind fb s xs.length k L ph)
  refine ⟨INV, ⟨xs.length, Nat.zero_add _, ρ1, ph1, L0, hr1, lo0.ext ex1, sd1, q⟩, ?_⟩
  rintro i k σ H ⟨hik, ρ, ph, L, hr, lo, sd2, q⟩
  cases k with
  | zero =>
    have q : PostS Γ W D ρ H (match s.now ph with
      | some ys => if ys.length = xs.length then RS.next L ph else .stuck
      | none => .stuck) := q
    cases e : s.now ph with
    | none => rw [e] at q; exact q.elim
    | some ys =>
      rw [e] at q
      have q : PostS Γ W D ρ H (if ys.length = xs.length then RS.next L ph else .stuck) := q
      by_cases hl : ys.length = xs.length
      · rw [if_pos hl] at q
        exact .inl ⟨jw.stop _ _ _ i ys hr sd2 e (by omega), q ρ H σ (Ext.refl _ _) hr lo⟩
      · rw [if_neg hl] at q
        exact q.elim
  | succ k =>
    have q : PostS Γ W D ρ H (match s.now ph with
      | some ys => if ys.length = xs.length then (match ys[xs.length - (k + 1)]? with
        | some x => (match t.bind x L with
          | some L1 => (match fb L1 ph with
            | .next L' h' => forN t.bind fb s xs.length k L' h'
            | .cont L' h' => forN t.bind fb s xs.length k L' h'
            | .brk L' h' => .next L' h'
            | r => r)
          | none => .stuck)
        | none => .stuck) else .stuck
      | none => .stuck) := q
    cases e : s.now ph with
    | none => rw [e] at q; exact q.elim
    | some ys =>
      rw [e] at q
      have q : PostS Γ W D ρ H (if ys.length = xs.length then (match ys[xs.length - (k + 1)]? with
        | some x => (match t.bind x L with
          | some L1 => (match fb L1 ph with
            | .next L' h' => forN t.bind fb s xs.length k L' h'
            | .cont L' h' => forN t.bind fb s xs.length k L' h'
            | .brk L' h' => .next L' h'
            | r => r)
          | none => .stuck)
        | none => .stuck) else .stuck) := q
      by_cases hl : ys.length = xs.length
      · rw [if_pos hl, show xs.length - (k + 1) = i by omega] at q
        cases e2 : ys[i]? with
        | none => rw [e2] at q; exact q.elim
        | some x =>
          rw [e2] at q
          have q : PostS Γ W D ρ H (match t.bind x L with
            | some L1 => (match fb L1 ph with
              | .next L' h' => forN t.bind fb s xs.length k L' h'
              | .cont L' h' => forN t.bind fb s xs.length k L' h'
              | .brk L' h' => .next L' h'
              | r => r)
            | none => .stuck) := q
          cases e3 : t.bind x L with
          | none => rw [e3] at q; exact q.elim
          | some L1 =>
            rw [e3] at q
            have q : PostS Γ W D ρ H (match fb L1 ph with
              | .next L' h' => forN t.bind fb s xs.length k L' h'
              | .cont L' h' => forN t.bind fb s xs.length k L' h'
              | .brk L' h' => .next L' h'
              | r => r) := q
            obtain ⟨hgo, hy⟩ := jw.go _ _ _ i ys x hr sd2 e e2
            refine .inr ⟨hgo, INV (i + 1) k, fun σ' H' n => ⟨k, Nat.lt_succ_self k, n⟩, fun v H' yl => ?_⟩
            obtain ⟨ρ3, ex3, hr3, dx⟩ := hy v H' yl
            refine ⟨ρ3, ph, L, x, L1, hr3, lo.ext ex3, dx, e3, fun σ' lo' _ => ⟨ρ3, ph, L1, hr3, lo', ?_⟩⟩
            have q := q.from ex3
            cases e4 : fb L1 ph with
            | next L' h' => rw [e4] at q; exact fun ρ' H' σ' x hr' lo' => ⟨by omega, ρ', h', L', hr', lo', jw.ext _ _ _ _ (jw.ext _ _ _ _ sd2 ex3) x, q.from x⟩
            | cont L' h' => rw [e4] at q; exact fun ρ' H' σ' x hr' lo' => ⟨by omega, ρ', h', L', hr', lo', jw.ext _ _ _ _ (jw.ext _ _ _ _ sd2 ex3) x, q.from x⟩
            | brk L' h' => rw [e4] at q; exact q
            | ret L' h' => rw [e4] at q; exact q
            | exc x L' h' => rw [e4] at q; exact q
            | stuck => rw [e4] at q; exact q
      · rw [if_neg hl] at q
        exact q.elim
end
end Rk

set_option Elab.async false
set_option linter.all false
set_option maxRecDepth 100000
set_option maxHeartbeats 2000000
/-! RkR: what is stored. -/
namespace Rk
open PySem PySem.Spec L2

section
variable {Γ : GI} {W : WX} {X : Cx} {pos : Pos}
/-- the value of an expression is bound -/
theorem asg_rd {f : Lo → M PV} {t : Tg} {D : Ends} {σ : L2.St} {H : Hp} (g : RdS Γ W (fun L h => (f L h).to L fun v h' => nextO (t.bind v L) h') D σ H) : RdE Γ W f σ H fun x H1 => RdG Γ t x σ H1 D.nx := by
  obtain ⟨ρ, ph, L, hr, lo, p⟩ := RdS.e (k := fun v L h' => nextO (t.bind v L) h') g
  refine ⟨ρ, ph, L, hr, lo, p.imp fun v ρ' H' ph' e hr' q x d => ?_⟩
  obtain ⟨ρ2, ph2, L2, v2, hr2, lo2, d2, p2⟩ := q x d
  cases e2 : t.bind v2 L2 with
  | none =>
    rw [e2] at p2
    exact p2.elim
  | some L' =>
    rw [e2] at p2
    exact ⟨ρ2, ph2, L2, v2, L', hr2, lo2, d2, e2, fun σ' lo' _ => p2 ρ2 H' σ' (Ext.refl _ _) hr2 lo'⟩
theorem swaps_name {e : Expr} {x : Str} {p : Pos} {n : Nat} {env : Env} (h : compB e = false) : swapsWith e (some (.Name x p)) n env = pure false := by
  cases e <;> first | rfl | cases h
theorem swaps_tup {e : Expr} {es : List Expr} {k : Nat} {p : Pos} {n : Nat} {env : Env} : swapsWith e (some (.Tuple es k p)) n env = pure false := by
  cases e <;> rfl
theorem swaps_sub {e a b : Expr} {p : Pos} {n : Nat} {env : Env} : swapsWith e (some (.Subscript a b p)) n env = pure false := by
  cases e <;> rfl
theorem ss_set {i : Nat} {x : Str} {e : Expr} {p : Pos} {f : Lo → M PV} (hN : X.N.Nodup) (hi : X.N[i]? = some x) (hx : Loc X.env.scope x) (hf : X.fn x = true ∨ X.env.scope.names.lookup x = some .local) (he : SE Γ W X e f)
    (hs : swapsWith e (some (.Name x p)) pos.line X.env = pure false) : SS Γ W X (.Assign [.Name x p] e pos) (fun L h => (f L h).to L fun v h' => nextO ((Tg.nm i).bind v L) h') := by
  refine PS_imp (ps_set hN hi hx he hs hf) fun D σ H g => ?_
  obtain ⟨ρ, ph, L, hr, lo, p⟩ := asg_rd (t := .nm i) g
  refine ⟨ρ, ph, L, hr, lo, p.imp fun v ρ' H' ph' e hr' q x d => ?_⟩
  obtain ⟨ρ, ph, L, p, L', hr, lo, d, e, q⟩ := q x d
  cases e
  exact q _ (lo.set i d) (But.set _ _ (by simp [Tg.slots]) _)
theorem ss_setLc {i : Nat} {x : Str} {elt tg iter : Expr} {ifs : List Expr} {scope : Scope} {own : List (Str × Nat)} {py lpos : Pos} {fz : Bool} {t : Tg} {fi : Lo → M Sr} {ft : Lo → M Bool} {fe : Lo → M PV}
    (hi : X.N[i]? = some x) (hx : X.env.scope.names.lookup x = some .local) (hsw : swapsWith (.ListComp elt [⟨tg, iter, ifs, 0⟩] scope lpos) (some (.Name x py)) pos.line X.env = pure true)
    (hK : X.K = Γ.K) (hc : X.calm = true) (hN : X.N.Nodup) (hit : SI Γ W X tg iter fi) (ok : BlkOk X.N X.env.scope scope own) (hsl : ∀ j ∈ t.slots, j ∈ own.map (·.2))
    (hg : ∀ (s : Shared) (H : Hp) (C : Addr) (cl : List (Str × Addr)) (fp : List Addr), PG (X.blk s H scope (compEnvC scope cl C X.env) fp) tg (RdG Γ t))
    (ht : ∀ (s : Shared) (H : Hp) (C : Addr) (cl : List (Str × Addr)) (fp : List Addr), PTs (X.blk s H scope (compEnvC scope cl C X.env) fp) ifs (RdT Γ WN ft))
    (he : ∀ (s : Shared) (H : Hp) (C : Addr) (cl : List (Str × Addr)) (fp : List Addr), PE (X.blk s H scope (compEnvC scope cl C X.env) fp) elt (RdE Γ WN fe))
    (hs : ∀ x, foldedSetIterable iter X.env x = pure x) :
    SS Γ W X (.Assign [.Name x py] (.ListComp elt [⟨tg, iter, ifs, 0⟩] scope lpos) pos) (fun L h => ((do let s ← fi L; let ys ← noX (compS (compStep t (own.map (·.2)) L ft fe) s); fresh fz ys : M PV) h).to L fun v h' => nextO ((Tg.nm i).bind v L) h') := by
  refine PS_imp (ps_setLc hc hN hi hx hsw hit ok hg ht he hs) fun D σ H g => ?_
  have g1 := asg_rd (t := .nm i) g
  refine lc_rd (fz := fz) hsl ?_
  obtain ⟨ρ, ph, L, hr, lo, p⟩ := g1
  refine ⟨ρ, ph, L, hr, lo, p.imp fun v ρ' H' ph' e hr' q x d => ?_⟩
  obtain ⟨ρ, ph, L, p, L', hr, lo, d, e, q⟩ := q x d
  cases e
  exact q _ (lo.set i d) (But.set _ _ (by simp [Tg.slots]) _)
/-- a tuple of names, the value not a tuple's display -/
theorem stores_none {e : Expr} {es : List Expr} {k : Nat} {p : Pos} {env : Env} (h : (match e with | .Tuple .. => true | _ => false) = false) : swappedStores [.Tuple es k p] e env = pure none := by
  cases e <;> first | rfl | cases h
theorem stores_sub {e a b : Expr} {p : Pos} {env : Env} : swappedStores [.Subscript a b p] e env = pure none := by
  cases e <;> rfl
theorem ss_tup {is : List Nat} {es : List Expr} {k : Nat} {p : Pos} {e : Expr} {f : Lo → M PV} (hK : X.K = Γ.K) (hc : X.calm = true) (hN : X.N.Nodup) (g : GNames X es is) (he : SE Γ W X e f) (hw : swappedStores [.Tuple es k p] e X.env = pure none) :
    SS Γ W X (.Assign [.Tuple es k p] e pos) (fun L h => (f L h).to L fun v h' => nextO ((Tg.tup is).bind v L) h') :=
  PS_imp (ps_asg he (sg_tup hK hc hN g) (swaps_tup (e := e) (es := es) (k := k) (p := p) (n := pos.line) (env := X.env)) hw rfl) fun D σ H g => asg_rd (t := .tup is) g
/-! ### a, b = x, y -/
def folds (vs : List Expr) : Bool := vs.all (foldedForSure 8)
def alone (vs : List Expr) : Bool := vs.all (constantsAlone 8)
def starB : Expr → Bool
  | .Starred .. => true
  | _ => false
def lineOf (ts : List Expr) : Nat := (ts.head?.map (·.pos.line)).getD 0
def nameAt (sc : Scope) (n : Nat) : Expr → Option Str
  | .Name id p => if sc.names.lookup id == some .local && p.line == n then some id else none
  | _ => none
def namesOf (sc : Scope) (ts : List Expr) : List Str := ts.filterMap (nameAt sc (lineOf ts))
/-- what the stores of a tuple's display are -/
theorem stores_at {ts vs : List Expr} {k1 k2 : Nat} {p1 p2 : Pos} {env : Env} (hk : env.blockKind = .function) : ∃ u, swappedStores [.Tuple ts k1 p1] (.Tuple vs k2 p2) env =
    if (!(ts.length == 2 || ts.length == 3) || vs.length != ts.length) = true then pure none else if vs.any starB = true then pure none else
    if ((namesOf env.scope ts).length != ts.length || (namesOf env.scope ts).eraseDups.length != (namesOf env.scope ts).length) = true then pure none else
    if folds vs = true then pure none else if alone vs = true then u else pure (some (namesOf env.scope ts)) := by
  refine ⟨?_, ?_⟩
  rotate_left
  · unfold swappedStores
    dsimp only
    rw [hk, show (ScopeKind.function != ScopeKind.function) = false from rfl, Bool.or_false]
    rfl
def noneB (sc : Scope) (ts vs : List Expr) : Bool := !(ts.length == 2 || ts.length == 3) || folds vs || ((namesOf sc ts).length != ts.length)
theorem stores_no {ts vs : List Expr} {k1 k2 : Nat} {p1 p2 : Pos} {env : Env} (hk : env.blockKind = .function) (h : noneB env.scope ts vs = true) : swappedStores [.Tuple ts k1 p1] (.Tuple vs k2 p2) env = pure none := by
  obtain ⟨u, e⟩ := stores_at (ts := ts) (vs := vs) (k1 := k1) (k2 := k2) (p1 := p1) (p2 := p2) hk
  rw [e]
  unfold noneB at h
  split
  · rfl
  · rename_i h1
    split
    · rfl
    · split
      · rfl
      · rename_i h3
        split
        · rfl
        · rename_i h4
          exfalso
          rcases Bool.or_eq_true_iff.mp h with z | z
          · rcases Bool.or_eq_true_iff.mp z with z | z
            · exact h1 (by rw [z]; rfl)
            · exact h4 z
          · exact h3 (by rw [z]; rfl)
def someB (sc : Scope) (ts vs : List Expr) (xs : List Str) : Bool := (ts.length == 2 || ts.length == 3) && (vs.length == ts.length && (!vs.any starB && (decide (namesOf sc ts = xs) && ((namesOf sc ts).length == ts.length && ((namesOf sc ts).eraseDups.length == (namesOf sc ts).length && (!folds vs && !alone vs))))))
theorem stores_yes {ts vs : List Expr} {xs : List Str} {k1 k2 : Nat} {p1 p2 : Pos} {env : Env} (hk : env.blockKind = .function) (h : someB env.scope ts vs xs = true) : swappedStores [.Tuple ts k1 p1] (.Tuple vs k2 p2) env = pure (some xs) := by
  obtain ⟨u, e⟩ := stores_at (ts := ts) (vs := vs) (k1 := k1) (k2 := k2) (p1 := p1) (p2 := p2) hk
  unfold someB at h
  obtain ⟨h1, h⟩ := and2 h
  obtain ⟨h2, h⟩ := and2 h
  obtain ⟨h3, h⟩ := and2 h
  obtain ⟨h4, h⟩ := and2 h
  obtain ⟨h5, h⟩ := and2 h
  obtain ⟨h6, h⟩ := and2 h
  obtain ⟨h7, h8⟩ := and2 h
  have h4 := of_decide_eq_true h4
  have n1 : (!(ts.length == 2 || ts.length == 3) || vs.length != ts.length) = false := by
    rw [h1]
    show (false || !(vs.length == ts.length)) = false
    rw [h2]
    rfl
  have n3 : ((namesOf env.scope ts).length != ts.length || (namesOf env.scope ts).eraseDups.length != (namesOf env.scope ts).length) = false := by
    show (!((namesOf env.scope ts).length == ts.length) || !((namesOf env.scope ts).eraseDups.length == (namesOf env.scope ts).length)) = false
    rw [h5, h6]
    rfl
  have n2 : vs.any starB = false := by simpa using h3
  have n4 : folds vs = false := by simpa using h7
  have n5 : alone vs = false := by simpa using h8
  rw [e, n1, n2, n3, n4, n5, h4]
  rfl
theorem ss_par2 {i j : Nat} {x y : Str} {a b : Expr} {px py pt : Pos} {kt k2 : Nat} {pt2 : Pos} {f : Lo → M (List PV)} (hk : X.env.blockKind = .function) (hc : X.calm = true) (hN : X.N.Nodup) (hi : X.N[i]? = some x) (hj : X.N[j]? = some y) (hij : i ≠ j)
    (hx : X.env.scope.names.lookup x = some .local) (hy : X.env.scope.names.lookup y = some .local) (ha : SA Γ W X [a, b] f) (hw : someB X.env.scope [.Name x px, .Name y py] [a, b] [x, y] = true) :
    SS Γ W X (.Assign [.Tuple [.Name x px, .Name y py] kt pt] (.Tuple [a, b] k2 pt2) pos) (fun L h => (f L h).to L fun vs h' => nextO (setAll L [i, j] vs) h') := by
  refine PS_imp (ps_par hc hN hi hj hij hx hy ha (stores_yes hk hw) rfl) fun D σ H g => ?_
  obtain ⟨ρ, ph, L, hr, lo, p⟩ := g
  refine ⟨ρ, ph, L, hr, lo, (p.to lo).imp fun vs ρ' H' ph' e hr' q us d => ?_⟩
  cases d with
  | nil => exact q.elim
  | cons d1 t =>
    cases t with
    | nil => exact q.elim
    | cons d2 t =>
      cases t with
      | nil => exact ⟨_, _, rfl, q ρ' H' _ (Ext.refl _ _) hr' (((lo.ext e).set i d1).set j d2)⟩
      | cons d3 t => exact q.elim
theorem ss_par3 {i j l : Nat} {x y z : Str} {a b c : Expr} {px py pz pt : Pos} {kt k2 : Nat} {pt2 : Pos} {f : Lo → M (List PV)} (hk : X.env.blockKind = .function) (hc : X.calm = true) (hN : X.N.Nodup) (hi : X.N[i]? = some x) (hj : X.N[j]? = some y) (hl : X.N[l]? = some z) (hij : i ≠ j) (hil : i ≠ l) (hjl : j ≠ l)
    (hx : X.env.scope.names.lookup x = some .local) (hy : X.env.scope.names.lookup y = some .local) (hz : X.env.scope.names.lookup z = some .local) (ha : SA Γ W X [a, b, c] f) (hw : someB X.env.scope [.Name x px, .Name y py, .Name z pz] [a, b, c] [x, y, z] = true) :
    SS Γ W X (.Assign [.Tuple [.Name x px, .Name y py, .Name z pz] kt pt] (.Tuple [a, b, c] k2 pt2) pos) (fun L h => (f L h).to L fun vs h' => nextO (setAll L [i, j, l] vs) h') := by
  refine PS_imp (ps_par3 hc hN hi hj hl hij hil hjl hx hy hz ha (stores_yes hk hw) rfl) fun D σ H g => ?_
  obtain ⟨ρ, ph, L, hr, lo, p⟩ := g
  refine ⟨ρ, ph, L, hr, lo, (p.to lo).imp fun vs ρ' H' ph' e hr' q us d => ?_⟩
  cases d with
  | nil => exact q.elim
  | cons d1 t =>
    cases t with
    | nil => exact q.elim
    | cons d2 t =>
      cases t with
      | nil => exact q.elim
      | cons d3 t =>
        cases t with
        | nil => exact ⟨_, _, _, rfl, q ρ' H' _ (Ext.refl _ _) hr' ((((lo.ext e).set i d1).set j d2).set l d3)⟩
        | cons d4 t => exact q.elim
/-- a, b = x, y where the tuple is made -/
theorem ss_parT {is : List Nat} {es vs : List Expr} {k k2 : Nat} {p p2 : Pos} {f : Lo → M (List PV)} (hk : X.env.blockKind = .function) (hK : X.K = Γ.K) (hc : X.calm = true) (hN : X.N.Nodup) (g : GNames X es is)
    (he : SE Γ W X (.Tuple vs k2 p2) (fun L => do let xs ← f L; fun h => if xs.length ≤ sizeLine then .ok (.tup xs) h else .stuck)) (hl : is.length ≤ 8)
    (hw : noneB X.env.scope es vs = true) : SS Γ W X (.Assign [.Tuple es k p] (.Tuple vs k2 p2) pos) (fun L h => (f L h).to L fun xs h' => nextO (setAll L is xs) h') := by
  have r := ss_tup (pos := pos) (k := k) (p := p) hK hc hN g he (stores_no hk hw)
  refine PS_imp r fun D σ H q => ?_
  obtain ⟨ρ, ph, L, hr, lo, p⟩ := q
  refine ⟨ρ, ph, L, hr, lo, ?_⟩
  have p : PostS Γ W D ρ H ((f L ph).to L fun xs h' => nextO (setAll L is xs) h') := p
  show PostS Γ W D ρ H (R.to L (fun v h' => nextO ((Tg.tup is).bind v L) h') (M.bind (f L) (fun xs h => if xs.length ≤ sizeLine then R.ok (PV.tup xs) h else R.stuck) ph))
  unfold M.bind
  cases e : f L ph with
  | ok xs h' =>
    rw [e] at p
    have p : PostS Γ W D ρ H (nextO (setAll L is xs) h') := p
    cases e2 : setAll L is xs with
    | none =>
      rw [e2] at p
      exact p.elim
    | some L' =>
      have hz : xs.length ≤ sizeLine := by
        have := setAll_len e2
        have h8 : 8 ≤ sizeLine := by decide
        omega
      show PostS Γ W D ρ H ((if xs.length ≤ sizeLine then R.ok (PV.tup xs) h' else .stuck).to L fun v h' => nextO ((Tg.tup is).bind v L) h')
      rw [if_pos hz]
      exact p
  | exc x h' => rw [e] at p; exact p
  | stuck => rw [e] at p; exact p
/-! ### o[i] = v, name op= v -/
theorem set_ok (hK : X.K = Γ.K) (hu : X.A.units + 64 < cLine) {pins : List (Addr × Obj)} {s : Shared} {σ : L2.St} {H : Hp} {ρ : Rz} {ph : PH} {o i v : V} {po pi pv : PV} {ov iv u : Value} {Q : Hp → Prop} (I : Inv X pins σ H s) (ro : RelV o ov) (ri : RelV i iv) (rv : RelV v u)
    (hr : HR Γ ρ H ph) (d1 : Den Γ.K ρ H o po) (d2 : Den Γ.K ρ H i pi) (d3 : Den Γ.K ρ H v pv) (p : Post Γ W0 ρ H (fun _ _ H' _ => Q H') (setS po pi pv ph)) :
    wpAny (model X.prog X.w) X.A (setItem ov iv u) (fun _ s' => ∃ H', Inv X pins σ H' s' ∧ Q H') X.xe s := by
  have hu1 : X.A.units + 1 < cLine := by omega
  have dct : ∀ {n : Nat} {a : Addr} {vs : List (Key × V)} {kvs : List (Key × PV)} {k : Key}, o = .ref a → i = kV k → ρ.r[n]? = some a → H a = some (.dK vs) → DenK Γ.K ρ H vs kvs → kvs.length < sizeLine →
      Post Γ W0 ρ H (fun _ _ H' _ => Q H') (R.ok () (ph.set n (.dct false (insK kvs k pv)))) → wpAny (model X.prog X.w) X.A (setItem ov iv u) (fun _ s' => ∃ H', Inv X pins σ H' s' ∧ Q H') X.xe s := by
    intro n a vs kvs k e1 e2 hn hH r hl p
    subst e1 e2
    refine set_dict hu1 pins s σ H _ _ v ov iv u Q I ro ri rv ⟨a, _, rfl, DPut.k hH (by rw [r.length]; exact hl), ?_⟩
    exact p ρ _ (Ext.set hn) (hr.set hn (.dct upd_same ((DenK.put k d3 r).ext (Ext.set hn))))
  unfold setS at p
  split at p
  · rename_i n
    split at p
    · rename_i xs k e1 e2
      obtain ⟨a, vs, rfl, f, r, h⟩ := vwAt hr d1 e1
      obtain ⟨rfl, -⟩ := vwAt hr d2 e2
      split at p
      · rename_i j e3
        rcases h with ⟨z, _⟩ | ⟨k, z, hn, hH⟩
        · cases z
        · cases z
          refine set_list pins s σ H _ _ v ov iv u Q I ro ri rv ⟨a, vs, _, j, rfl, rfl, hH, by rw [r.length]; exact e3, ?_⟩
          exact p ρ _ (Ext.set hn) (hr.set hn (.lst upd_same (DenL.set (d3.ext (Ext.set hn)) j (r.ext (Ext.set hn)))))
      · exact p.elim
    · rename_i kvs k e1 e2
      obtain ⟨a, vs, eo, h, r, h2⟩ := vwAt hr d1 e1
      obtain ⟨ei, -⟩ := vwAt hr d2 e2
      obtain ⟨c, p⟩ := post_if p
      rcases h with ⟨_, hH⟩ | ⟨_, z, _⟩
      · rcases h2 with ⟨z, _⟩ | ⟨n', z, hn⟩
        · cases z
        · cases z
          exact dct (k := .inl _) eo ei hn hH r c p
      · cases z
    · rename_i kvs k e1 e2
      obtain ⟨a, vs, eo, h, r, h2⟩ := vwAt hr d1 e1
      obtain ⟨ei, -, -⟩ := vwAt hr d2 e2
      obtain ⟨c, p⟩ := post_if p
      rcases h with ⟨_, hH⟩ | ⟨_, z, _⟩
      · rcases h2 with ⟨z, _⟩ | ⟨n', z, hn⟩
        · cases z
        · cases z
          exact dct (k := .inr _) eo ei hn hH r c p
      · cases z
    · exact p.elim
  · exact p.elim
theorem nx_set (o k v : PV) : NX (setS o k v) := by
  intro h e h' z
  unfold setS at z
  repeat' split at z
  all_goals cases z
theorem ss_setI {o i e : Expr} {p : Pos} {fo fi fe : Lo → M PV} (hK : X.K = Γ.K) (hu : X.A.units + 64 < cLine) (hix : plainIxB i = true) (ho : SE Γ W X o fo) (hi : SE Γ W X i fi) (he : SE Γ W X e fe) :
    SS Γ W X (.Assign [.Subscript o i p] e pos) (fun L h => (fe L h).to L fun v h1 => (fo L h1).to L fun x h2 => (fi L h2).to L fun k h3 => (setS x k v h3).to L fun _ h4 => .next L h4) := by
  have hset : PSet X fun x y z H Q => ∃ ρ ph p q r, HR Γ ρ H ph ∧ Den Γ.K ρ H x p ∧ Den Γ.K ρ H y q ∧ Den Γ.K ρ H z r ∧ Post Γ W0 ρ H (fun _ _ H' _ => Q H') (setS p q r ph) := by
    intro pins s σ H x y z ov iv u Q I ro ri rv ⟨ρ, ph, p, q, r, hr, d1, d2, d3, po⟩
    exact set_ok hK hu I ro ri rv hr d1 d2 d3 po
  refine PS_imp (ps_asg he (pg_sub ho hi hset (by cases i <;> first | (intro _; rfl) | cases hix)) (swaps_sub (e := e) (a := o) (b := i) (p := p) (n := pos.line) (env := X.env)) stores_sub rfl) fun D σ H g => ?_
  obtain ⟨ρ, ph, L, hr, lo, p⟩ := g
  refine ⟨ρ, ph, L, hr, lo, (p.to lo).imp fun v ρ1 H1 ph1 e1 hr1 p1 x1 d1 => ?_⟩
  refine ⟨ρ1, ph1, L, hr1, lo.ext e1, (PostS.to (lo.ext e1) p1).imp fun o ρ2 H2 ph2 e2 hr2 p2 x2 d2 => ?_⟩
  have lo2 := (lo.ext e1).ext e2
  refine ⟨ρ2, ph2, L, hr2, lo2, (PostS.to lo2 p2).imp fun i ρ3 H3 ph3 e3 hr3 p3 x3 d3 => ?_⟩
  have lo3 := lo2.ext e3
  exact ⟨ρ3, ph3, _, _, _, hr3, d2.ext e3, d3, (d1.ext e2).ext e3, ((PostS.to lo3 p3).imp fun _ ρ4 H4 ph4 e4 hr4 p4 => p4 ρ4 H4 σ (Ext.refl _ _) hr4 (lo3.ext e4)).nx (nx_set _ _ _)⟩
theorem nx_aug (op : Operator) (x y : PV) : NX (augS op x y) := by
  intro h e h' z
  unfold augS at z
  repeat' split at z
  all_goals cases z
theorem aug_ok {op : Operator} : PIp X op fun x y H Q => ∃ ρ ph p q, HR Γ ρ H ph ∧ Den Γ.K ρ H x p ∧ Den Γ.K ρ H y q ∧ Post Γ W0 ρ H (Qv Γ Q) (augS op p q ph) := by
  intro pins s σ H x y v u Q I rx ry ⟨ρ, ph, p, q, hr, d1, d2, po⟩
  unfold augS at po
  split at po
  · cases d1
    cases d2
    exact ip_add pins s σ H _ _ v u Q I rx ry ⟨_, _, rfl, rfl, post_val po hr (.int _)⟩
  · cases d1
    cases d2
    exact ip_sub pins s σ H _ _ v u Q I rx ry ⟨_, _, rfl, rfl, post_val po hr (.int _)⟩
  · exact po.elim
theorem ss_aug {i : Nat} {x : Str} {e : Expr} {op : Operator} {p : Pos} {f : Lo → M PV} (hN : X.N.Nodup) (hi : X.N[i]? = some x) (hx : Loc X.env.scope x) (hf : X.fn x = true ∨ X.env.scope.names.lookup x = some .local) (he : SE Γ W X e f) :
    SS Γ W X (.AugAssign (.Name x p) op e pos) (fun L h => match L[i]? with
      | some (some x) => (f L h).to L fun y h1 => (augS op x y h1).to L fun z h2 => .next (L.set i (some z)) h2
      | _ => .stuck) := by
  refine PS_imp (ps_aug hN hi hx he (aug_ok (Γ := Γ)) hf) fun D σ H g => ?_
  obtain ⟨ρ, ph, L, hr, lo, p⟩ := g
  have p : PostS Γ W D ρ H (match L[i]? with
      | some (some x) => (f L ph).to L fun y h1 => (augS op x y h1).to L fun z h2 => .next (L.set i (some z)) h2
      | _ => .stuck) := p
  split at p
  · rename_i v e1
    obtain ⟨x, e2, d⟩ := lo.2 i v e1
    refine ⟨x, e2, ρ, ph, L, hr, lo, (p.to lo).imp fun y ρ1 H1 ph1 ex hr1 p1 y1 d1 => ?_⟩
    refine ⟨ρ1, ph1, _, _, hr1, d.ext ex, d1, ((PostS.to (lo.ext ex) p1).imp fun z ρ2 H2 ph2 ex2 hr2 p2 z1 d2 => ?_).nx (nx_aug _ _ _)⟩
    exact p2 ρ2 H2 _ (Ext.refl _ _) hr2 (((lo.ext ex).ext ex2).set i d2)
  · exact p.elim
end
end Rk

set_option Elab.async false
set_option linter.all false
set_option maxRecDepth 100000
set_option maxHeartbeats 2000000
/-! RkQ2: errors raised and caught. -/
namespace Rk
open PySem PySem.Spec L2

section
variable {Γ : GI} {W : WX} {X : Cx} {pos : Pos}
theorem ss_wall {st : Stmt} : SS Γ W X st (fun _ _ => .stuck) := ⟨fun _ _ _ _ _ _ ⟨_, _, _, _, _, z⟩ => z.elim⟩
theorem ss_raise {c : Str} {e : Expr} {es : List Expr} {f : Lo → M (List PV)} {p pos' : Pos} (hK : X.K = Γ.K) (hc : X.calm = true) (tk : Takes X W) (F : RaiF X.K X.mg c) (gl : Gl X c) (hd : (c == ("__debug__" : Str)) = false) (ha : SA Γ W X (e :: es) f) (hn : (e :: es).all noStarB = true) :
    SS Γ W X (.Raise (some (.Call (.Name c p) (e :: es) [] pos')) none pos) (fun L h => (f L h).to L fun vs h' => if vs.length ≤ sizeLine then .exc ⟨c, []⟩ L h' else .stuck) := by
  obtain ⟨n1, n2⟩ := and2 (show (noStarB e && es.all noStarB) = true from hn)
  refine PS_imp (ps_raise hc tk (pmk_ownA PySem.F.excBase_ValueError F.ex F.at_ F.kp (raises_own F.sub F.ty) gl ha hd (starEach_cons n1) (starEach_none n2))) fun D σ H g => ?_
  obtain ⟨ρ, ph, L, hr, lo, p⟩ := g
  refine ⟨ρ, ph, L, hr, lo, (p.to lo).imp fun vs ρ1 H1 ph1 e1 hr1 q us d => ?_⟩
  have q : PostS Γ W D ρ1 H1 (if vs.length ≤ sizeLine then .exc ⟨c, []⟩ L ph1 else .stuck) := q
  by_cases hz : vs.length ≤ sizeLine
  · rw [if_pos hz] at q
    exact ⟨by rw [d.length]; exact hz, q ρ1 H1 σ (Ext.refl _ _) hr1 (lo.ext e1) _ none ⟨by rw [hK], .inl ⟨rfl, rfl⟩⟩⟩
  · rw [if_neg hz] at q
    exact q.elim
theorem loR_none {K : PySem.W.Frag} {ρ : Rz} {H : Hp} {σ : L2.St} {L : Lo} (i : Nat) (lo : LoR K ρ H σ L) : LoR K ρ H (σ.set i none) (L.set i none) := by
  refine ⟨by simp [lo.1], fun j u q => ?_⟩
  by_cases e : i = j
  · subst e
    by_cases hl : i < L.length
    · rw [List.getElem?_set_self hl] at q
      cases q
    · rw [List.getElem?_eq_none (by simpa using hl)] at q
      cases q
  · rw [List.getElem?_set_ne e] at q ⊢
    exact lo.2 j u q
theorem den_exc {K : PySem.W.Frag} {ρ : Rz} {H : Hp} {e : PX} {a : Addr} {d : Option Addr} (h : (d = none ∧ e.fs = []) ∨ ∃ b vs, d = some b ∧ H b = some (.xd vs) ∧ b ∉ ρ ∧ e.fs ≠ [] ∧ DenF K ρ H vs e.fs) (n : H a = none) (hz : a ∉ ρ) :
    Den K ρ (upd H a (ExV (.ref (He.ga K e.c)) d a)) (.ref a) (.exc e.c e.fs) := by
  rcases h with ⟨rfl, ef⟩ | ⟨b, vs, rfl, h1, h2, h3, h4⟩
  · rw [ef]
    exact .exc0 upd_same hz
  · exact .exc1 upd_same (by rw [upd_ne (ne_of_none h1 n)]; exact h1) hz h2 h3 (h4.ext (Ext.laid n))
theorem ss_tryX {te : Expr} {n x : Str} {i j : Nat} {body : List Stmt} {px pn' pa ph' pos' : Pos} {fb : Lo → PH → RS} {tab : List (Str × Bool)} (hK : X.K = Γ.K) (hst : X.stack = X.env :: X.outer) (hfm : X.env.frame = some X.env.locals) (hex : X.ex = []) (hN : X.N.Nodup) (hi : X.N[i]? = some n) (hj : X.N[j]? = some x)
    (hln : X.env.kindOf n = some .local) (hlx : X.env.scope.names.lookup x = some .local) (hT : ∀ cl b, tabL tab cl = some b → Catches X te (.ref (He.ga X.K cl)) b) (tk : Takes X W) (dn : (n == ("__debug__" : Str)) = false) (cn : (n == ("__classdict__" : Str)) = false)
    (hb : ∀ (W' : WX) (pn : List (Addr × Obj)) (xe : Value → Shared → Prop), Takes (X.tr pn xe) W' → PassesOwn (model X.prog X.w) X.A X.env xe → SB Γ W' (X.tr pn xe) body fb) :
    SS Γ W X (.Try body [.ExceptHandler (some te) (some n) [.Assign [.Name x px] (.Name n pn') pa] pos'] [] [] pos) (fun L h => match fb L h with
      | .exc e L' h' => (match tabL tab e.c with
        | some true => .next (((L'.set i (some (.exc e.c e.fs))).set j (some (.exc e.c e.fs))).set i none) h'
        | some false => .exc e L' h'
        | none => .stuck)
      | r => r) := by
  refine PS_imp (ps_tryS (ph' := pos) (T := fun cls b => ∃ cl, cls = .ref (He.ga X.K cl) ∧ tabL tab cl = some b) (tb := fun W' => RdS Γ W' fb) hst hfm hex hN hi hj hln hlx (fun cls b ⟨cl, e1, e2⟩ => by rw [e1]; exact hT cl b e2) tk dn cn hb) fun D σ H g => ?_
  obtain ⟨ρ, ph, L, hr, lo, p⟩ := g
  refine ⟨ρ, ph, L, hr, lo, ?_⟩
  have p : PostS Γ W D ρ H (match fb L ph with
      | .exc e L' h' => (match tabL tab e.c with
        | some true => .next (((L'.set i (some (.exc e.c e.fs))).set j (some (.exc e.c e.fs))).set i none) h'
        | some false => .exc e L' h'
        | none => .stuck)
      | r => r) := p
  cases q : fb L ph with
  | next L' h' => rw [q] at p; exact p
  | brk L' h' => rw [q] at p; exact p
  | cont L' h' => rw [q] at p; exact p
  | ret L' h' => rw [q] at p; exact p
  | stuck => rw [q] at p; exact p
  | exc e L' h' =>
    rw [q] at p
    have p : PostS Γ W D ρ H (match tabL tab e.c with
        | some true => .next (((L'.set i (some (.exc e.c e.fs))).set j (some (.exc e.c e.fs))).set i none) h'
        | some false => .exc e L' h'
        | none => .stuck) := p
    intro ρ1 H1 σ1 e1 hr1 lo1 cls d ⟨hcls, hd⟩
    cases qt : tabL tab e.c with
    | none =>
      rw [qt] at p
      exact p.elim
    | some b =>
      rw [qt] at p
      refine ⟨b, ⟨e.c, by rw [hcls, hK], qt⟩, fun hb a na => ?_, fun hb => ?_⟩
      · subst hb
        have de : Den Γ.K ρ1 (upd H1 a (ExV cls d a)) (.ref a) (.exc e.c e.fs) := by
          rw [hcls]
          exact den_exc hd na (hr1.out na)
        have ex := Ext.laid (ρ := ρ1) (o := ExV cls d a) na
        have p : PostS Γ W D ρ H (.next (((L'.set i (some (.exc e.c e.fs))).set j (some (.exc e.c e.fs))).set i none) h') := p
        exact p ρ1 _ _ (e1.trans ex) (hr1.laid na) (loR_none i (((lo1.ext ex).set i de).set j de))
      · subst hb
        have p : PostS Γ W D ρ H (.exc e L' h') := p
        exact p ρ1 H1 σ1 e1 hr1 lo1 cls d ⟨hcls, hd⟩
theorem ss_tryN {body : List Stmt} {h0 : ExceptHandler} {hs : List ExceptHandler} {fb : Lo → PH → RS} (hb : SB Γ WN X.nox body fb) : SS Γ W X (.Try body (h0 :: hs) [] [] pos) (fun L h => match fb L h with
      | .exc _ _ _ => .stuck
      | r => r) := by
  refine PS_imp (ps_try_thru0 hb) fun D σ H g => ?_
  obtain ⟨ρ, ph, L, hr, lo, p⟩ := g
  refine ⟨ρ, ph, L, hr, lo, ?_⟩
  have p : PostS Γ W D ρ H (match fb L ph with
      | .exc _ _ _ => .stuck
      | r => r) := p
  cases q : fb L ph with
  | next L' h' => rw [q] at p; exact p
  | brk L' h' => rw [q] at p; exact p
  | cont L' h' => rw [q] at p; exact p
  | ret L' h' => rw [q] at p; exact p
  | stuck => rw [q] at p; exact p
  | exc e L' h' => rw [q] at p; exact p.elim
end
end Rk

set_option Elab.async false
set_option linter.all false
set_option maxRecDepth 100000
set_option maxHeartbeats 2000000
/-! RkS: statements that were looked at do what the code does. -/
namespace Rk
open PySem PySem.Spec L2

section
variable (G : GS) (N : List Str)
/-- the stores of a tuple's display, from the right -/
def parB (sc : Scope) (is : List Nat) (ts vs : List Expr) : Bool := match is, ts, vs with
  | [i, j], [.Name x _, .Name y _], [_, _] => decide (i ≠ j) && (decide (sc.names.lookup x = some .local) && (decide (sc.names.lookup y = some .local) && someB sc ts vs [x, y]))
  | [i, j, l], [.Name x _, .Name y _, .Name z _], [_, _, _] => decide (i ≠ j) && (decide (i ≠ l) && (decide (j ≠ l) && (decide (sc.names.lookup x = some .local) && (decide (sc.names.lookup y = some .local) && (decide (sc.names.lookup z = some .local) && someB sc ts vs [x, y, z])))))
  | _, _, _ => false
/-- a list comprehension's code -/
def isComp : CE → Bool
  | .comp .. => true
  | _ => false
/-- an except clause's classes -/
def excB (sc : Scope) : Expr → List Str → Bool
  | .Name x _, [y] => decide (x = y) && (glB sc x && plainB x)
  | .Tuple [.Name x1 _, .Name x2 _] _ _, [y1, y2] => decide (x1 = y1) && (decide (x2 = y2) && (glB sc x1 && (plainB x1 && (glB sc x2 && plainB x2))))
  | _, _ => false
def tupB : Expr → Bool
  | .Tuple .. => true
  | _ => false
mutual
def okS : SX → CS → Stmt → Bool
  | S, .asg (.nm i) e, st => (match st with
    | .Assign [.Name x _] v _ => decide (N[i]? = some x) && (stB S x && ((!compB v || isComp e) && okE G N S e v))
    | _ => false)
  | S, .asg (.tup is) e, st => (match st with
    | .Assign [.Tuple ts _ _] v _ => !tupB v && (okNames N S is ts && okE G N S e v)
    | _ => false)
  | S, .par is es, st => (match st with
    | .Assign [.Tuple ts _ _] (.Tuple vs _ _) _ => okNames N S is ts && (okEs G N S es vs && (decide (is.length ≤ 8) && noneB S.sc ts vs || parB S.sc is ts vs))
    | _ => false)
  | S, .aug i op e, st => (match st with
    | .AugAssign (.Name x _) o v _ => decide (N[i]? = some x) && (stB S x && (decide (o = op) && okE G N S e v))
    | _ => false)
  | S, .setI o i e, st => (match st with
    | .Assign [.Subscript a b _] v _ => plainIxB b && (okE G N S o a && (okE G N S i b && okE G N S e v))
    | _ => false)
  | S, .expr e, st => (match st with
    | .Expr v _ => !compB v && okE G N S e v
    | _ => false)
  | S, .ret e, st => (match st with
    | .Return (some v) _ => okE G N S e v
    | _ => false)
  | _, .retN, st => (match st with
    | .Return none _ => true
    | _ => false)
  | S, .ifS c a b, st => (match st with
    | .If t x y _ => okT G N S c t && (okSs S a x && okSs S b y)
    | _ => false)
  | S, .whl c b, st => (match st with
    | .While t x [] _ => okT G N S c t && okSs S b x
    | _ => false)
  | S, .forS tg it b, st => (match st with
    | .For te ie x [] _ => okTg N S tg te && (okI G N S it te ie && okSs S b x)
    | _ => false)
  | _, .pass, st => (match st with
    | .Pass _ => true
    | .Expr (.Constant (.str _) _ _) _ => true
    | _ => false)
  | _, .brk, st => (match st with
    | .Break _ => true
    | _ => false)
  | _, .cont, st => (match st with
    | .Continue _ => true
    | _ => false)
  | S, .raise c es, st => (match st with
    | .Raise (some (.Call (.Name x _) args [] _)) none _ => decide (x = c) && (glB S.sc x && (plainB x && (decide (c ∈ G.exc) && (okEs G N S es args && !args.isEmpty))))
    | _ => false)
  | S, .tryX b cs tab i j, st => (match st with
    | .Try x [.ExceptHandler (some te) (some n) [.Assign [.Name y _] (.Name n' _) _] _] [] [] _ => decide (N[i]? = some n) && (decide (n' = n) && (decide (N[j]? = some y) && (decide (S.sc.names.lookup n = some .local) && (decide (S.sc.names.lookup y = some .local) &&
      (plainB n && (excB S.sc te cs && (decide ((cs, tab) ∈ G.exm) && okSs { S with lm := false } b x)))))))
    | _ => false)
  | S, .tryN b, st => (match st with
    | .Try x (_ :: _) [] [] _ => okSs { S with lm := false } b x
    | _ => false)
  | _, .wall, _ => true
def okSs : SX → List CS → List Stmt → Bool
  | _, [], st => st.isEmpty
  | S, c :: r, st => (match st with
    | s :: st => okS S c s && okSs S r st
    | [] => false)
end
end
/-- the context of a def's body -/
structure CB (Γ : GI) (G : GS) (N : List Str) (cf : CF) (W : WX) (S : SX) (X : Cx) : Prop where
  ck : CK Γ G N cf W S X
  bk : X.env.blockKind = .function
  own : PassesOwn (model X.prog X.w) X.A X.env X.xe
  stk : X.stack = X.env :: X.outer
  frm : X.env.frame = some X.env.locals
  exs : X.ex = []
/-- a try's body -/
theorem CB.tr {Γ : GI} {G : GS} {N : List Str} {cf : CF} {W W' : WX} {S : SX} {X : Cx} {pn : List (Addr × Obj)} {xe : Value → Shared → Prop} (k : CB Γ G N cf W S X) (tk : Takes (X.tr pn xe) W') (po : PassesOwn (model X.prog X.w) X.A X.env xe) : CB Γ G N cf W' { S with lm := false } (X.tr pn xe) where
  ck := k.ck.tr tk
  bk := k.bk
  own := po
  stk := k.stk
  frm := k.frm
  exs := k.exs

section
variable {Γ : GI} {G : GS} {N : List Str} {cf : CF} {W : WX} {S : SX} {X : Cx} (k : CB Γ G N cf W S X)
include k
theorem cS_nm {i : Nat} {e : CE} {st : Stmt} (h : okS G N S (.asg (.nm i) e) st = true) : SS Γ W X st (evS cf (.asg (.nm i) e)) := by
  cases st with
  | Assign ts v pos =>
    match ts, h with
    | [t0], h =>
      cases t0 with
      | Name x p =>
          obtain ⟨h1, h⟩ := and2 (show (decide (N[i]? = some x) && (stB S x && ((!compB v || isComp e) && okE G N S e v))) = true from h)
          obtain ⟨h2, h⟩ := and2 h
          obtain ⟨h0, h3⟩ := and2 h
          have hi : X.N[i]? = some x := by rw [k.ck.hN]; exact of_decide_eq_true h1
          have hN : X.N.Nodup := by rw [k.ck.hN]; exact k.ck.nd
          by_cases hc : compB v = false
          · exact ss_set hN hi (k.ck.loc h2) (k.ck.hfn x h2) (sE e k.ck h3) (swaps_name hc)
          · cases e with
            | comp fz elt t it ifs own =>
              · obtain ⟨ee, te, ie, fe, scope, lp, rfl, q1, q2, q3, q4, q5, h6, h7⟩ := comp_inv h3
                by_cases hb : (X.env.blockKind == .function && X.env.kindOf x == some .local && p.line == lp.line && !(scope.names.any fun (n, k) => n == x && (k == .local || k == .cell))) = true
                · have hsw : swapsWith (.ListComp ee [⟨te, ie, fe, 0⟩] scope lp) (some (.Name x p)) pos.line X.env = pure true := by
                    rw [← hb]
                    rfl
                  have hl : X.env.scope.names.lookup x = some .local := by
                    obtain ⟨hb, _⟩ := and2 hb
                    obtain ⟨hb, _⟩ := and2 hb
                    obtain ⟨_, hb⟩ := and2 hb
                    exact eq_of_beq hb
                  have hbk : BlkOk X.N X.env.scope scope (ownP N own) := by
                    rw [k.ck.hN, k.ck.hsc]
                    exact blkOk_by q5
                  have r := ss_setLc (Γ := Γ) (W := W) (X := X) (pos := pos) (i := i) (x := x) (elt := ee) (tg := te) (iter := ie) (ifs := fe) (scope := scope) (own := ownP N own) (py := p) (lpos := lp) (fz := fz) (t := t) (fi := evI cf it) (ft := evIfs cf ifs) (fe := evE cf elt)
                    hi hl hsw k.ck.hK k.ck.calm hN (sI it k.ck q1) hbk (fun j hj => by rw [h6]; exact of_decide_eq_true (List.all_eq_true.mp h7 j hj))
                    (fun s H C cl fp => c_tg (k.ck.blk scope s H C cl fp) q2) (fun s H C cl fp => sIfs ifs (k.ck.blk scope s H C cl fp) q4) (fun s H C cl fp => sE elt (k.ck.blk scope s H C cl fp) q3) (fold_of q1 _)
                  rw [h6] at r
                  exact r
                · have hsw : swapsWith (.ListComp ee [⟨te, ie, fe, 0⟩] scope lp) (some (.Name x p)) pos.line X.env = pure false := by
                    have hb : (X.env.blockKind == .function && X.env.kindOf x == some .local && p.line == lp.line && !(scope.names.any fun (n, k) => n == x && (k == .local || k == .cell))) = false := eq_false_of_ne_true hb
                    rw [← hb]
                    rfl
                  exact ss_set hN hi (k.ck.loc h2) (k.ck.hfn x h2) (sE _ k.ck h3) hsw
            | _ =>
              rcases Bool.or_eq_true_iff.mp h0 with z | z
              · exact absurd (by simpa using z) hc
              · cases z
      | _ => cases h
    | [], h => cases h
    | _ :: _ :: _, h => exact absurd h (by simp [okS])
  | _ => cases h
theorem c_namesN : ∀ {is : List Nat} {es : List Expr}, okNames N S is es = true → GNames X es is := fun h => c_names k.ck h
theorem cS_tup {is : List Nat} {e : CE} {st : Stmt} (h : okS G N S (.asg (.tup is) e) st = true) : SS Γ W X st (evS cf (.asg (.tup is) e)) := by
  cases st with
  | Assign ts v pos =>
    match ts, h with
    | [t0], h =>
      cases t0 with
      | Tuple ts kt p =>
        obtain ⟨h1, h⟩ := and2 (show (!tupB v && (okNames N S is ts && okE G N S e v)) = true from h)
        obtain ⟨h2, h3⟩ := and2 h
        have hN : X.N.Nodup := by rw [k.ck.hN]; exact k.ck.nd
        refine ss_tup k.ck.hK k.ck.calm hN (c_names k.ck h2) (sE e k.ck h3) ?_
        have h1 : tupB v = false := by simpa using h1
        cases v <;> first | rfl | cases h1
      | _ => cases h
    | [], h => cases h
    | _ :: _ :: _, h => exact absurd h (by simp [okS])
  | _ => cases h
theorem cS_par {is : List Nat} {es : CEs} {st : Stmt} (h : okS G N S (.par is es) st = true) : SS Γ W X st (evS cf (.par is es)) := by
  have hN : X.N.Nodup := by rw [k.ck.hN]; exact k.ck.nd
  cases st with
  | Assign ts v pos =>
    match ts, h with
    | [t0], h =>
      cases t0 with
      | Tuple ts kt p =>
        cases v with
        | Tuple vs k2 p2 =>
          obtain ⟨h1, h⟩ := and2 (show (okNames N S is ts && (okEs G N S es vs && (decide (is.length ≤ 8) && noneB S.sc ts vs || parB S.sc is ts vs))) = true from h)
          obtain ⟨h2, h3⟩ := and2 h
          have he := sEs es k.ck h2
          rcases Bool.or_eq_true_iff.mp h3 with z | z
          · obtain ⟨z0, z⟩ := and2 z
            refine ss_parT k.bk k.ck.hK k.ck.calm hN (c_names k.ck h1) (se_tup he.1) (of_decide_eq_true z0) ?_
            rw [k.ck.hsc]
            exact z
          · unfold parB at z
            split at z
            · rename_i i j x px y py a b _ _
              obtain ⟨a1, z⟩ := and2 z
              obtain ⟨a2, z⟩ := and2 z
              obtain ⟨a3, z⟩ := and2 z
              obtain ⟨b1, b⟩ := and2 (show (decide (N[i]? = some x) && (stB S x && okNames N S [j] [.Name y py])) = true from h1)
              obtain ⟨_, b⟩ := and2 b
              obtain ⟨b2, _⟩ := and2 (show (decide (N[j]? = some y) && (stB S y && true)) = true from b)
              refine ss_par2 k.bk k.ck.calm hN (by rw [k.ck.hN]; exact of_decide_eq_true b1) (by rw [k.ck.hN]; exact of_decide_eq_true b2) (of_decide_eq_true a1) ?_ ?_ he.1 ?_
              · rw [k.ck.hsc]; exact of_decide_eq_true a2
              · rw [k.ck.hsc]; exact of_decide_eq_true a3
              · rw [k.ck.hsc]; exact z
            · rename_i i j l x px y py w pw a b c _ _
              obtain ⟨a1, z⟩ := and2 z
              obtain ⟨a2, z⟩ := and2 z
              obtain ⟨a3, z⟩ := and2 z
              obtain ⟨a4, z⟩ := and2 z
              obtain ⟨a5, z⟩ := and2 z
              obtain ⟨a6, z⟩ := and2 z
              obtain ⟨b1, b⟩ := and2 (show (decide (N[i]? = some x) && (stB S x && okNames N S [j, l] [.Name y py, .Name w pw])) = true from h1)
              obtain ⟨_, b⟩ := and2 b
              obtain ⟨b2, b⟩ := and2 (show (decide (N[j]? = some y) && (stB S y && okNames N S [l] [.Name w pw])) = true from b)
              obtain ⟨_, b⟩ := and2 b
              obtain ⟨b3, _⟩ := and2 (show (decide (N[l]? = some w) && (stB S w && true)) = true from b)
              refine ss_par3 k.bk k.ck.calm hN (by rw [k.ck.hN]; exact of_decide_eq_true b1) (by rw [k.ck.hN]; exact of_decide_eq_true b2) (by rw [k.ck.hN]; exact of_decide_eq_true b3) (of_decide_eq_true a1) (of_decide_eq_true a2) (of_decide_eq_true a3) ?_ ?_ ?_ he.1 ?_
              · rw [k.ck.hsc]; exact of_decide_eq_true a4
              · rw [k.ck.hsc]; exact of_decide_eq_true a5
              · rw [k.ck.hsc]; exact of_decide_eq_true a6
              · rw [k.ck.hsc]; exact z
            · cases z
        | _ => cases h
      | _ => cases h
    | [], h => cases h
    | _ :: _ :: _, h => exact absurd h (by simp [okS])
  | _ => cases h
theorem cS_setI {o i e : CE} {st : Stmt} (h : okS G N S (.setI o i e) st = true) : SS Γ W X st (evS cf (.setI o i e)) := by
  cases st with
  | Assign ts v pos =>
    match ts, h with
    | [t0], h =>
      cases t0 with
      | Subscript a b p =>
        obtain ⟨h1, h⟩ := and2 (show (plainIxB b && (okE G N S o a && (okE G N S i b && okE G N S e v))) = true from h)
        obtain ⟨h2, h⟩ := and2 h
        obtain ⟨h3, h4⟩ := and2 h
        exact ss_setI k.ck.hK k.ck.u64 h1 (sE o k.ck h2) (sE i k.ck h3) (sE e k.ck h4)
      | _ => cases h
    | [], h => cases h
    | _ :: _ :: _, h => exact absurd h (by simp [okS])
  | _ => cases h
theorem cS_aug {i : Nat} {op : Operator} {e : CE} {st : Stmt} (h : okS G N S (.aug i op e) st = true) : SS Γ W X st (evS cf (.aug i op e)) := by
  cases st with
  | AugAssign t0 o v pos =>
    cases t0 with
    | Name x p =>
      obtain ⟨h1, h⟩ := and2 (show (decide (N[i]? = some x) && (stB S x && (decide (o = op) && okE G N S e v))) = true from h)
      obtain ⟨h2, h⟩ := and2 h
      obtain ⟨h3, h4⟩ := and2 h
      have e1 := of_decide_eq_true h3
      subst e1
      exact ss_aug (by rw [k.ck.hN]; exact k.ck.nd) (by rw [k.ck.hN]; exact of_decide_eq_true h1) (k.ck.loc h2) (k.ck.hfn x h2) (sE e k.ck h4)
    | _ => cases h
  | _ => cases h
theorem c_exm {te : Expr} {cs : List Str} {tab : List (Str × Bool)} (h : excB S.sc te cs = true) (F : ExmF X.K X.mg (cs, tab)) : ∀ cl b, tabL tab cl = some b → Catches X te (.ref (He.ga X.K cl)) b := by
  unfold excB at h
  split at h
  · rename_i x p y
    obtain ⟨h1, h⟩ := and2 h
    obtain ⟨h2, h3⟩ := and2 h
    have h1 := of_decide_eq_true h1
    subst h1
    obtain ⟨c, e1, e2⟩ := F
    exact fun cl b t => catches_one (k.ck.gl h2) (plain_of h3).1 e1 (e2 cl b t)
  · rename_i x1 p1 x2 p2 kk pp y1 y2
    obtain ⟨h1, h⟩ := and2 h
    obtain ⟨h2, h⟩ := and2 h
    obtain ⟨h3, h⟩ := and2 h
    obtain ⟨h4, h⟩ := and2 h
    obtain ⟨h5, h6⟩ := and2 h
    have h1 := of_decide_eq_true h1
    have h2 := of_decide_eq_true h2
    subst h1
    subst h2
    obtain ⟨c1, c2, e1, e2, e3⟩ := F
    exact fun cl b t => catches_two (k.ck.gl h3) (plain_of h4).1 e1 (k.ck.gl h5) (plain_of h6).1 e2 (e3 cl b t)
  · cases h
omit k
mutual
theorem sS : ∀ (c : CS) {W : WX} {S : SX} {X : Cx} {st : Stmt}, CB Γ G N cf W S X → okS G N S c st = true → SS Γ W X st (evS cf c)
  | .asg (.nm i) e, W, S, X, st, k, h => cS_nm k h
  | .asg (.tup is) e, W, S, X, st, k, h => cS_tup k h
  | .par is es, W, S, X, st, k, h => cS_par k h
  | .aug i op e, W, S, X, st, k, h => cS_aug k h
  | .setI o i e, W, S, X, st, k, h => cS_setI k h
  | .expr e, W, S, X, st, k, h => by
    cases st with
    | Expr v p =>
      obtain ⟨h1, h2⟩ := and2 (show (!compB v && okE G N S e v) = true from h)
      exact ss_expr (by simpa using h1) (sE e k.ck h2)
    | _ => cases h
  | .ret e, W, S, X, st, k, h => by
    cases st with
    | Return v p =>
      cases v with
      | some v => exact ss_ret (sE e k.ck h)
      | none => cases h
    | _ => cases h
  | .retN, W, S, X, st, k, h => by
    cases st with
    | Return v p =>
      cases v with
      | some v => cases h
      | none => exact ss_retN
    | _ => cases h
  | .ifS c a b, W, S, X, st, k, h => by
    cases st with
    | If t x y p =>
      obtain ⟨h1, h⟩ := and2 (show (okT G N S c t && (okSs G N S a x && okSs G N S b y)) = true from h)
      obtain ⟨h2, h3⟩ := and2 h
      exact ss_if (sT c k.ck h1) (sSs a k h2) (sSs b k h3)
    | _ => cases h
  | .whl c b, W, S, X, st, k, h => by
    cases st with
    | While t x o p =>
      cases o with
      | nil =>
        obtain ⟨h1, h2⟩ := and2 (show (okT G N S c t && okSs G N S b x) = true from h)
        exact ss_while k.own (sT c k.ck h1) (sSs b k h2) wmost
      | cons _ _ => cases h
    | _ => cases h
  | .forS tg it b, W, S, X, st, k, h => by
    cases st with
    | For te ie x o p =>
      cases o with
      | nil =>
        obtain ⟨h1, h⟩ := and2 (show (okTg N S tg te && (okI G N S it te ie && okSs G N S b x)) = true from h)
        obtain ⟨h2, h3⟩ := and2 h
        exact ss_for k.own k.ck.calm (sI it k.ck h2) (c_tg k.ck h1) (sSs b k h3) (fold_of h2 _)
      | cons _ _ => cases h
    | _ => cases h
  | .pass, W, S, X, st, k, h => by
    cases st with
    | Pass p => exact ss_pass
    | Expr v p =>
      cases v with
      | Constant c j q =>
        cases c with
        | str x => exact ss_doc
        | _ => cases h
      | _ => cases h
    | _ => cases h
  | .brk, W, S, X, st, k, h => by
    cases st with
    | Break p => exact ss_brk
    | _ => cases h
  | .cont, W, S, X, st, k, h => by
    cases st with
    | Continue p => exact ss_cont
    | _ => cases h
  | .raise c es, W, S, X, st, k, h => by
    unfold okS at h
    split at h
    · rename_i x p args p2 p3
      obtain ⟨h1, h⟩ := and2 h
      obtain ⟨h2, h⟩ := and2 h
      obtain ⟨h3, h⟩ := and2 h
      obtain ⟨h4, h⟩ := and2 h
      obtain ⟨h5, h6⟩ := and2 h
      have h1 := of_decide_eq_true h1
      subst h1
      obtain ⟨i1, i2⟩ := sEs es k.ck h5
      cases args with
      | nil => cases h6
      | cons a as => exact ss_raise k.ck.hK k.ck.calm k.ck.takes (k.ck.md.exc _ (of_decide_eq_true h4)) (k.ck.gl h2) (plain_of h3).1 i1 i2
    · cases h
  | .tryX b cs tab i j, W, S, X, st, k, h => by
    unfold okS at h
    split at h
    · rename_i x te n y py n' pn pa pe pt
      obtain ⟨h1, h⟩ := and2 h
      obtain ⟨h2, h⟩ := and2 h
      obtain ⟨h3, h⟩ := and2 h
      obtain ⟨h4, h⟩ := and2 h
      obtain ⟨h5, h⟩ := and2 h
      obtain ⟨h6, h⟩ := and2 h
      obtain ⟨h7, h⟩ := and2 h
      obtain ⟨h8, h9⟩ := and2 h
      have h2 := of_decide_eq_true h2
      subst h2
      have hln : X.env.scope.names.lookup n' = some .local := by rw [k.ck.hsc]; exact of_decide_eq_true h4
      exact ss_tryX (ph' := pt) k.ck.hK k.stk k.frm k.exs (by rw [k.ck.hN]; exact k.ck.nd) (by rw [k.ck.hN]; exact of_decide_eq_true h1) (by rw [k.ck.hN]; exact of_decide_eq_true h3) hln (by rw [k.ck.hsc]; exact of_decide_eq_true h5)
        (c_exm k h7 (k.ck.md.exm _ (of_decide_eq_true h8))) k.ck.takes (plain_of h6).1 (plain_of h6).2 fun W' pn xe tk po => sSs b (k.tr tk po) h9
    · cases h
  | .tryN b, W, S, X, st, k, h => by
    unfold okS at h
    split at h
    · exact ss_tryN (sSs b (k.tr takesN (PassesOwn.never)) h)
    · cases h
  | .wall, W, S, X, st, k, h => ss_wall
theorem sSs : ∀ (c : List CS) {W : WX} {S : SX} {X : Cx} {st : List Stmt}, CB Γ G N cf W S X → okSs G N S c st = true → SB Γ W X st (evSs cf c)
  | [], W, S, X, st, k, h => by
    cases st with
    | nil => exact sb_nil
    | cons _ _ => cases h
  | c :: r, W, S, X, st, k, h => by
    cases st with
    | nil => cases h
    | cons s st =>
      obtain ⟨h1, h2⟩ := and2 (show (okS G N S c s && okSs G N S r st) = true from h)
      exact sb_cons (sS c k h1) (sSs r k h2)
end
end
end Rk

set_option Elab.async false
set_option linter.all false
set_option maxRecDepth 100000
set_option maxHeartbeats 2000000
/-! RkT: the defs. -/
namespace Rk
open PySem PySem.Spec L2

section
variable {P : Program} {w : World} {K : PySem.W.Frag} {mg : Str → Option Value} {base : Heap}
theorem FnG.mono {j k : Nat} {f : Addr} {fd : FuncData} {ps : List Str} {sp : Sp} (F : FnG P w K mg base j f fd ps sp) (h : j ≤ k) : FnG P w K mg base k f fd ps sp :=
  ⟨F.len, fun A outer s H args us vs Q E hr => F.run A outer s H args us vs Q E (hr.mono h)⟩
/-- a def by its body: no guard stands about it -/
theorem fnG_of {x qual : Str} {params : Arguments} {body : List Stmt} {scope : Scope} {kws : List (Str × V)} {f : Addr} {fd : FuncData} {N ps : List Str} {sp : Sp} {k : Nat} (F : FunD K x qual params body scope [] kws f fd) (S : FnScope N ps scope)
    (len : ∀ vs H Q E, sp vs H Q E → vs.length = ps.length)
    (go : ∀ (cdv : Value) (A : Around) (outer : List Env) (s : Shared) (H : Hp) (vs : List V) (Q : VK) (E : XK), fd.code = cdv → Room k (A.deeper (PyProof.Rows.envOfC qual scope s.heap.objs.size f cdv)) → A.guards = some [] → Mod K mg base → sp vs H Q E →
      ∃ t, PSs (cxOf (L2.CX P w) P w K mg base N qual scope f cdv A outer s H E) body t ∧ t { nx := fun _ H' => Q .non H', rt := Q } (start N vs) H) : FnG P w K mg base (k + 1) f fd ps sp := by
  obtain ⟨oc, od, dV, kV, doc, pm, an, cdv, ct, osl, rfl, lk, hcd, -, -⟩ := F.ex
  refine ⟨len, fun A outer s H args us vs Q E room gd e0 hb r hsp => ?_⟩
  have inK : K.In s.heap := e0.mod.kin.keeps fun b o e => (e0.bs b o e).1
  have nol : s.heap.NoLimit := e0.mod.nolimit.keeps fun b o e => (e0.bs b o e).1
  have pars : ∀ y ∈ ps.zip us, scope.names.lookup y.1 = some .local ∨ (scope.names.lookup y.1 = some .cell ∧ ((cellsFrom (s.heap.objs.size + 1) scope.names []).lookup y.1).isSome = true) := by
    rintro ⟨n, v⟩ hy
    cases S.par n (List.of_mem_zip hy).1 with
    | inl q => exact .inl q
    | inr q => exact .inr ⟨q, PySem.W.cellsFrom_some _ _ _ (.inl q)⟩
  refine codeAny_call_function room.depth (inK _ _ lk) rfl S.co S.gen rfl (PySem.W.codeRec_of inK hcd) (hb _ _ _ _ (wpAny_newFunctionEnv_cells S.kind pars fun env he s1 x => ?_))
  subst he
  refine ⟨nol.keeps x.toInCall.keep, codeAny_func ?_⟩
  obtain ⟨t, h1, h2⟩ := go cdv A outer s H vs Q E rfl (room.deeper _) gd e0.mod hsp
  refine wpAny_mono (h1.run [] s1 (start N vs) H _ (inv_start S room.hd e0 (len _ _ _ _ hsp) r x) h2) (fun fl s' hs => ?_) fun e s' hs => hs
  cases fl with
  | next =>
    obtain ⟨_, H', J, q⟩ := hs
    exact ⟨.non, H', J.os, J.bare, J.base, J.hok, rfl, q⟩
  | ret u =>
    obtain ⟨v, _, H', J, rv, q⟩ := hs
    exact ⟨v, H', J.os, J.bare, J.base, J.hok, rv, q⟩
  | brk =>
    obtain ⟨_, _, _, q⟩ := hs
    exact q.elim
  | cont =>
    obtain ⟨_, _, _, q⟩ := hs
    exact q.elim
end

/-! ### all of a text's defs -/
/-- a def's code is its text -/
def okD (G : GS) (d : FD) (st : Stmt) : Bool := C8.scC d.N d.ps (defScope st) && okSs G d.N ⟨defScope st, none, d.lm⟩ d.body (defBody st)
theorem loR_start {Γ : GI} {ρ : Rz} {H : Hp} {d : FD} {vs : List V} {ps : List PV} (h : DenL Γ.K ρ H vs ps) : LoR Γ.K ρ H (start d.N vs) (startL d ps) := by
  have hl := h.length
  refine ⟨by show (vs.map some ++ List.replicate _ none).length = (ps.map some ++ List.replicate _ none).length; simp [hl], fun i v q => ?_⟩
  have q : (ps.map some ++ List.replicate (d.N.length - ps.length) none)[i]? = some (some v) := q
  have hi : i < ps.length := by
    by_cases hi : i < ps.length
    · exact hi
    · rw [List.getElem?_append_right (by simpa using hi), List.getElem?_replicate] at q
      split at q <;> cases q
  rw [List.getElem?_append_left (by simpa using hi), List.getElem?_map] at q
  cases e : ps[i]? with
  | none => rw [e] at q; cases q
  | some p =>
    rw [e] at q
    cases q
    obtain ⟨x, e2, dx⟩ := h.get e
    refine ⟨x, ?_, dx⟩
    show (vs.map some ++ List.replicate (d.N.length - vs.length) none)[i]? = some (some x)
    rw [List.getElem?_append_left (by rw [List.length_map, hl]; exact hi), List.getElem?_map, e2]
    rfl
/-- what a text's defs are in the module -/
structure Mo (Γ : GI) (G : GS) (mg : Str → Option Value) (base : Heap) : Prop where
  defs : ∀ (f : Nat) (d : FD), G.defs[f]? = some d → ∃ st fa fd, mg d.gname = some (.ref fa) ∧ FunD Γ.K d.gname d.gname (defArgs st) (defBody st) (defScope st) [] [] fa fd ∧ Binds Γ.K fd d.ps [] ∧ okD G d st = true ∧ (∀ n nks pm, (f, n, nks, pm) ∈ G.kws → KB Γ.K fd d.ps n nks pm) ∧
    (d.lm = true → ∃ c P, fd.code = .ref c ∧ LamX.TabB base mg c P ∧ (P, d.gname ++ ".<locals>." ++ "<lambda>") ∈ Γ.T ∧ ∀ p ∈ Γ.T, p.1 = P → p.2 = d.gname ++ ".<locals>." ++ "<lambda>")
  free : ∀ x ∈ G.free, mg x = none
  consts : ∀ p ∈ G.consts, ∃ u x, mg p.1 = some u ∧ RelV x u ∧ ∀ ρ H, Den Γ.K ρ H x p.2.pv
  md : ModF Γ.K mg G
theorem post_fin {Γ : GI} {W : PX → Rz → Hp → Prop} {ρ : Rz} {H : Hp} {Q : VK} {r : RS} (h : Post Γ W ρ H (Qv Γ Q) r.fin) {W' : WX} (hw : ∀ e ρ' H', W e ρ' H' → ∀ σ', wx Γ W' σ' e ρ' H') : PostS Γ W' { nx := fun _ H' => Q .non H', rt := Q } ρ H r := by
  cases r with
  | next L h' => exact fun ρ' H' σ' ex hr _ => h ρ' H' ex hr .non .non
  | ret v h' => exact fun ρ' H' x ex hr dx => h ρ' H' ex hr x dx
  | exc e L h' => exact fun ρ' H' σ' ex hr _ => hw _ _ _ (h ρ' H' ex hr) σ'
  | brk L h' => exact h.elim
  | cont L h' => exact h.elim
  | stuck => exact h.elim
theorem post_def {Γ : GI} {d : FD} {ρ : Rz} {H : Hp} {Q : VK} {E : XK} {G : List FD} {n f : Nat} {ps : List PV} {ph : PH} (hd : G[f]? = some d)
    (h : Post Γ (fun e ρ' H' => ∀ cls dd, XR Γ ρ' H' e cls dd → E cls dd H') ρ H (Qv Γ Q) ((cfN G (n + 1)).call f ps ph)) :
    ps.length = d.ps.length ∧ PostS Γ (fun cls dd _ H => E cls dd H) { nx := fun _ H' => Q .non H', rt := Q } ρ H (evSs (cfN G n) d.body (startL d ps) ph) := by
  have h : Post Γ (fun e ρ' H' => ∀ cls dd, XR Γ ρ' H' e cls dd → E cls dd H') ρ H (Qv Γ Q) (match G[f]? with
      | some d => if ps.length = d.ps.length then (evSs (cfN G n) d.body (startL d ps) ph).fin else .stuck
      | none => .stuck) := h
  rw [hd] at h
  obtain ⟨hl, h⟩ := post_if h
  exact ⟨hl, post_fin h fun _ _ _ w _ => w⟩
/-- the function object that stands at an address of the written part -/
def FnAt (K : PySem.W.Frag) (fa : Addr) (fd : FuncData) : Prop := ∃ o, K.lookup fa = some o ∧ o.data = .func fd
theorem FnAt.eq {K : PySem.W.Frag} {fa : Addr} {fd fd' : FuncData} (h : FnAt K fa fd) (h' : FnAt K fa fd') : fd = fd' := by
  obtain ⟨o, e, d⟩ := h
  obtain ⟨o', e', d'⟩ := h'
  rw [e] at e'
  cases e'
  rw [d] at d'
  cases d'
  rfl
theorem fnAt_of {K : PySem.W.Frag} {x qual : Str} {params : Arguments} {body : List Stmt} {scope : Scope} {dvs : List V} {kws : List (Str × V)} {f : Addr} {fd : FuncData} (F : FunD K x qual params body scope dvs kws f fd) : FnAt K f fd := by
  obtain ⟨_, _, _, _, _, _, _, _, _, _, _, lk, _⟩ := F.ex
  exact ⟨_, lk, rfl⟩
theorem cfN_lv (G : List FD) (n : Nat) : (cfN G n).lv = 3 * n := by cases n <;> rfl
theorem cfN_act (G : List FD) (n : Nat) (f c : Nat) (q : Str) : (cfN G n).act f c q = M.stuck := by cases n <;> rfl
theorem act_stuck (G : List FD) (n i : Nat) (L : Lo) (h : PH) : actE (cfN G n) i L h = .stuck := by
  unfold actE
  split
  · unfold actV
    split
    · rw [cfN_act]
      rfl
    · rfl
  · rfl
theorem se_of_stuck {Γ : GI} {W : WX} {X : Cx} {e : Expr} {f : Lo → M PV} (h : ∀ L h, f L h = .stuck) : SE Γ W X e f := ⟨fun _ _ _ _ _ _ ⟨ρ, ph, L, _, _, z⟩ => by
  have z : Post Γ _ _ _ _ (f L ph) := z
  rw [h] at z
  exact z.elim⟩
/-- with what besides a def's body is walked that got a lambda -/
def GI.lam (Γ : GI) (σ0 : L2.St) (L : Lo) : GI where
  K := Γ.K
  cls := Γ.cls
  T := Γ.T
  inv := fun ρ H => Γ.inv ρ H ∧ LoR Γ.K ρ H σ0 L
  mov := fun ρ H ρ' H' e h => ⟨Γ.mov ρ H ρ' H' e h.1, loR_mov e h.2⟩
section
variable {Γ : GI} {σ0 : L2.St} {L0 : Lo} {ρ : Rz} {H : Hp} {ph : PH}
theorem obR_to {Γ Γ' : GI} (hK : Γ'.K = Γ.K) (hc : Γ'.cls = Γ.cls) {a : Addr} {o : PO} (h : ObR Γ ρ H a o) : ObR Γ' ρ H a o := by
  cases h with
  | lst h r => exact .lst h (hK ▸ r)
  | dct h r => exact .dct h (hK ▸ r)
  | dctL h r => exact .dctL h (hK ▸ r)
  | ins h r => exact .ins (by rw [hc]; exact h) (hK ▸ r)
theorem HR.lamTo (h : HR Γ ρ H ph) (lo : LoR Γ.K ρ H σ0 L0) : HR (Γ.lam σ0 L0) ρ H ph := ⟨h.len, h.nd, fun n a o e1 e2 => obR_to (Γ := Γ) (Γ' := Γ.lam σ0 L0) rfl rfl (h.ob n a o e1 e2), h.zo, h.tb, h.fr, lo⟩
theorem HR.lamOf (h : HR (Γ.lam σ0 L0) ρ H ph) : HR Γ ρ H ph ∧ LoR Γ.K ρ H σ0 L0 := ⟨⟨h.len, h.nd, fun n a o e1 e2 => obR_to (Γ := Γ.lam σ0 L0) (Γ' := Γ) rfl rfl (h.ob n a o e1 e2), h.zo, h.tb, h.fr.1⟩, h.fr.2⟩
/-- code objects, tables that grew: all stands -/
theorem HR.grown {T : List (Addr × Str)} {P : Addr} {q : Str} {c' : Addr} {H1 : Hp} (h : HR Γ ρ H ph) (g : Grown T P q c' H H1) (t : LamX.Tabs Γ.T H1) : HR Γ ρ H1 ph ∧ Ext ρ H ρ H1 := by
  cases g with
  | hit e => exact ⟨h, Ext.refl _ _⟩
  | @new ps more e n =>
    have k : ∀ b o, H b = some o → (∀ ps, o ≠ .tbl ps) → upd (upd H P (.tbl (ps ++ more))) c' (LamX.CodeO c' q) b = some o := fun b o hb nt => by
      rw [upd_ne (ne_of_none hb n), upd_ne fun z => nt ps (Option.some.inj (hb.symm.trans (by rw [z]; exact e)))]
      exact hb
    have mv : Mov ρ H ρ (upd (upd H P (.tbl (ps ++ more))) c' (LamX.CodeO c' q)) := ⟨fun _ _ z => z, fun _ _ _ z => z, fun b o hb _ nt => k b o hb nt⟩
    have ex : Ext ρ H ρ (upd (upd H P (.tbl (ps ++ more))) c' (LamX.CodeO c' q)) := by
      refine ⟨⟨[], by simp⟩, rfl, fun b o hb _ nt => k b o hb nt, fun b qs hb _ => ?_, fun a m z => absurd m z⟩
      rw [upd_ne (ne_of_none hb n)]
      by_cases z : b = P
      · subst z
        rw [e] at hb
        cases hb
        exact ⟨more, upd_same⟩
      · rw [upd_ne z]
        exact ⟨#[], by simpa using hb⟩
    refine ⟨⟨h.len, h.nd, fun i a o e1 e2 => ?_, fun a m => ?_, t, Γ.mov _ _ _ _ mv h.fr⟩, ex⟩
    · obtain ⟨u, q1, q2⟩ := (h.ob i a o e1 e2).is
      exact (h.ob i a o e1 e2).ext ex ((k a u q1 q2).trans q1.symm)
    · obtain ⟨z1, o, z2, z3⟩ := h.zo a m
      exact ⟨z1, o, k a o z2 z3.1, z3⟩
theorem HR.ext_out {c : Addr} {f : Heap → Prop} (h : HR Γ ρ H ph) (e : H c = some (.ext f)) : c ∉ ρ := by
  intro m
  rcases m with m | m
  · obtain ⟨u, e1, e2⟩ := h.isP m
    rw [e] at e1
    cases e1
    exact e2.2 f rfl
  · obtain ⟨_, u, e1, e2⟩ := h.zo c m
    rw [e] at e1
    cases e1
    exact e2.2 f rfl
theorem HR.code_out {c : Addr} {q : Str} (h : HR Γ ρ H ph) (e : H c = some (LamX.CodeO c q)) : c ∉ ρ := h.ext_out e
end
end Rk

set_option Elab.async false
set_option linter.all false
set_option maxRecDepth 100000
set_option maxHeartbeats 1000000
/-! RkT2: the defs, and those that get a lambda. -/
namespace Rk
open PySem PySem.Spec L2
open PyProof.Rows (envOfC)

section
variable {G : GS}
/-- every def does what the code does -/
def AllF (G : GS) (P : Program) (w : World) (mg : Str → Option Value) (base : Heap) (Γ : GI) (n : Nat) : Prop := ∀ f d, G.defs[f]? = some d →
  ∃ fa fd, mg d.gname = some (.ref fa) ∧ FnAt Γ.K fa fd ∧ PySem.W.keepIn Γ.K (.ref fa) = true ∧ Binds Γ.K fd d.ps [] ∧ FnG P w Γ.K mg base (3 * n) fa fd d.ps (spD Γ ((cfN G.defs n).call f))
/-- a def's own table of code objects -/
def TabOf (Γ : GI) (mg : Str → Option Value) (base : Heap) (code : Value) (q : Str) : Prop := ∃ c P, code = .ref c ∧ LamX.TabB base mg c P ∧ (P, q ++ "<lambda>") ∈ Γ.T ∧ ∀ p ∈ Γ.T, p.1 = P → p.2 = q ++ "<lambda>"
def AllL (G : GS) (Γ : GI) (n : Nat) (X : Cx) : Prop := X.K = Γ.K → X.A.guards = some [] → Room (3 * n + 2) X.A → TabOf Γ X.mg X.base X.env.code X.env.qual → ∀ (N : List Str) (W : WX) (S : SX), LamR Γ G N (cfN G.defs n) W S X
theorem Mo.lam {Γ : GI} {mg : Str → Option Value} {base : Heap} (M : Mo Γ G mg base) (σ0 : L2.St) (L : Lo) : Mo (Γ.lam σ0 L) G mg base :=
  ⟨fun f d h => M.defs f d h, M.free, fun p h => M.consts p h, M.md⟩
theorem post_lam {Γ : GI} {σ0 : L2.St} {L : Lo} {α : Type} {W : PX → Rz → Hp → Prop} {ρ : Rz} {H : Hp} {Q : α → Rz → Hp → PH → Prop} : ∀ {r : R α}, Post Γ W ρ H Q r → Post (Γ.lam σ0 L) W ρ H Q r
  | .ok _ _, h => fun ρ' H' x hr => h ρ' H' x hr.lamOf.1
  | .exc _ _, h => fun ρ' H' x hr => h ρ' H' x hr.lamOf.1
theorem cb_of {Γ : GI} {X : Cx} {W : WX} {n : Nat} {N : List Str} {sc : Scope} {lm : Bool} {cf : CF} (M : Mo Γ G X.mg X.base) (nd : N.Nodup) (hN : X.N = N) (hK : X.K = Γ.K) (calm : X.calm = true) (gd : X.A.guards = some []) (room : Room (3 * n) X.A) (tk : Takes X W) (hsc : X.env.scope = sc)
    (hfn : ∀ x, X.fn x = true) (F : AllF G X.prog X.w X.mg X.base Γ n) (hcall : cf.call = (cfN G.defs n).call) (hlv : cf.lv = 3 * n)
    (acts : ∀ (i : Nat) (x : Str) (p1 p2 : Pos), N[i]? = some x → visB sc x = true → plainB x = true → ∀ (pn : List (Addr × Obj)) (xe : Value → Shared → Prop) (W' : WX), Takes (X.tr pn xe) W' → SE Γ W' (X.tr pn xe) (.Call (.Name x p1) [] [] p2) (actE cf i))
    (act0 : ∀ (i : Nat) (x : Str) (p1 p2 : Pos), N[i]? = some x → visB sc x = true → plainB x = true → SE Γ W X (.Call (.Name x p1) [] [] p2) (actE cf i))
    (lams : lm = true → LamR Γ G N cf W ⟨sc, none, lm⟩ X) (bk : X.env.blockKind = .function) (own : PassesOwn (model X.prog X.w) X.A X.env X.xe) (stk : X.stack = X.env :: X.outer) (frm : X.env.frame = some X.env.locals) (exs : X.ex = []) :
    CB Γ G N cf W ⟨sc, none, lm⟩ X where
  ck := {
    hN := hN
    nd := nd
    hK := hK
    calm := calm
    gd := gd
    un := by
      have := room.un
      omega
    takes := tk
    hsc := hsc
    hfn := fun x _ => .inl (hfn x)
    free := M.free
    consts := M.consts
    fns := fun f d e => by
      obtain ⟨fa', fd', q1, q2, q3, q4, q5⟩ := F f d e
      obtain ⟨st', fa2, fd2, r1, r2, r3, r4, r5, _⟩ := M.defs f d e
      have e1 : fa2 = fa' := by
        rw [q1] at r1
        cases r1
        rfl
      subst e1
      have e2 := q2.eq (fnAt_of r2)
      subst e2
      rw [hlv, hK, hcall]
      exact ⟨fa2, fd', q1, q3, q4, room, q5, r5⟩
    md := by
      rw [hK]
      exact M.md
    acts := fun _ i x p1 p2 e1 e2 e3 pn xe W' tk => acts i x p1 p2 e1 e2 e3 pn xe W' tk
    act0 := fun _ i x p1 p2 e1 e2 e3 => act0 i x p1 p2 e1 e2 e3
    lams := lams }
  bk := bk
  own := own
  stk := stk
  frm := frm
  exs := exs
theorem lam_ok {Γ : GI} {n : Nat} {X : Cx} (M : Mo Γ G X.mg X.base) (F : ∀ σ0 L, AllF G X.prog X.w X.mg X.base (Γ.lam σ0 L) n) (LL : ∀ σ0 L X', X'.mg = X.mg → X'.base = X.base → X'.prog = X.prog → X'.w = X.w → AllL G (Γ.lam σ0 L) n X') : AllL G Γ (n + 1) X := by
  have hm1 : 3 * n ≤ 3 * (n + 1) + 1 := by omega
  have hm2 : 3 * n + 2 ≤ 3 * (n + 1) + 1 := by omega
  intro hK hgd room ⟨c, P, hcode, B, mT, uT⟩ N W S f d m b scope p lpos pos hd hdb gl hL hbody
  by_cases hps : d.ps.length = 1
  · obtain ⟨a, ha⟩ : ∃ a, d.ps = [a] := by
      match hq : d.ps, hps with
      | [a], _ => exact ⟨a, rfl⟩
    obtain ⟨st, fa, fd, h1, Fd, bnd, ok, _, lmT⟩ := M.defs f d hd
    obtain ⟨ok1, ok2⟩ := and2 (show (C8.scC d.N d.ps (defScope st) && okSs G d.N ⟨defScope st, none, d.lm⟩ d.body (defBody st)) = true from ok)
    have hS : FnScope d.N d.ps (defScope st) := C8.fnScope_by ok1
    have hkp := Fd.kp
    obtain ⟨oc, od, dV, kV, doc, pm, an, cdv, ct, osl, rfl, lk, hcg, -, -⟩ := Fd.ex
    let run : Nat × Nat × Str → Lo → PH → R PV := fun k L ph => (evSs { cfN G.defs n with act := actOf k (m L) } d.body (startL d [.clo k.1 [.int k.2.1, .str k.2.2]]) ph).fin
    let TT : Addr → Addr → (XK → Hp → VK → Prop) → Hp → VK → Prop := fun f' c' tl H1 Q => ∃ (ρ : Rz) (ph : PH) (L : Lo) (σ0 : L2.St), HR Γ ρ H1 ph ∧ LoR Γ.K ρ H1 σ0 L ∧ tl = (fun E H' Q' => RdE Γ (fun cls dd _ H => E cls dd H) m σ0 H' Q') ∧
      Post Γ W0 ρ H1 (Qv Γ Q) (run (f', c', X.env.qual ++ "<lambda>") L ph)
    have hG : Gives X (3 * (n + 1)) d.N d.gname (defScope st) fa cdv (defBody st) (X.env.qual ++ "<lambda>") TT := by
      intro f' c' s H Q tl act rm hco ⟨ρ, ph, L, σ0, hr, lo, etl, po⟩
      subst etl
      refine ⟨RdS (Γ.lam σ0 L) WN (evSs { cfN G.defs n with act := actOf (f', c', X.env.qual ++ "<lambda>") (m L) } d.body), sSs d.body ?_ ok2, ?_⟩
      · have M' := M.lam σ0 L
        have acts : ∀ (i : Nat) (x : Str) (p1 p2 : Pos), d.N[i]? = some x → visB (defScope st) x = true → plainB x = true → ∀ (pn : List (Addr × Obj)) (xe : Value → Shared → Prop) (W' : WX),
            Takes ((cxOf C8.CX0 X.prog X.w X.K X.mg X.base d.N d.gname (defScope st) fa cdv X.A X.stack s H C8.E0).tr pn xe) W' →
            SE (Γ.lam σ0 L) W' ((cxOf C8.CX0 X.prog X.w X.K X.mg X.base d.N d.gname (defScope st) fa cdv X.A X.stack s H C8.E0).tr pn xe) (.Call (.Name x p1) [] [] p2) (actE { cfN G.defs n with act := actOf (f', c', X.env.qual ++ "<lambda>") (m L) } i) := by
          intro i x p1 p2 e1 e2 e3 pn xe W' tk
          have vis : Vis (defScope st) x := by
            unfold visB at e2
            split at e2
            · rename_i q
              exact .inl q
            · rename_i q
              exact .inr (.inl q)
            · rename_i q
              exact .inr (.inr q)
            · cases e2
          refine PE_imp (act W' pn xe i x p1 p2 e1 vis (plain_of e3).1 (plain_of e3).2 tk) fun σ1 H1 Q1 g => ?_
          obtain ⟨ρ1, ph1, L1, hr1, lo1, po1⟩ := g
          have po1 : Post (Γ.lam σ0 L) (wx (Γ.lam σ0 L) W' σ1) ρ1 H1 (Qv (Γ.lam σ0 L) Q1) (match L1[i]? with
            | some (some v) => actV { cfN G.defs n with act := actOf (f', c', X.env.qual ++ "<lambda>") (m L) } v ph1
            | _ => .stuck) := po1
          split at po1
          · rename_i v ev
            obtain ⟨x1, h2, h3⟩ := lo1.2 i v ev
            unfold actV at po1
            split at po1
            · rename_i f2 c2 q2
              have po1 : Post (Γ.lam σ0 L) (wx (Γ.lam σ0 L) W' σ1) ρ1 H1 (Qv (Γ.lam σ0 L) Q1) ((if (f2, c2.toNat, q2) = (f', c', X.env.qual ++ "<lambda>") then m L else Rk.M.stuck) ph1) := po1
              by_cases e : (f2, c2.toNat, q2) = (f', c', X.env.qual ++ "<lambda>")
              · rw [if_pos e] at po1
                have g1 : f2 = f' := congrArg (fun z : Nat × Nat × Str => z.1) e
                have g2 : c2.toNat = c' := congrArg (fun z : Nat × Nat × Str => z.2.1) e
                have g3 : q2 = X.env.qual ++ "<lambda>" := congrArg (fun z : Nat × Nat × Str => z.2.2) e
                obtain ⟨hr2, lo2⟩ := hr1.lamOf
                have key : x1 = .ref f' ∧ H1 c' = some (LamX.CodeO c' (X.env.qual ++ "<lambda>")) := by
                  subst g1 g3
                  cases h3 with
                  | clo hc _ =>
                    have e2 : ((_ : Nat) : Int).toNat = c' := g2
                    rw [Int.toNat_natCast] at e2
                    subst e2
                    exact ⟨rfl, hc⟩
                obtain ⟨k1, k2⟩ := key
                subst k1
                refine ⟨h2, k2, fun cls dd H' => W' cls dd σ1 H', fun _ _ _ z => z, ρ1, ph1, L, hr2, lo2, ?_⟩
                cases em : m L ph1 with
                | ok v2 h' =>
                  rw [em] at po1
                  exact fun ρ' H' ex hr' => po1 ρ' H' ex (hr'.lamTo (lo2.ext ex))
                | exc e2 h' =>
                  rw [em] at po1
                  exact fun ρ' H' ex hr' => po1 ρ' H' ex (hr'.lamTo (lo2.ext ex))
                | stuck =>
                  rw [em] at po1
                  exact po1.elim
              · rw [if_neg e] at po1
                exact po1.elim
            · exact po1.elim
          · exact po1.elim
        have r1 : Room (3 * n) (X.A.deeper (envOfC d.gname (defScope st) s.heap.objs.size fa cdv)) := rm.mono hm1
        have r2 : Room (3 * n + 2) (X.A.deeper (envOfC d.gname (defScope st) s.heap.objs.size fa cdv)) := rm.mono hm2
        have hl : d.lm = true → LamR (Γ.lam σ0 L) G d.N (cfN G.defs n) WN ⟨defScope st, none, d.lm⟩ ((cxOf C8.CX0 X.prog X.w X.K X.mg X.base d.N d.gname (defScope st) fa cdv X.A X.stack s H C8.E0).nox) := fun z => by
          have l := LL σ0 L ((cxOf C8.CX0 X.prog X.w X.K X.mg X.base d.N d.gname (defScope st) fa cdv X.A X.stack s H C8.E0).nox) rfl rfl rfl rfl
          unfold AllL at l
          have l2 := l hK hgd r2
          have tb : TabOf (Γ.lam σ0 L) X.mg X.base cdv (d.gname ++ ".<locals>.") := lmT z
          exact l2 tb d.N WN ⟨defScope st, none, d.lm⟩
        exact cb_of (Γ := Γ.lam σ0 L) (X := (cxOf C8.CX0 X.prog X.w X.K X.mg X.base d.N d.gname (defScope st) fa cdv X.A X.stack s H C8.E0).nox) (n := n) M' hS.nd rfl hK rfl hgd r1 takesN rfl (fun _ => rfl) (F σ0 L) rfl (cfN_lv _ _)
          (fun i x p1 p2 e1 e2 e3 pn xe W' tk => acts i x p1 p2 e1 e2 e3 pn xe W' tk) (fun i x p1 p2 e1 e2 e3 => acts i x p1 p2 e1 e2 e3 _ _ WN takesN)
          hl
          (by
            show (if (defScope st).kind.isAnnotationScope then ScopeKind.function else (defScope st).kind) = .function
            rw [hS.kind]
            rfl) PassesOwn.never rfl rfl rfl
      · refine ⟨ρ, ph, startL d [.clo f' [.int c', .str (X.env.qual ++ "<lambda>")]], hr.lamTo lo, loR_start (.cons (.clo hco (hr.code_out hco)) .nil), ?_⟩
        exact post_fin (W := W0) (post_lam po) fun _ _ _ z => z.elim
    refine PE_imp (pe_lamS (T := Γ.T) (TT := TT) (a := a) (Ng := d.N) (k := 3 * (n + 1)) (t := fun E => RdE Γ (fun cls dd _ H => E cls dd H) m) gl h1 (by rw [hK]; exact hkp) hgd (by rw [hK]; exact lk) (by rw [hK]; exact hcg) (by rw [hK, ← ha]; exact bnd) (by rw [← ha]; exact hS) hG B hcode mT uT room hL rfl (fun _ _ _ _ _ => rfl)
      (fun A outer s H E f c' r g => hbody A outer s H E f c' (by rw [cfN_lv]; exact r) g) hdb) fun σ H Q h => ?_
    obtain ⟨ρ, ph, L, hr, lo, po⟩ := h
    refine ⟨hr.tb, fun H1 f' c' g T1 hc => ?_⟩
    obtain ⟨hr1, ex⟩ := hr.grown g T1
    refine ⟨ρ, ph, L, σ, hr1, lo.ext ex, rfl, ?_⟩
    have e0 : (cfN G.defs (n + 1)).lam f (m L) ph = allR (fun k => run k L ph) (0, 0, "") := by
      show (match G.defs[f]? with
        | some d => if d.ps.length = 1 then allR (fun k => (evSs { cfN G.defs n with act := actOf k (m L) } d.body (startL d [.clo k.1 [.int k.2.1, .str k.2.2]]) ph).fin) (0, 0, "") else .stuck
        | none => .stuck) = _
      rw [hd]
      exact if_pos hps
    have po : Post Γ (wx Γ W σ) ρ H (Qv Γ Q) (noX ((cfN G.defs (n + 1)).lam f (m L)) ph) := po
    unfold noX at po
    rw [e0] at po
    cases ea : allR (fun k => run k L ph) (0, 0, "") with
    | ok v h' =>
      rw [ea] at po
      have := allR_of (by rw [ea]; exact fun z => nomatch z) (f', c', X.env.qual ++ "<lambda>")
      rw [ea] at this
      rw [this]
      exact po.from ex
    | exc e h' =>
      rw [ea] at po
      exact po.elim
    | stuck =>
      rw [ea] at po
      exact po.elim
  · refine se_of_stuck fun L h => ?_
    have e0 : (cfN G.defs (n + 1)).lam f (m L) h = .stuck := by
      show (match G.defs[f]? with
        | some d => if d.ps.length = 1 then allR (fun k => (evSs { cfN G.defs n with act := actOf k (m L) } d.body (startL d [.clo k.1 [.int k.2.1, .str k.2.2]]) h).fin) (0, 0, "") else .stuck
        | none => .stuck) = _
      rw [hd]
      exact if_neg hps
    unfold noX
    rw [e0]
/-- every def keeps its promise, however deep the calls go -/
theorem all_ok : ∀ (n : Nat) (Γ : GI) (mg : Str → Option Value) (base : Heap), Mo Γ G mg base → (∀ P w, AllF G P w mg base Γ n) ∧ ∀ X : Cx, X.mg = mg → X.base = base → AllL G Γ n X
  | 0, Γ, mg, base, M => by
    refine ⟨fun P w f d hd => ?_, fun X _ _ _ _ _ _ N W S f d m b scope p lpos pos _ _ _ _ _ => ?_⟩
    · obtain ⟨st, fa, fd, h1, F, b, _⟩ := M.defs f d hd
      exact ⟨fa, fd, h1, fnAt_of F, F.kp, b, fun _ _ _ _ ⟨_, _, _, _, _, z⟩ => z.elim, fun _ _ _ _ _ _ _ _ _ _ _ _ _ _ ⟨_, _, _, _, _, z⟩ => z.elim⟩
    · exact se_of_stuck fun L h => rfl
  | n + 1, Γ, mg, base, M => by
    refine ⟨fun P w f d hd => ?_, fun X e1 e2 => ?_⟩
    · obtain ⟨st, fa, fd, h1, F, b, ok, _, lmT⟩ := M.defs f d hd
      obtain ⟨o1, o2⟩ := and2 (show (C8.scC d.N d.ps (defScope st) && okSs G d.N ⟨defScope st, none, d.lm⟩ d.body (defBody st)) = true from ok)
      have S : FnScope d.N d.ps (defScope st) := C8.fnScope_by o1
      obtain ⟨iF, iL⟩ := all_ok n Γ mg base M
      have hm : 3 * n ≤ 3 * n + 2 := by omega
      refine ⟨fa, fd, h1, fnAt_of F, F.kp, b, fnG_of (k := 3 * n + 2) F S (fun vs H Q E ⟨ρ, ph, ps, hr, dl, po⟩ => ?_) fun cdv A outer s H vs Q E ec room gd _ ⟨ρ, ph, ps, hr, dl, po⟩ => ?_⟩
      · rw [dl.length]
        exact (post_def hd po).1
      · have tb : d.lm = true → TabOf Γ mg base cdv (d.gname ++ ".<locals>.") := fun z => by
          rw [← ec]
          exact lmT z
        have r1 : Room (3 * n) (A.deeper (envOfC d.gname (defScope st) s.heap.objs.size fa cdv)) := room.mono hm
        have hl : d.lm = true → LamR Γ G d.N (cfN G.defs n) (fun cls dd _ H => E cls dd H) ⟨defScope st, none, d.lm⟩ (cxOf (L2.CX P w) P w Γ.K mg base d.N d.gname (defScope st) fa cdv A outer s H E) := fun z => by
          have l := iL (cxOf (L2.CX P w) P w Γ.K mg base d.N d.gname (defScope st) fa cdv A outer s H E) rfl rfl
          unfold AllL at l
          exact l rfl gd room (tb z) d.N _ _
        have ck := cb_of (Γ := Γ) (G := G) (X := cxOf (L2.CX P w) P w Γ.K mg base d.N d.gname (defScope st) fa cdv A outer s H E) (W := fun cls dd _ H => E cls dd H) (n := n) (cf := cfN G.defs n) (sc := defScope st) (lm := d.lm) M S.nd rfl rfl rfl gd r1 (takes_of rfl rfl rfl rfl) rfl (fun _ => rfl) (iF P w) rfl (cfN_lv _ _)
          (fun i x p1 p2 _ _ _ pn xe W' _ => se_of_stuck (act_stuck G.defs n i)) (fun i x p1 p2 _ _ _ => se_of_stuck (act_stuck G.defs n i)) hl
          (by
            show (if (defScope st).kind.isAnnotationScope then ScopeKind.function else (defScope st).kind) = .function
            rw [S.kind]
            rfl) (passes_of rfl) rfl rfl rfl
        exact ⟨_, sSs d.body ck o2, ρ, ph, startL d ps, hr, loR_start dl, (post_def hd po).2⟩
    · subst e1 e2
      exact lam_ok M (fun σ0 L => (all_ok n (Γ.lam σ0 L) X.mg X.base (M.lam σ0 L)).1 X.prog X.w) fun σ0 L X' f1 f2 _ _ => (all_ok n (Γ.lam σ0 L) X.mg X.base (M.lam σ0 L)).2 X' f1 f2
end
end Rk

set_option Elab.async false
set_option linter.all false
set_option maxRecDepth 100000
set_option maxHeartbeats 2000000
/-! RkU2: the end of a law, tables of code objects among what is known. -/
namespace Rk
open PySem PySem.Spec L2

/-- the tables of cs, by their addresses -/
def TbAt (cs : List (Addr × Addr)) (b : Addr) : Prop := ∃ p ∈ cs, b = p.2
section
variable {P : Program} {w : World} {K : PySem.W.Frag} {mg mb : Str → Option Value} {n k : Nat} {fa a : Addr} {fd : FuncData} {x : Str} {sp : Sp} {t : Shared} {vs : List Value} {ns : List Int} {cs : List (Addr × Addr)}
/-- what is wanted of the law's call -/
abbrev Yes2 (t : Shared) : Result → Shared → Prop := fun r s' => r = .ok (.ret (.bool true)) ∧ OldK t.heap s'.heap ∧ s'.os = t.os ∧ PyProof.Rows.AllBare s'.gens
theorem noCX2 {H : Hp} {s : Shared} {e : Value} {s' : Shared} (h : L2.CX P w [] H s (fun _ _ _ => False) e s') : False := by
  obtain ⟨_, _, _, _, _, _, _, _, _, _, _, _, z⟩ := h
  exact z
theorem end_coreT (KX : K.In t.heap) (hns : t.heap.Ns mainGlobals mg) (hb : t.heap.Ns builtinsNs mb) (hbb : ∀ x : Str, x ≠ "__name__" → mb x = bootBuiltins x) (hlim : t.heap.NoLimit) (hg : t.gens = #[])
    (hT : ∀ p ∈ cs, t.heap.get? p.2 = some { cls := .none, data := .fields #[] }) (nT : ∀ p ∈ cs, K.lookup p.2 = none) (hC : ∀ p ∈ cs, PySem.W.CodeHd t.heap p.1 p.2)
    (hbm : ∃ (bm : Addr) (ob : Obj), mg "__builtins__" = some (.ref bm) ∧ bm ≠ builtinsNs ∧ t.heap.get? bm = some ob ∧ ob.cls = .type "module" ∧ ob.dict = some builtinsNs ∧ ob.data = .plain)
    (ha : t.heap.get? a = some { cls := .type "list", data := .seq vs.toArray }) (room : Room k callerA)
    (F : ∀ base : Heap, K.In base → base.Ns mainGlobals mg → (∀ p ∈ cs, LamX.TabB base mg p.1 p.2) → FnG P w K mg base k fa fd [x] sp) (hbind : ∀ (s : Shared) (u : Value), BindsTo s fd ⟨[u], []⟩ [(x, u)])
    {H : Hp} (tb : ∀ p ∈ cs, H p.2 = some (.tbl #[])) (only : ∀ b, H b = none ∨ TbAt cs b ∨ ∃ o xs, H b = some (.frz o (.lst xs))) (ok : HOk P w H t.heap) (own : ∀ b u, H b = some u → (b = a ∧ K.lookup a = none) ∨ TbAt cs b)
    (hsp : sp [.ref a] H (fun v _ => v = .bl true) fun _ _ _ => False) :
    codeAny (model P w) callerA (.call (.ref fa) ⟨[.ref a], []⟩) (Yes2 t) t := by
  -- what else stands where nothing is tracked
  have kept : ∀ {b : Addr} {o : Obj}, t.heap.get? b = some o → (∀ ws m, o.data ≠ .seq ws m) → o.data ≠ .fields #[] → (hidT t.heap H).get? b = some o := fun {b o} e h1 h2 => by
    refine hidT_get e ?_
    cases q : H b with
    | none => rfl
    | some u =>
      rcases own b u q with ⟨z, _⟩ | ⟨p, hp, z⟩
      · rw [z, ha] at e
        cases e
        exact absurd rfl (h1 _ _)
      · rw [z, hT p hp] at e
        cases e
        exact absurd rfl h2
  have keepK : K.In (hidT t.heap H) := by
    intro b o e
    refine hidT_get (KX b o e) ?_
    cases q : H b with
    | none => rfl
    | some u =>
      rcases own b u q with ⟨z, nk⟩ | ⟨p, hp, z⟩
      · rw [z, nk] at e
        cases e
      · rw [z, nT p hp] at e
        cases e
  have keepN : ∀ {b : Addr} {m : Str → Option Value}, t.heap.Ns b m → (hidT t.heap H).Ns b m := by
    rintro b m ⟨o, es, ep, e, d, r⟩
    refine ⟨o, es, ep, kept e (fun _ _ z => ?_) (fun z => ?_), d, r⟩
    · rw [d] at z
      cases z
    · rw [d] at z
      cases z
  have md : Mod K mg (hidT t.heap H) := by
    obtain ⟨mc, c1, c2⟩ := hlim
    exact ⟨keepK, keepN hns, ⟨mb, keepN hb, hbb⟩, ⟨mc, keepN c1, c2⟩⟩
  have TB : ∀ p ∈ cs, LamX.TabB (hidT t.heap H) mg p.1 p.2 := fun p hp => by
    refine ⟨?_, ?_, fun z => ?_⟩
    · obtain ⟨o, us, file, tf, flags, tg, inF, text, tt, e1, r1, r2, r3, rest⟩ := hC p hp
      refine ⟨o, us, file, tf, flags, tg, inF, text, tt, kept e1 (fun _ _ z => ?_) (fun z => ?_), r1, r2, r3, rest⟩
      · rw [r2] at z
        cases z
      · rw [r2] at z
        cases z
        simp at r3
    · obtain ⟨bm, ob, b1, b2, b3, b4, b5, b6⟩ := hbm
      have nG : bm ≠ mainGlobals := fun q => by
        obtain ⟨o, es, ep, e, hd, _⟩ := hns
        rw [q, e] at b3
        cases b3
        rw [hd] at b6
        cases b6
      have nP : bm ≠ p.2 := fun q => by
        rw [q, hT p hp] at b3
        cases b3
        cases b6
      refine ⟨bm, ob, b1, b2, nG, nP, kept b3 (fun _ _ z => ?_) (fun z => ?_), b4, b5, b6⟩
      · rw [b6] at z
        cases z
      · rw [b6] at z
        cases z
    · obtain ⟨o, es, ep, e, hd, _⟩ := hns
      rw [z, hT p hp] at e
      cases e
      cases hd
  have e0 : Env0 P w K mg (hidT t.heap H) callerA [] t H :=
    { frames := rfl
      mod := md
      bs := fun b o e => of_hidT e
      bsz := Nat.le_of_eq (hidT_size _ _)
      funs := trivial
      frf := fun b hb => by cases hb
      hok := ok
      bare := .of_eq hg }
  have go := (F _ keepK (keepN hns) TB).run callerA [] t H ⟨[.ref a], []⟩ [.ref a] [.ref a] (fun v _ => v = .bl true) (fun _ _ _ => False) room rfl e0 (hbind t (.ref a)) (.cons rfl .nil) hsp
  refine codeAny_mono go fun r s' h => ?_
  match r, h with
  | .error e, h => exact (noCX2 h).elim
  | .ok .next, h => exact False.elim h
  | .ok .brk, h => exact False.elim h
  | .ok .cont, h => exact False.elim h
  | .ok (.ret u), h =>
    obtain ⟨v, H2, os, bare, un, ok2, rv, q⟩ := h
    have q : v = .bl true := q
    rw [q] at rv
    have rv : u = Value.bool true := rv
    rw [rv]
    have same : ∀ b o, ¬ TbAt cs b → t.heap.get? b = some o → s'.heap.get? b = some o := fun b o nb e => by
      rcases only b with z | z | ⟨ob, xs, z⟩
      · exact un.keep b o e z (by intro y; cases y) (by simp)
      · exact absurd z nb
      · obtain ⟨p1, _⟩ := ok b _ z
        obtain ⟨p2, _⟩ := ok2 b _ (un.frzs b ob _ z)
        rw [e] at p1
        cases p1
        exact p2
    have grown : ∀ p ∈ cs, ∃ more : Array Value, s'.heap.get? p.2 = some { cls := .none, data := .fields more } := fun p hp => by
      obtain ⟨more, z⟩ := un.tbls p.2 #[] (tb p hp)
      exact ⟨_, ok2 p.2 _ z⟩
    refine ⟨rfl, ⟨fun b o e => ?_, fun b o e => ?_⟩, os, bare⟩
    · by_cases hb : TbAt cs b
      · obtain ⟨p, hp, rfl⟩ := hb
        obtain ⟨more, hm⟩ := grown p hp
        rw [hT p hp] at e
        cases e
        exact .inr (.inl ⟨((hC p hp).tab (hT p hp)).isCodeTable, rfl, #[], more, rfl, by rw [Array.empty_append]; exact hm⟩)
      · exact .inl (same b o hb e)
    · by_cases hb : TbAt cs b
      · obtain ⟨p, hp, rfl⟩ := hb
        obtain ⟨more, hm⟩ := grown p hp
        exact ⟨_, hm⟩
      · exact ⟨o, same b o hb e⟩
open Classical in
theorem end_callT (KX : K.In t.heap) (hns : t.heap.Ns mainGlobals mg) (hb : t.heap.Ns builtinsNs mb) (hbb : ∀ x : Str, x ≠ "__name__" → mb x = bootBuiltins x) (hlim : t.heap.NoLimit) (hg : t.gens = #[])
    (hT : ∀ p ∈ cs, t.heap.get? p.2 = some { cls := .none, data := .fields #[] }) (nT : ∀ p ∈ cs, K.lookup p.2 = none) (hC : ∀ p ∈ cs, PySem.W.CodeHd t.heap p.1 p.2)
    (hbm : ∃ (bm : Addr) (ob : Obj), mg "__builtins__" = some (.ref bm) ∧ bm ≠ builtinsNs ∧ t.heap.get? bm = some ob ∧ ob.cls = .type "module" ∧ ob.dict = some builtinsNs ∧ ob.data = .plain)
    (ha : t.heap.get? a = some { cls := .type "list", data := .seq vs.toArray }) (hi : PyProof.Rows.IntsAre vs ns) (hl : ns.length ≤ sizeLine) (room : Room k callerA)
    (F : ∀ base : Heap, K.In base → base.Ns mainGlobals mg → (∀ p ∈ cs, LamX.TabB base mg p.1 p.2) → FnG P w K mg base k fa fd [x] sp) (hbind : ∀ (s : Shared) (u : Value), BindsTo s fd ⟨[u], []⟩ [(x, u)])
    (hsp : ∀ H : Hp, (∀ p ∈ cs, H p.2 = some (.tbl #[])) → SqL K H a (ns.map V.int) → sp [.ref a] H (fun v _ => v = .bl true) fun _ _ _ => False) :
    codeAny (model P w) callerA (.call (.ref fa) ⟨[.ref a], []⟩) (Yes2 t) t := by
  have rv := L2.vals_ints hi
  have na : ¬ TbAt cs a := fun ⟨p, hp, z⟩ => by
    have q := hT p hp
    rw [← z, ha] at q
    have z2 : Data.seq vs.toArray _ = Data.fields #[] := congrArg Obj.data (Option.some.inj q)
    cases z2
  have isT : ∀ b, TbAt cs b → t.heap.get? b = some { cls := .none, data := .fields #[] } := fun b ⟨p, hp, z⟩ => by
    rw [z]
    exact hT p hp
  cases hk : K.lookup a with
  | some o =>
    have e := KX a o hk
    rw [ha] at e
    cases e
    have at_ : ∀ b u, (if TbAt cs b then some (HO.tbl #[]) else none) = some u → TbAt cs b ∧ u = .tbl #[] := fun b u z => by
      by_cases h : TbAt cs b
      · rw [if_pos h] at z
        cases z
        exact ⟨h, rfl⟩
      · rw [if_neg h] at z
        cases z
    have on : ∀ b, (if TbAt cs b then some (HO.tbl #[]) else none) = none ∨ TbAt cs b ∨ ∃ o xs, (if TbAt cs b then some (HO.tbl #[]) else none) = some (.frz o (.lst xs)) := fun b => by
      by_cases h : TbAt cs b
      · exact .inr (.inl h)
      · exact .inl (if_neg h)
    refine end_coreT (H := fun b => if TbAt cs b then some (HO.tbl #[]) else none) KX hns hb hbb hlim hg hT nT hC hbm ha room F hbind (fun p hp => if_pos ⟨p, hp, rfl⟩) on (fun b u z => ?_) (fun b u z => .inr (at_ b u z).1) (hsp _ (fun p hp => if_pos ⟨p, hp, rfl⟩) (.inr ?_))
    · obtain ⟨h1, rfl⟩ := at_ b u z
      exact isT b h1
    · exact ⟨_, vs.toArray, _, hk, rfl, rfl, rfl, by rw [List.size_toArray, hi.length]; exact hl, by simpa using rv⟩
  | none =>
    have at_ : ∀ b u, (if b = a then some (HO.frz { cls := .type "list", data := .seq vs.toArray } (.lst (ns.map V.int))) else if TbAt cs b then some (HO.tbl #[]) else none) = some u →
        (b = a ∧ u = HO.frz { cls := .type "list", data := .seq vs.toArray } (.lst (ns.map V.int))) ∨ (TbAt cs b ∧ u = .tbl #[]) := fun b u z => by
      by_cases h : b = a
      · rw [if_pos h] at z
        cases z
        exact .inl ⟨h, rfl⟩
      · rw [if_neg h] at z
        by_cases h2 : TbAt cs b
        · rw [if_pos h2] at z
          cases z
          exact .inr ⟨h2, rfl⟩
        · rw [if_neg h2] at z
          cases z
    have tbs : ∀ p ∈ cs, (if p.2 = a then some (HO.frz { cls := .type "list", data := .seq vs.toArray } (.lst (ns.map V.int))) else if TbAt cs p.2 then some (HO.tbl #[]) else none) = some (.tbl #[]) := fun p hp =>
      (if_neg fun z => na ⟨p, hp, z.symm⟩).trans (if_pos ⟨p, hp, rfl⟩)
    refine end_coreT (H := fun b => if b = a then some (HO.frz { cls := .type "list", data := .seq vs.toArray } (.lst (ns.map V.int))) else if TbAt cs b then some (HO.tbl #[]) else none) KX hns hb hbb hlim hg hT nT hC hbm ha room F hbind tbs (fun b => ?_) (fun b u z => ?_) (fun b u z => ?_) (hsp _ tbs (.inl (.inr ⟨_, if_pos rfl⟩)))
    · by_cases h : b = a
      · exact .inr (.inr ⟨_, _, if_pos h⟩)
      · by_cases h2 : TbAt cs b
        · exact .inr (.inl h2)
        · exact .inl ((if_neg h).trans (if_neg h2))
    · rcases at_ b u z with ⟨rfl, rfl⟩ | ⟨h, rfl⟩
      · exact ⟨ha, by rw [List.length_map]; exact hl, vs, _, rv, ha⟩
      · exact isT b h
    · rcases at_ b u z with ⟨h, _⟩ | ⟨h, _⟩
      · exact .inl ⟨h, hk⟩
      · exact .inr h
end
/-- a law over the head by facts -/
theorem walk_ofGT {l : PySem.W.OpenLaw} {n k : Nat} {q : Program} {loose : List Str} {XP : (Str → Option Value) → Heap → Prop} {YP : World → Heap → Prop} {d : DefRec} {x : Str} (hn : l.most = some n) (hn2 : n ≤ sizeLine) (hdf : d.params.defaults = []) (hr : Room k callerA)
    (F : ∀ (w : World) (mg : Str → Option Value) (fa : Addr) (h : Heap), YP w h → h.Ns mainGlobals mg → mg d.name = some (.ref fa) → ∃ (K : PySem.W.Frag) (fd : FuncData) (cs : List (Addr × Addr)) (sp : Sp), K.In h ∧
      (∀ p ∈ cs, h.get? p.2 = some { cls := .none, data := .fields #[] }) ∧ (∀ p ∈ cs, K.lookup p.2 = none) ∧ (∀ p ∈ cs, PySem.W.CodeHd h p.1 p.2) ∧ (∀ (s : Shared) (u : Value), BindsTo s fd ⟨[u], []⟩ [(x, u)]) ∧
      (∀ (H : Hp) (a : Addr) (ns : List Int), ns.length ≤ n → (∀ z ∈ ns, Builtin.Int.intBits z ≤ 1048576) → (∀ p ∈ cs, H p.2 = some (.tbl #[])) → SqL K H a (ns.map V.int) → sp [.ref a] H (fun v _ => v = .bl true) fun _ _ _ => False) ∧
      ∀ base : Heap, K.In base → base.Ns mainGlobals mg → (∀ p ∈ cs, LamX.TabB base mg p.1 p.2) → FnG l.prog w K mg base k fa fd [x] sp) :
    PySem.W.WalkO q loose XP YP l.row.toRowW d [] (fun f vs => PySem.call f vs) := by
  refine Att.attach_callB hn hdf fun w s₀ s₁ mg mb fa o pm cd doc a vs ns G Y ho hd hcd hmg hobj hints hlen hbits hg => ?_
  obtain ⟨K, fd, cs, sp, KX, hT, nT, hC, hb, hsp, hF⟩ := F w mg fa _ Y G.T.g hmg
  exact end_callT KX G.T.g G.T.b G.T.builtins G.T.nolimit hg hT nT hC G.T.bmain hobj hints (Nat.le_trans hlen hn2) hr hF hb fun H hH hS => hsp H a ns hlen hbits hH hS
end Rk

set_option Elab.async false
set_option linter.all false
set_option maxRecDepth 100000
set_option maxHeartbeats 2000000
/-! RkU3: what a text's module says, looked at in the head. -/
namespace Rk
open PySem PySem.Spec L2

def excCB (K : PySem.W.Frag) (D : Addr) : Bool :=
  He.eqO (PySem.W.findIn K (.ref D) "__getattribute__") (some (some (.builtin "BaseException.__getattribute__"))) && (He.eqO (PySem.W.findIn K (.ref D) "__getattr__") (some none) && (decide (PySem.W.subIn K (.ref D) (.type "BaseException") = some true) && (PySem.W.hasDictIn K D &&
    (He.eqO (PySem.W.findIn K (.ref D) "__class__") (some (some (.builtin "object.__class__"))) && (He.eqO (PySem.W.specialIn K (.builtin "object.__class__") "__get__") (some (some (.builtin "getset_descriptor.__get__"))) &&
      (decide (PySem.W.takesIn K (.builtin "object.__class__") = some true) && decide (PySem.W.mroIn K D (.type "object") = some true)))))))
theorem excC_of {K : PySem.W.Frag} {D : Addr} (h : excCB K D = true) : ExcC K D := by
  obtain ⟨h1, h⟩ := and2 h
  obtain ⟨h2, h⟩ := and2 h
  obtain ⟨h3, h⟩ := and2 h
  obtain ⟨h4, h⟩ := and2 h
  obtain ⟨h5, h⟩ := and2 h
  obtain ⟨h6, h⟩ := and2 h
  obtain ⟨h7, h8⟩ := and2 h
  exact ⟨He.eqO_ok h1, He.eqO_ok h2, of_decide_eq_true h3, h4, He.eqO_ok h5, He.eqO_ok h6, of_decide_eq_true h7, of_decide_eq_true h8⟩
/-- the classes that a text names: own ones, built-in ones -/
structure CN where
  own : List Str
  blt : List (Str × String)
def CN.v (C : CN) (K : PySem.W.Frag) (c : Str) : Option Value := if c ∈ C.own then some (.ref (He.ga K c)) else (C.blt.find? fun p => decide (p.1 = c)).map fun p => .type p.2
def CN.vs (C : CN) (K : PySem.W.Frag) : List Str → Option (List Value)
  | [] => some []
  | c :: r => match C.v K c, C.vs K r with
    | some v, some vs => some (v :: vs)
    | _, _ => none
structure CNok (C : CN) (K : PySem.W.Frag) (mg : Str → Option Value) : Prop where
  own : ∀ c ∈ C.own, mg c = some (.ref (He.ga K c))
  blt : ∀ p ∈ C.blt, mg p.1 = none
  bok : ∀ p ∈ C.blt, p.1 ≠ "__name__" ∧ bootBuiltins p.1 = some (.type p.2)
section
variable {C : CN} {K : PySem.W.Frag} {mg : Str → Option Value}
theorem CNok.cls (k : CNok C K mg) {c : Str} {u : Value} (h : C.v K c = some u) : ClsN K mg c u := by
  unfold CN.v at h
  split at h
  · rename_i m
    cases h
    exact .inl ⟨k.own c m, rfl⟩
  · cases q : C.blt.find? fun p => decide (p.1 = c) with
    | none =>
      rw [q] at h
      cases h
    | some p =>
      rw [q] at h
      cases h
      have e : p.1 = c := of_decide_eq_true (List.find?_some (p := fun p : Str × String => decide (p.1 = c)) q)
      have m := List.mem_of_find?_eq_some q
      obtain ⟨b1, b2⟩ := k.bok p m
      subst e
      exact .inr ⟨k.blt p m, b1, _, b2, rfl⟩
theorem CNok.clss (k : CNok C K mg) : ∀ {cs : List Str} {us : List Value}, C.vs K cs = some us → Both (ClsN K mg) cs us ∧ us.length = cs.length
  | [], us, h => by
    cases h
    exact ⟨.nil, rfl⟩
  | c :: r, us, h => by
    have h : (match C.v K c, C.vs K r with
      | some v, some vs => some (v :: vs)
      | _, _ => none) = some us := h
    split at h
    · rename_i v vs e1 e2
      cases h
      obtain ⟨i1, i2⟩ := k.clss e2
      exact ⟨.cons (k.cls e1) i1, by simp [i2]⟩
    · cases h
theorem tab_mem {tab : List (Str × Bool)} {c : Str} {b : Bool} (h : tabL tab c = some b) : (c, b) ∈ tab := by
  unfold tabL at h
  cases q : tab.find? fun p => decide (p.1 = c) with
  | none =>
    rw [q] at h
    cases h
  | some p =>
    rw [q] at h
    cases h
    have e : p.1 = c := of_decide_eq_true (List.find?_some (p := fun p : Str × Bool => decide (p.1 = c)) q)
    have m := List.mem_of_find?_eq_some q
    rw [← e]
    exact m
end
def isx1B (C : CN) (K : PySem.W.Frag) (q : Str × List (Str × Bool)) : Bool := match C.v K q.1 with
  | some u => q.2.all fun p => excCB K (He.ga K p.1) && decide (PySem.W.kitOne K (.ref (He.ga K p.1)) u = some p.2)
  | none => false
def isxTB (C : CN) (K : PySem.W.Frag) (q : List Str × List (Str × Bool)) : Bool := match C.vs K q.1 with
  | some us => decide (q.1.length ≤ 20) && q.2.all fun p => excCB K (He.ga K p.1) && decide (PySem.W.kitAny K (.ref (He.ga K p.1)) us = some p.2)
  | none => false
def exmB (C : CN) (K : PySem.W.Frag) (q : List Str × List (Str × Bool)) : Bool := match q.1 with
  | [x] => decide (x ∈ C.own) && q.2.all fun p => decide (PySem.W.exmOne K (.ref (He.ga K p.1)) (.ref (He.ga K x)) = some p.2)
  | [x, y] => decide (x ∈ C.own) && (decide (y ∈ C.own) && q.2.all fun p => decide (PySem.W.exmAny K (.ref (He.ga K p.1)) [.ref (He.ga K x), .ref (He.ga K y)] = some p.2))
  | _ => false
def modB (C : CN) (G : GS) (K : PySem.W.Frag) : Bool := G.isx1.all (isx1B C K) && (G.isxT.all (isxTB C K) && (G.exm.all (exmB C K) && G.exc.all fun c => decide (c ∈ C.own) && (He.Fa.exc c).ok K))
theorem modF_of {C : CN} {G : GS} {K : PySem.W.Frag} {mg : Str → Option Value} (k : CNok C K mg) (h : modB C G K = true) : ModF K mg G := by
  obtain ⟨h1, h⟩ := and2 h
  obtain ⟨h2, h⟩ := and2 h
  obtain ⟨h3, h4⟩ := and2 h
  refine ⟨fun q hq => ?_, fun q hq => ?_, fun q hq => ?_, fun c hc => ?_⟩
  · have e := List.all_eq_true.mp h1 q hq
    unfold isx1B at e
    split at e
    · rename_i u eu
      refine ⟨u, k.cls eu, fun c b t => ?_⟩
      obtain ⟨e1, e2⟩ := and2 (List.all_eq_true.mp e (c, b) (tab_mem t))
      exact ⟨excC_of e1, of_decide_eq_true e2⟩
    · cases e
  · have e := List.all_eq_true.mp h2 q hq
    unfold isxTB at e
    split at e
    · rename_i us eu
      obtain ⟨e0, e⟩ := and2 e
      obtain ⟨k1, k2⟩ := k.clss eu
      refine ⟨us, k1, by rw [k2]; exact of_decide_eq_true e0, fun c b t => ?_⟩
      obtain ⟨e1, e2⟩ := and2 (List.all_eq_true.mp e (c, b) (tab_mem t))
      exact ⟨excC_of e1, of_decide_eq_true e2⟩
    · cases e
  · have e := List.all_eq_true.mp h3 q hq
    unfold exmB at e
    unfold ExmF
    split at e
    · rename_i x ex
      obtain ⟨e1, e2⟩ := and2 e
      try rw [ex]
      exact ⟨_, k.own x (of_decide_eq_true e1), fun cl b t => of_decide_eq_true (List.all_eq_true.mp e2 (cl, b) (tab_mem t))⟩
    · rename_i x y ex
      obtain ⟨e1, e⟩ := and2 e
      obtain ⟨e2, e3⟩ := and2 e
      try rw [ex]
      exact ⟨_, _, k.own x (of_decide_eq_true e1), k.own y (of_decide_eq_true e2), fun cl b t => of_decide_eq_true (List.all_eq_true.mp e3 (cl, b) (tab_mem t))⟩
    · cases e
  · obtain ⟨e1, e2⟩ := and2 (List.all_eq_true.mp h4 c hc)
    obtain ⟨f1, f2, f3, f4⟩ := He.exc_ok e2
    exact ⟨k.own c (of_decide_eq_true e1), f1, f2, f3, f4⟩
/-- how a call with keywords binds: looked at -/
theorem kb_of {K : PySem.W.Frag} {x qual : Str} {params : Arguments} {body : List Stmt} {scope : Scope} {kws : List (Str × V)} {f : Addr} {fd : FuncData} {ps ks : List Str} {n : Nat} {pm : List Nat} (F : FunD K x qual params body scope [] kws f fd)
    (h : ∀ (kV doc pm' : Value) (an : Option Addr) (cdv ct : Value) (us ws : List Value), us.length = n → ws.length = ks.length → bindArgs (PySem.W.fnOf x qual params body scope .none kV doc pm' an cdv ct) ⟨us, ks.zip ws⟩ = pure (ps.zip (pm.filterMap fun j => (us ++ ws)[j]?))) : KB K fd ps n ks pm := by
  obtain ⟨oc, od, dV, kV, doc, pm', an, cdv, ct, osl, rfl, lk, hcd, hD, hK⟩ := F.ex
  intro s us ws _ l1 l2
  rcases hD with ⟨_, rfl⟩ | ⟨e, _⟩
  · exact .of_eq (h kV doc pm' an cdv ct us ws l1 l2)
  · exact absurd rfl e
/-- nothing more is to stay -/
def GI.of (K : PySem.W.Frag) (T : List (Addr × Str)) : GI := ⟨K, fun _ => 0, T, fun _ _ => True, fun _ _ _ _ _ h => h⟩
/-- a def's code object and its table, by the head's facts -/
theorem tab_of {K : PySem.W.Frag} {mg : Str → Option Value} {base : Heap} {x : Str} {params : Arguments} {body : List Stmt} {scope : Scope} {fd : FuncData} {T : List (Addr × Str)} (F : FunD K x x params body scope [] [] (He.fAd K (x, none)) fd) (B : LamX.TabB base mg (He.cT K (x, none)).1 (He.cT K (x, none)).2)
    (m : ((He.cT K (x, none)).2, x ++ ".<locals>." ++ "<lambda>") ∈ T) (u : ∀ p ∈ T, p.1 = (He.cT K (x, none)).2 → p.2 = x ++ ".<locals>." ++ "<lambda>") :
    ∃ c P, fd.code = .ref c ∧ LamX.TabB base mg c P ∧ (P, x ++ ".<locals>." ++ "<lambda>") ∈ T ∧ ∀ p ∈ T, p.1 = P → p.2 = x ++ ".<locals>." ++ "<lambda>" := by
  obtain ⟨oc, od, dV, kV, doc, pm, an, cdv, ct, osl, rfl, lk, hcd, _, _⟩ := F.ex
  obtain ⟨c, ec⟩ := He.codeIn_ref hcd
  have e : He.codeOf K (x, none) = c := He.codeOf_eq lk ec
  refine ⟨c, (He.cT K (x, none)).2, ec, ?_, m, u⟩
  have e2 : (He.cT K (x, none)).1 = c := e
  rw [← e2]
  exact B
theorem den_ints {K : PySem.W.Frag} {ρ : Rz} {H : Hp} : ∀ ns : List Int, DenL K ρ H (ns.map V.int) (ns.map PV.int)
  | [] => .nil
  | n :: ns => .cons (.int n) (den_ints ns)
end Rk

set_option Elab.async false
set_option linter.all false
set_option maxRecDepth 100000
set_option maxHeartbeats 1000000
/-! RkV: the evaluator's equations, laid at a heap: for the plain proofs. -/
namespace Rk
open PySem PySem.Spec L2

def R.thn {α β : Type} (r : R α) (k : α → PH → R β) : R β := match r with
  | .ok a h => k a h
  | .exc e h => .exc e h
  | .stuck => .stuck
theorem thn_ok {α β : Type} (a : α) (h : PH) (k : α → PH → R β) : (R.ok a h).thn k = k a h := rfl
def RS.nx (r : RS) (k : Lo → PH → RS) : RS := match r with
  | .next L h => k L h
  | x => x
theorem nx_next (L : Lo) (h : PH) (k : Lo → PH → RS) : (RS.next L h).nx k = k L h := rfl
theorem nx_ret (v : PV) (h : PH) (k : Lo → PH → RS) : (RS.ret v h).nx k = .ret v h := rfl
theorem nx_exc (e : PX) (L : Lo) (h : PH) (k : Lo → PH → RS) : (RS.exc e L h).nx k = .exc e L h := rfl
theorem to_ok {α : Type} (L : Lo) (k : α → PH → RS) (a : α) (h : PH) : (R.ok a h).to L k = k a h := rfl
theorem fin_ret (v : PV) (h : PH) : (RS.ret v h).fin = .ok v h := rfl
theorem fin_next (L : Lo) (h : PH) : (RS.next L h).fin = .ok .non h := rfl
theorem call_eq {G : List FD} {n f : Nat} {d : FD} {args : List PV} {h : PH} (e : G[f]? = some d) (hl : args.length = d.ps.length) : callN G (n + 1) f args h = (evSs (cfN G n) d.body (startL d args) h).fin := by
  show (match G[f]? with
    | some d => if args.length = d.ps.length then (evSs (cfN G n) d.body (startL d args) h).fin else .stuck
    | none => .stuck) = _
  rw [e]
  exact if_pos hl
theorem lam_eq {G : List FD} {n f : Nat} {d : FD} {th : M PV} {h : PH} {x : R PV} (e : G[f]? = some d) (hl : d.ps.length = 1)
    (q : ∀ k : Nat × Nat × Str, (evSs { cfN G n with act := actOf k th } d.body (startL d [.clo k.1 [.int k.2.1, .str k.2.2]]) h).fin = x) : (cfN G (n + 1)).lam f th h = x := by
  show (match G[f]? with
    | some d => if d.ps.length = 1 then allR (fun k => (evSs { cfN G n with act := actOf k th } d.body (startL d [.clo k.1 [.int k.2.1, .str k.2.2]]) h).fin) (0, 0, "") else .stuck
    | none => .stuck) = _
  rw [e]
  exact (if_pos hl).trans (allR_at q)
theorem cf_call (G : List FD) (n : Nat) : (cfN G n).call = callN G n := rfl
theorem actOf_at (k : Nat × Nat × Str) (th : M PV) : actOf k th k.1 k.2.1 k.2.2 = th := if_pos rfl
def lkS (L : Lo) (i : Nat) (h : PH) : R PV := match L[i]? with
  | some (some v) => .ok v h
  | _ => .stuck
theorem lk_0 (v : PV) (L : Lo) (h : PH) : lkS (some v :: L) 0 h = .ok v h := rfl
theorem lk_s (o : Option PV) (L : Lo) (i : Nat) (h : PH) : lkS (o :: L) (i + 1) h = lkS L i h := by
  unfold lkS
  rfl
section
variable (cf : CF) (L : Lo) (h : PH)
theorem a_var (i : Nat) : evE cf (.var i) L h = lkS L i h := rfl
theorem a_cst (c : Cst) : evE cf (.cst c) L h = .ok c.pv h := rfl
theorem a_glob (x : Str) (v : GC) : evE cf (.glob x v) L h = .ok v.pv h := rfl
theorem a_tup (es : CEs) : evE cf (.tup es) L h = (evEs cf es L h).thn fun xs h => if xs.length ≤ sizeLine then .ok (.tup xs) h else .stuck := by
  show M.bind _ _ h = _
  unfold M.bind R.thn
  cases evEs cf es L h <;> rfl
theorem a_lst (fz : Bool) (es : CEs) : evE cf (.lst fz es) L h = (evEs cf es L h).thn fun xs h => fresh fz xs h := by
  show M.bind _ _ h = _
  unfold M.bind R.thn
  cases evEs cf es L h <;> rfl
theorem bind_at {α β : Type} (m : M α) (k : α → M β) : (m >>= k) h = (m h).thn fun a h' => k a h' := by
  show M.bind _ _ h = _
  unfold M.bind R.thn
  cases m h <;> rfl
theorem a_bin (fz : Bool) (op : Operator) (a b : CE) : evE cf (.bin fz op a b) L h = (evE cf a L h).thn fun x h => (evE cf b L h).thn fun y h => binS fz op x y h := by
  show (evE cf a L >>= fun x => evE cf b L >>= fun y => binS fz op x y) h = _
  simp only [bind_at]
theorem a_neg (a : CE) : evE cf (.neg a) L h = (evE cf a L h).thn fun x h => negS x h := bind_at h _ _
theorem a_cmp (op : CmpOp) (a b : CE) : evE cf (.cmp op a b) L h = (evE cf a L h).thn fun x h => (evE cf b L h).thn fun y h => (cmpS op x y h).thn fun c h => .ok (.bl c) h := by
  show (evE cf a L >>= fun x => evE cf b L >>= fun y => cmpV op x y) h = _
  simp only [bind_at, cmpV]
  rfl
theorem a_chain (o1 o2 : CmpOp) (a b c : CE) : evE cf (.chain o1 o2 a b c) L h = (evE cf a L h).thn fun x h => (evE cf b L h).thn fun y h => (cmpS o1 x y h).thn fun k h =>
    if k then (evE cf c L h).thn fun z h => (cmpS o2 y z h).thn fun c h => .ok (.bl c) h else .ok (.bl false) h := by
  show (evE cf a L >>= fun x => evE cf b L >>= fun y => cmpS o1 x y >>= fun k => if k then (evE cf c L >>= fun z => cmpV o2 y z) else pure (PV.bl false)) h = _
  simp only [bind_at]
  congr 1; funext x h1; congr 1; funext y h2; congr 1; funext k h3
  cases k
  · rfl
  · show (evE cf c L >>= fun z => cmpV o2 y z) h3 = _
    simp only [bind_at, cmpV]
    rfl
theorem a_band (es : CEs) : evE cf (.band es) L h = evAnd cf es L h := rfl
theorem a_bor (es : CEs) : evE cf (.bor es) L h = evOr cf es L h := rfl
theorem a_and1 (e : CE) : evAnd cf (.cons e .nil) L h = evE cf e L h := rfl
theorem a_or1 (e : CE) : evOr cf (.cons e .nil) L h = evE cf e L h := rfl
theorem a_and (e e2 : CE) (r : CEs) : evAnd cf (.cons e (.cons e2 r)) L h = (evE cf e L h).thn fun x h => (truS x h).thn fun b h => if b then evAnd cf (.cons e2 r) L h else .ok x h := by
  show (evE cf e L >>= fun x => truS x >>= fun b => if b then evAnd cf (.cons e2 r) L else pure x) h = _
  simp only [bind_at]
  congr 1; funext x h1; congr 1; funext b h2
  cases b <;> rfl
theorem a_or (e e2 : CE) (r : CEs) : evOr cf (.cons e (.cons e2 r)) L h = (evE cf e L h).thn fun x h => (truS x h).thn fun b h => if b then .ok x h else evOr cf (.cons e2 r) L h := by
  show (evE cf e L >>= fun x => truS x >>= fun b => if b then pure x else evOr cf (.cons e2 r) L) h = _
  simp only [bind_at]
  congr 1; funext x h1; congr 1; funext b h2
  cases b <;> rfl
theorem a_bnot (a : CE) : evE cf (.bnot a) L h = (evE cf a L h).thn fun x h => (truS x h).thn fun b h => .ok (.bl !b) h := by
  show (evE cf a L >>= fun x => truS x >>= fun b => pure (PV.bl !b)) h = _
  simp only [bind_at]
  rfl
theorem a_ife (c : CT) (a b : CE) : evE cf (.ife c a b) L h = (evT cf c L h).thn fun k h => if k then evE cf a L h else evE cf b L h := by
  show (evT cf c L >>= fun k => if k then evE cf a L else evE cf b L) h = _
  simp only [bind_at]
  congr 1; funext b h2
  cases b <;> rfl
theorem a_call (f : Nat) (es : CEs) : evE cf (.call f es) L h = (evEs cf es L h).thn fun xs h => cf.call f xs h := bind_at h _ _
theorem a_pr (fz : Bool) (p : Pr) (es : CEs) : evE cf (.pr fz p es) L h = (evEs cf es L h).thn fun xs h => primS fz p xs h := bind_at h _ _
theorem a_mt (fz : Bool) (m : Mt) (o : CE) (es : CEs) : evE cf (.mt fz m o es) L h = (evE cf o L h).thn fun x h => (kindS m.ty x h).thn fun _ h => (evEs cf es L h).thn fun xs h => mthS fz m x xs h := by
  show (evE cf o L >>= fun x => kindS m.ty x >>= fun _ => evEs cf es L >>= fun xs => mthS fz m x xs) h = _
  simp only [bind_at]
theorem a_isi (a : CE) (t : Ty) : evE cf (.isi a t) L h = (evE cf a L h).thn fun x h => isiS t x h := bind_at h _ _
theorem a_sub (a i : CE) : evE cf (.sub a i) L h = (evE cf a L h).thn fun x h => (evE cf i L h).thn fun y h => subS x y h := by
  show (evE cf a L >>= fun x => evE cf i L >>= fun y => subS x y) h = _
  simp only [bind_at]
theorem a_sl (fz : Bool) (a : CE) (lo hi : CEs) : evE cf (.sl fz a lo hi) L h = (evE cf a L h).thn fun x h => (evP cf lo L h).thn fun l h => (evP cf hi L h).thn fun u h => slS fz x l u h := by
  show (evE cf a L >>= fun x => evP cf lo L >>= fun l => evP cf hi L >>= fun u => slS fz x l u) h = _
  simp only [bind_at]
theorem a_comp (fz : Bool) (elt : CE) (tg : Tg) (it : IT) (ifs : CTs) (own : List Nat) : evE cf (.comp fz elt tg it ifs own) L h = (evI cf it L h).thn fun s h => (noX (compS (compStep tg own L (evIfs cf ifs) (evE cf elt)) s) h).thn fun ys h => fresh fz ys h := by
  show (evI cf it L >>= fun s => noX (compS (compStep tg own L (evIfs cf ifs) (evE cf elt)) s) >>= fun ys => fresh fz ys) h = _
  simp only [bind_at]
theorem a_act {i : Nat} {v : PV} (e : L[i]? = some (some v)) : evE cf (.act i) L h = actV cf v h := by
  show (match L[i]? with
    | some (some v) => actV cf v h
    | _ => .stuck) = _
  rw [e]
theorem a_lam (f : Nat) (b : CE) : evE cf (.lam f b) L h = noX (cf.lam f (evE cf b L)) h := rfl
theorem a_callK (f n : Nat) (es : CEs) (nks : List Str) (ks : CEs) (pm : List Nat) : evE cf (.callK f n es nks ks pm) L h = (evEs cf es L h).thn fun xs h => (evEs cf ks L h).thn fun ys h => kwS n nks.length pm (cf.call f) xs ys h := by
  show (evEs cf es L >>= fun xs => evEs cf ks L >>= fun ys => kwS n nks.length pm (cf.call f) xs ys) h = _
  simp only [bind_at]
theorem a_isx (a : CE) (cs : List Str) (tab : List (Str × Bool)) : evE cf (.isx a cs tab) L h = (evE cf a L h).thn fun x h => isxS tab x h := bind_at h _ _
theorem a_rev (fz : Bool) (a : CE) : evE cf (.rev fz a) L h = (evE cf a L h).thn fun x h => revS fz x h := bind_at h _ _
theorem a_rep (fz : Bool) (es : CEs) (n : CE) : evE cf (.rep fz es n) L h = (evEs cf es L h).thn fun xs h => (szS xs h).thn fun _ h => (evE cf n L h).thn fun j h => repS fz xs j h := by
  show (evEs cf es L >>= fun xs => szS xs >>= fun _ => evE cf n L >>= fun j => repS fz xs j) h = _
  simp only [bind_at]
theorem a_dcomp (k v : CE) (tg : Tg) (it : IT) (ifs : CTs) (own : List Nat) : evE cf (.dcomp k v tg it ifs own) L h = (evI cf it L h).thn fun s h => kvS (kvStep tg own L (evIfs cf ifs) (evE cf k) (evE cf v)) s h := bind_at h _ _
theorem a_p0 : evP cf .nil L h = .ok none h := rfl
theorem a_p1 (e : CE) : evP cf (.cons e .nil) L h = (evE cf e L h).thn fun x h => ixM x h := bind_at h _ _
theorem a_nil : evEs cf .nil L h = .ok [] h := rfl
theorem a_cons (e : CE) (r : CEs) : evEs cf (.cons e r) L h = (evE cf e L h).thn fun x h => (evEs cf r L h).thn fun xs h => .ok (x :: xs) h := by
  show (evE cf e L >>= fun x => evEs cf r L >>= fun xs => pure (x :: xs)) h = _
  simp only [bind_at]
  rfl
theorem t_and (es : CTs) : evT cf (.and es) L h = evTAnd cf es L h := rfl
theorem t_or (es : CTs) : evT cf (.or es) L h = evTOr cf es L h := rfl
theorem t_not (a : CT) : evT cf (.not a) L h = (evT cf a L h).thn fun b h => .ok (!b) h := bind_at h _ _
theorem t_ife (c a b : CT) : evT cf (.ife c a b) L h = (evT cf c L h).thn fun k h => if k then evT cf a L h else evT cf b L h := by
  show (evT cf c L >>= fun k => if k then evT cf a L else evT cf b L) h = _
  simp only [bind_at]
  congr 1; funext b h2
  cases b <;> rfl
theorem t_cmp (op : CmpOp) (a b : CE) : evT cf (.cmp op a b) L h = (evE cf a L h).thn fun x h => (evE cf b L h).thn fun y h => cmpS op x y h := by
  show (evE cf a L >>= fun x => evE cf b L >>= fun y => cmpS op x y) h = _
  simp only [bind_at]
theorem t_chain (o1 o2 : CmpOp) (a b c : CE) : evT cf (.chain o1 o2 a b c) L h = (evE cf a L h).thn fun x h => (evE cf b L h).thn fun y h => (cmpS o1 x y h).thn fun k h => if k then (evE cf c L h).thn fun z h => cmpS o2 y z h else .ok false h := by
  show (evE cf a L >>= fun x => evE cf b L >>= fun y => cmpS o1 x y >>= fun k => if k then (evE cf c L >>= fun z => cmpS o2 y z) else pure false) h = _
  simp only [bind_at]
  congr 1; funext x h1; congr 1; funext y h2; congr 1; funext b h3
  cases b
  · rfl
  · exact bind_at h3 _ _
theorem t_val (e : CE) : evT cf (.val e) L h = (evE cf e L h).thn fun x h => truS x h := bind_at h _ _
theorem t_and1 (e : CT) : evTAnd cf (.cons e .nil) L h = evT cf e L h := rfl
theorem t_or1 (e : CT) : evTOr cf (.cons e .nil) L h = evT cf e L h := rfl
theorem t_ands (e e2 : CT) (r : CTs) : evTAnd cf (.cons e (.cons e2 r)) L h = (evT cf e L h).thn fun b h => if b then evTAnd cf (.cons e2 r) L h else .ok false h := by
  show (evT cf e L >>= fun b => if b then evTAnd cf (.cons e2 r) L else pure false) h = _
  simp only [bind_at]
  congr 1; funext b h2
  cases b <;> rfl
theorem t_ors (e e2 : CT) (r : CTs) : evTOr cf (.cons e (.cons e2 r)) L h = (evT cf e L h).thn fun b h => if b then .ok true h else evTOr cf (.cons e2 r) L h := by
  show (evT cf e L >>= fun b => if b then pure true else evTOr cf (.cons e2 r) L) h = _
  simp only [bind_at]
  congr 1; funext b h2
  cases b <;> rfl
theorem i_nil : evIfs cf .nil L h = .ok true h := rfl
theorem i_one (e : CT) : evIfs cf (.cons e .nil) L h = evT cf e L h := rfl
theorem i_seq (e : CE) : evI cf (.seq e) L h = (evE cf e L h).thn fun x h => seqS x h := bind_at h _ _
theorem i_rng1 (e : CE) : evI cf (.range1 e) L h = (evE cf e L h).thn fun x h => rangeS (.int 0) x h := bind_at h _ _
theorem i_rng2 (a b : CE) : evI cf (.range2 a b) L h = (evE cf a L h).thn fun x h => (evE cf b L h).thn fun y h => rangeS x y h := by
  show (evE cf a L >>= fun x => evE cf b L >>= fun y => rangeS x y) h = _
  simp only [bind_at]
theorem i_enum (e : CE) : evI cf (.enum e) L h = (evE cf e L h).thn fun x h => enumS x h := bind_at h _ _
/-! ### statements -/
theorem s_nil : evSs cf [] L h = .next L h := rfl
theorem s_cons (s : CS) (r : List CS) : evSs cf (s :: r) L h = (evS cf s L h).nx fun L h => evSs cf r L h := by
  show (match evS cf s L h with | .next L' h' => evSs cf r L' h' | x => x) = _
  cases evS cf s L h <;> rfl
theorem s_asg (t : Tg) (e : CE) : evS cf (.asg t e) L h = (evE cf e L h).to L fun v h' => nextO (t.bind v L) h' := rfl
theorem s_par (is : List Nat) (es : CEs) : evS cf (.par is es) L h = (evEs cf es L h).to L fun vs h' => nextO (setAll L is vs) h' := rfl
theorem s_setI (o i e : CE) : evS cf (.setI o i e) L h = (evE cf e L h).to L fun v h1 => (evE cf o L h1).to L fun x h2 => (evE cf i L h2).to L fun k h3 => (setS x k v h3).to L fun _ h4 => .next L h4 := rfl
theorem s_expr (e : CE) : evS cf (.expr e) L h = (evE cf e L h).to L fun _ h' => .next L h' := rfl
theorem s_ret (e : CE) : evS cf (.ret e) L h = (evE cf e L h).to L fun v h' => .ret v h' := rfl
theorem s_if (c : CT) (a b : List CS) : evS cf (.ifS c a b) L h = (evT cf c L h).to L fun k h' => if k then evSs cf a L h' else evSs cf b L h' := rfl
theorem s_for (t : Tg) (it : IT) (b : List CS) : evS cf (.forS t it b) L h = (evI cf it L h).to L fun s h' => forSr t.bind (evSs cf b) s L h' := rfl
theorem s_aug {i : Nat} {x : PV} {op : Operator} {e : CE} (q : L[i]? = some (some x)) : evS cf (.aug i op e) L h = (evE cf e L h).to L fun y h1 => (augS op x y h1).to L fun z h2 => .next (L.set i (some z)) h2 := by
  show (match L[i]? with
    | some (some x) => (evE cf e L h).to L fun y h1 => (augS op x y h1).to L fun z h2 => .next (L.set i (some z)) h2
    | _ => .stuck) = _
  rw [q]
theorem s_retN : evS cf .retN L h = .ret .non h := rfl
theorem s_pass : evS cf .pass L h = .next L h := rfl
theorem s_brk : evS cf .brk L h = .brk L h := rfl
theorem s_cont : evS cf .cont L h = .cont L h := rfl
theorem s_whl (c : CT) (b : List CS) : evS cf (.whl c b) L h = whileL (evT cf c) (evSs cf b) wmost L h := rfl
theorem s_raise (c : Str) (es : CEs) : evS cf (.raise c es) L h = (evEs cf es L h).to L fun vs h' => if vs.length ≤ sizeLine then .exc ⟨c, []⟩ L h' else .stuck := rfl
def RS.tryXS (tab : List (Str × Bool)) (i j : Nat) : RS → RS
  | .exc e L' h' => (match tabL tab e.c with
    | some true => RS.next (((L'.set i (some (.exc e.c e.fs))).set j (some (.exc e.c e.fs))).set i none) h'
    | some false => RS.exc e L' h'
    | none => RS.stuck)
  | r => r
theorem s_tryX (b : List CS) (cs : List Str) (tab : List (Str × Bool)) (i j : Nat) : evS cf (.tryX b cs tab i j) L h = (evSs cf b L h).tryXS tab i j := by
  show (match evSs cf b L h with
    | .exc e L' h' => (match tabL tab e.c with
      | some true => RS.next (((L'.set i (some (.exc e.c e.fs))).set j (some (.exc e.c e.fs))).set i none) h'
      | some false => RS.exc e L' h'
      | none => RS.stuck)
    | r => r) = _
  cases evSs cf b L h <;> rfl
def RS.tryNS : RS → RS
  | .exc _ _ _ => .stuck
  | r => r
theorem s_tryN (b : List CS) : evS cf (.tryN b) L h = (evSs cf b L h).tryNS := by
  show (match evSs cf b L h with
    | .exc _ _ _ => RS.stuck
    | r => r) = _
  cases evSs cf b L h <;> rfl
end
section
variable (h : PH)
theorem v_non : view h .non = .non := rfl
theorem v_bl (b : Bool) : view h (.bl b) = .bl b := rfl
theorem v_int (i : Int) : view h (.int i) = .int i := rfl
theorem v_str (s : Str) : view h (.str s) = .str s := rfl
theorem v_tup (xs : List PV) : view h (.tup xs) = .tup xs := rfl
theorem v_lst (xs : List PV) : view h (.lst xs) = .lst xs := rfl
end
/-! ### comprehensions over things that stay -/
theorem comp_fx (step : PV → M (Option PV)) (xs : List PV) (h : PH) : compS step (.fx xs) h = compL step xs h := rfl
theorem compL_map {step : PV → M (Option PV)} {g : PV → Option PV} {h : PH} : ∀ xs : List PV, (∀ x ∈ xs, step x h = .ok (g x) h) → compL step xs h = .ok (xs.filterMap g) h
  | [], _ => rfl
  | x :: xs, e => by
    show (step x >>= fun o => compL step xs >>= fun ys => pure (consO o ys) : M (List PV)) h = _
    rw [bind_at, e x (List.mem_cons_self ..), thn_ok, bind_at, compL_map xs fun y hy => e y (List.mem_cons_of_mem _ hy), thn_ok]
    cases q : g x with
    | none => rw [List.filterMap_cons_none q]; rfl
    | some y => rw [List.filterMap_cons_some q]; rfl
theorem noX_ok {α : Type} {m : M α} {h h' : PH} {a : α} (e : m h = .ok a h') : noX m h = .ok a h' := by
  unfold noX
  rw [e]
theorem step_at {tg : Tg} {own : List Nat} {L L' : Lo} {t : Lo → M Bool} {f : Lo → M PV} {x : PV} {h : PH} (e : tg.bind x (wipeL L own) = some L') :
    compStep tg own L t f x h = (t L' h).thn fun b h => if b then (f L' h).thn fun y h => .ok (some y) h else .ok none h := by
  unfold compStep
  rw [e]
  show (t L' >>= fun b => if b then (f L' >>= fun y => pure (some y)) else pure none : M (Option PV)) h = _
  rw [bind_at]
  congr 1; funext b h2
  cases b
  · rfl
  · exact bind_at h2 _ _
theorem seq_str (s : Str) (h : PH) : seqS (.str s) h = .ok (.fx (s.cps.toList.map fun c => .str ⟨#[c]⟩)) h := rfl
theorem seq_lst (xs : List PV) (h : PH) : seqS (.lst xs) h = .ok (.fx xs) h := rfl
theorem fresh_t {xs : List PV} {h : PH} (hl : xs.length ≤ sizeLine) : fresh true xs h = .ok (.lst xs) h := by
  unfold fresh
  rw [if_pos hl]
  rfl
theorem allBl_map {α : Type} (f : α → Bool) : ∀ xs : List α, allBl (xs.map fun x => PV.bl (f x)) = some (xs.map f)
  | [] => rfl
  | x :: xs => by
    show (allBl (xs.map fun x => PV.bl (f x))).map (f x :: ·) = _
    rw [allBl_map f xs]
    rfl
theorem all_lst {α : Type} (f : α → Bool) (xs : List α) (fz : Bool) (h : PH) : primS fz .all [.lst (xs.map fun x => PV.bl (f x))] h = .ok (.bl (xs.all f)) h := by
  show R.opt h ((allBl (xs.map fun x => PV.bl (f x))).map fun bs => PV.bl (bs.all id)) = _
  rw [allBl_map]
  show R.ok (PV.bl ((xs.map f).all id)) h = _
  rw [List.all_map]
  rfl
theorem in_one (c : Nat) (y : Str) (h : PH) : cmpS .In (.str ⟨#[c]⟩) (.str y) h = .ok (decide (c ∈ y.cps.toList)) h := by
  show R.ok (strIn ⟨#[c]⟩ y) h = _
  rw [show strIn ⟨#[c]⟩ y = decide (c ∈ y.cps.toList) from PySem.StrLaws.found_one y c]
theorem notin_one (c : Nat) (y : Str) (h : PH) : cmpS .NotIn (.str ⟨#[c]⟩) (.str y) h = .ok (!decide (c ∈ y.cps.toList)) h := by
  show R.ok (!strIn ⟨#[c]⟩ y) h = _
  rw [show strIn ⟨#[c]⟩ y = decide (c ∈ y.cps.toList) from PySem.StrLaws.found_one y c]
theorem eq_str (x y : Str) (h : PH) : cmpS .Eq (.str x) (.str y) h = .ok (decide (x = y)) h := rfl
theorem ne_str (x y : Str) (h : PH) : cmpS .NotEq (.str x) (.str y) h = .ok (!decide (x = y)) h := rfl
/-! ### numbers -/
section
variable (fz : Bool) (i j : Int) (h : PH)
theorem b_add : binS fz .Add (.int i) (.int j) h = .ok (.int (i + j)) h := rfl
theorem b_sub : binS fz .Sub (.int i) (.int j) h = .ok (.int (i - j)) h := rfl
theorem b_mul (c : i.natAbs < 2 ^ 64 ∨ j.natAbs < 2 ^ 64) : binS fz .Mult (.int i) (.int j) h = .ok (.int (i * j)) h := if_pos (decide_eq_true c)
theorem b_div (c : j ≠ 0 ∧ j.natAbs < 1073741824) : binS fz .FloorDiv (.int i) (.int j) h = .ok (.int (i.fdiv j)) h := if_pos (decide_eq_true c)
theorem b_mod (c : j ≠ 0) : binS fz .Mod (.int i) (.int j) h = .ok (.int (i.fmod j)) h := if_pos (decide_eq_true c)
theorem b_pow (c : 0 ≤ j ∧ j ≤ 1000000 ∧ i.natAbs < 2 ^ 64) : binS fz .Pow (.int i) (.int j) h = .ok (.int (i ^ j.toNat)) h := if_pos (decide_eq_true c)
theorem c_lt : cmpS .Lt (.int i) (.int j) h = .ok (decide (i < j)) h := rfl
theorem c_le : cmpS .LtE (.int i) (.int j) h = .ok (decide (i ≤ j)) h := rfl
theorem c_gt : cmpS .Gt (.int i) (.int j) h = .ok (decide (j < i)) h := rfl
theorem c_ge : cmpS .GtE (.int i) (.int j) h = .ok (decide (j ≤ i)) h := rfl
theorem len_lst (xs : List PV) : primS fz .len [.lst xs] h = .ok (.int xs.length) h := rfl
theorem len_str (s : Str) : primS fz .len [.str s] h = .ok (.int s.length) h := rfl
end
theorem sub_lst {xs : List PV} {i : Int} {v : PV} {h : PH} (e : atI xs i = some v) : subS (.lst xs) (.int i) h = .ok v h := by
  show R.opt h (atI xs i) = _
  rw [e]
  rfl
theorem v_ref {n : Nat} {o : PO} {h : PH} (e : h[n]? = some o) : view h (.ref n) = o.vw := by
  show (match h[n]? with
    | some o => o.vw
    | none => .oth) = _
  rw [e]
theorem atI_nn {α : Type} {xs : List α} {i : Int} (h0 : 0 ≤ i) (h1 : i < xs.length) : ∃ v, atI xs i = some v ∧ v ∈ xs := by
  unfold atI ixN
  rw [if_pos h0, if_pos h1]
  have hl : i.toNat < xs.length := by omega
  exact ⟨xs[i.toNat], List.getElem?_eq_getElem hl, List.getElem_mem hl⟩
end Rk

set_option Elab.async false
set_option linter.all false
set_option maxRecDepth 100000
set_option maxHeartbeats 1000000
/-! RkW: what is wanted of a run; loops by invariants; texts and what repr tells of them. -/
namespace Rk
open PySem PySem.Spec L2

/-- Q of what comes, X of what is raised -/
def Wp {α : Type} (X : PX → PH → Prop) (Q : α → PH → Prop) : R α → Prop
  | .ok a h => Q a h
  | .exc e h => X e h
  | .stuck => False
/-- what is wanted behind a statement -/
structure KS where
  N : Lo → PH → Prop
  T : PV → PH → Prop
  B : Lo → PH → Prop
  C : Lo → PH → Prop
  X : PX → Lo → PH → Prop
def WpS (K : KS) : RS → Prop
  | .next L h => K.N L h
  | .ret v h => K.T v h
  | .brk L h => K.B L h
  | .cont L h => K.C L h
  | .exc e L h => K.X e L h
  | .stuck => False
section
variable {α β : Type} {X : PX → PH → Prop} {Q : α → PH → Prop} {K : KS}
theorem w_ok (a : α) (h : PH) : Wp X Q (.ok a h) = Q a h := rfl
theorem w_thn (r : R β) (k : β → PH → R α) : Wp X Q (r.thn k) = Wp X (fun a h => Wp X Q (k a h)) r := by cases r <;> rfl
theorem w_ite (b : Bool) (r s : R α) : Wp X Q (if b then r else s) = if b then Wp X Q r else Wp X Q s := by cases b <;> rfl
theorem w_fin (Q : PV → PH → Prop) (r : RS) : Wp X Q r.fin = WpS ⟨fun _ h => Q .non h, Q, fun _ _ => False, fun _ _ => False, fun e _ h => X e h⟩ r := by cases r <;> rfl
theorem ws_next (L : Lo) (h : PH) : WpS K (.next L h) = K.N L h := rfl
theorem ws_ret (v : PV) (h : PH) : WpS K (.ret v h) = K.T v h := rfl
theorem ws_nx (r : RS) (k : Lo → PH → RS) : WpS K (r.nx k) = WpS ⟨fun L h => WpS K (k L h), K.T, K.B, K.C, K.X⟩ r := by cases r <;> rfl
theorem ws_to (L : Lo) (r : R β) (k : β → PH → RS) : WpS K (r.to L k) = Wp (fun e h => K.X e L h) (fun a h => WpS K (k a h)) r := by cases r <;> rfl
theorem ws_ite (b : Bool) (r s : RS) : WpS K (if b then r else s) = if b then WpS K r else WpS K s := by cases b <;> rfl
theorem w_imp {X' : PX → PH → Prop} {Q' : α → PH → Prop} (hx : ∀ e h, X e h → X' e h) (hq : ∀ a h, Q a h → Q' a h) : ∀ {r : R α}, Wp X Q r → Wp X' Q' r
  | .ok _ _, h => hq _ _ h
  | .exc _ _, h => hx _ _ h
theorem w_imp' {Q' : α → PH → Prop} (hq : ∀ a h, Q a h → Q' a h) {r : R α} (h : Wp X Q r) : Wp X Q' r := w_imp (fun _ _ h => h) hq h
theorem ws_imp {K' : KS} (hn : ∀ L h, K.N L h → K'.N L h) (ht : ∀ v h, K.T v h → K'.T v h) (hb : ∀ L h, K.B L h → K'.B L h) (hc : ∀ L h, K.C L h → K'.C L h) (hx : ∀ e L h, K.X e L h → K'.X e L h) : ∀ {r : RS}, WpS K r → WpS K' r
  | .next _ _, h => hn _ _ h
  | .ret _ _, h => ht _ _ h
  | .brk _ _, h => hb _ _ h
  | .cont _ _, h => hc _ _ h
  | .exc _ _ _, h => hx _ _ _ h
/-- nothing is raised -/
abbrev Nev : PX → PH → Prop := fun _ _ => False
theorem of_w {r : R α} (h : Wp Nev Q r) : ∃ a h', r = .ok a h' ∧ Q a h' := by
  cases r with
  | ok a h' => exact ⟨a, h', rfl, h⟩
  | exc e h' => exact h.elim
  | stuck => exact h.elim
theorem w_of {r : R α} {a : α} {h' : PH} (e : r = .ok a h') (q : Q a h') : Wp X Q r := by
  rw [e]
  exact q
theorem w_noX {m : M α} {h : PH} (q : Wp Nev Q (m h)) : Wp X Q (noX m h) := by
  unfold noX
  cases e : m h with
  | ok a h' =>
    rw [e] at q
    exact q
  | exc e' h' =>
    rw [e] at q
    exact q.elim
  | stuck =>
    rw [e] at q
    exact q.elim
end

/-! ### loops -/
theorem w_compL {X : PX → PH → Prop} {step : PV → M (Option PV)} {I : Nat → List PV → PH → Prop} {Q : List PV → PH → Prop} : ∀ (xs : List PV) (n : Nat) (ys : List PV) (h : PH), I n ys h →
    (∀ i x ys h, xs[i]? = some x → I (n + i) ys h → Wp X (fun o h => I (n + i + 1) (ys ++ o.toList) h) (step x h)) →
    (∀ zs h, I (n + xs.length) (ys ++ zs) h → Q zs h) → Wp X Q (compL step xs h)
  | [], n, ys, h, hi, _, q => q [] h (by simpa using hi)
  | x :: xs, n, ys, h, hi, st, q => by
    show Wp X Q ((step x >>= fun o => compL step xs >>= fun ys => pure (consO o ys) : M (List PV)) h)
    rw [bind_at, w_thn]
    have s0 := st 0 x ys h rfl hi
    refine w_imp' (fun o h1 g => ?_) s0
    rw [bind_at, w_thn]
    refine w_compL xs (n + 1) (ys ++ o.toList) h1 g (fun i x' ys' h' e g => ?_) (fun zs h2 g => ?_)
    · have := st (i + 1) x' ys' h' (by simpa using e) (by rw [show n + (i + 1) = n + 1 + i by omega]; exact g)
      rw [show n + (i + 1) + 1 = n + 1 + i + 1 by omega] at this
      exact this
    · refine q _ _ ?_
      rw [show n + (x :: xs).length = n + 1 + xs.length by simp; omega]
      cases o <;> simpa [consO] using g
/-- a comprehension whose turns leave the heap -/
theorem w_compM {X : PX → PH → Prop} {step : PV → M (Option PV)} {P : Nat → PV → Prop} {Q : List PV → PH → Prop} {xs : List PV} {h : PH}
    (st : ∀ i x, xs[i]? = some x → Wp Nev (fun o h' => h' = h ∧ ∃ y, o = some y ∧ P i y) (step x h))
    (q : ∀ ys : List PV, ys.length = xs.length → (∀ i y, ys[i]? = some y → P i y) → Q ys h) : Wp X Q (compL step xs h) := by
  suffices g : ∀ (xs : List PV) (P : Nat → PV → Prop), (∀ i x, xs[i]? = some x → Wp Nev (fun o h' => h' = h ∧ ∃ y, o = some y ∧ P i y) (step x h)) →
      ∃ ys : List PV, compL step xs h = .ok ys h ∧ ys.length = xs.length ∧ ∀ i y, ys[i]? = some y → P i y by
    obtain ⟨ys, e, h1, h2⟩ := g xs P st
    rw [e]
    exact q ys h1 h2
  intro xs
  induction xs with
  | nil => exact fun P _ => ⟨[], rfl, rfl, fun i y e => by simp at e⟩
  | cons x xs ih =>
    intro P st
    obtain ⟨o, h', e, rfl, y, rfl, p⟩ := of_w (st 0 x rfl)
    obtain ⟨ys, e2, l2, p2⟩ := ih (fun i => P (i + 1)) (fun i x' e => st (i + 1) x' (by simpa using e))
    refine ⟨y :: ys, ?_, by simp [l2], fun i z ez => ?_⟩
    · show (step x >>= fun o => compL step xs >>= fun ys => pure (consO o ys) : M (List PV)) h' = _
      rw [bind_at, e, thn_ok, bind_at, e2, thn_ok]
      rfl
    · cases i with
      | zero =>
        simp at ez
        rw [← ez]
        exact p
      | succ i => exact p2 i z (by simpa using ez)
theorem w_step {X : PX → PH → Prop} {Q : Option PV → PH → Prop} {tg : Tg} {own : List Nat} {L L' : Lo} {t : Lo → M Bool} {f : Lo → M PV} {x : PV} {h : PH} (e : tg.bind x (wipeL L own) = some L')
    (q : Wp X (fun b h => if b then Wp X (fun y h => Q (some y) h) (f L' h) else Q none h) (t L' h)) : Wp X Q (compStep tg own L t f x h) := by
  rw [step_at e, w_thn]
  refine w_imp' (fun b h1 g => ?_) q
  cases b with
  | true =>
    show Wp X Q ((f L' h1).thn _)
    rw [w_thn]
    exact g
  | false => exact g
theorem ws_forL {K : KS} {bind : PV → Lo → Option Lo} {b : Lo → PH → RS} {I : Nat → Lo → PH → Prop} : ∀ (xs : List PV) (n : Nat) (L : Lo) (h : PH), I n L h →
    (∀ i x L h, xs[i]? = some x → I (n + i) L h → ∃ L1, bind x L = some L1 ∧ WpS ⟨I (n + i + 1), K.T, K.N, I (n + i + 1), K.X⟩ (b L1 h)) →
    (∀ L h, I (n + xs.length) L h → K.N L h) → WpS K (forL bind b xs L h)
  | [], n, L, h, hi, _, q => q L h hi
  | x :: xs, n, L, h, hi, st, q => by
    obtain ⟨L1, e, g⟩ := st 0 x L h rfl hi
    have rest : ∀ L' h', I (n + 1) L' h' → WpS K (forL bind b xs L' h') := fun L' h' g =>
      ws_forL xs (n + 1) L' h' g (fun i x' L h e g => by
        have := st (i + 1) x' L h (by simpa using e) (by rw [show n + (i + 1) = n + 1 + i by omega]; exact g)
        rw [show n + (i + 1) + 1 = n + 1 + i + 1 by omega] at this
        exact this) fun L h g => q L h (by rw [show n + (x :: xs).length = n + 1 + xs.length by simp; omega]; exact g)
    unfold forL
    rw [e]
    show WpS K (match b L1 h with
      | .next L' h' => forL bind b xs L' h'
      | .cont L' h' => forL bind b xs L' h'
      | .brk L' h' => .next L' h'
      | r => r)
    cases q1 : b L1 h with
    | next L' h' =>
      rw [q1] at g
      exact rest L' h' g
    | cont L' h' =>
      rw [q1] at g
      exact rest L' h' g
    | brk L' h' =>
      rw [q1] at g
      exact g
    | ret v h' =>
      rw [q1] at g
      exact g
    | exc e L' h' =>
      rw [q1] at g
      exact g
    | stuck =>
      rw [q1] at g
      exact g

theorem rangeL_at {a b : Int} {i : Nat} {x : PV} (e : (rangeL a b)[i]? = some x) : x = .int (a + i) ∧ a + i < b := by
  unfold rangeL at e
  rw [List.getElem?_map] at e
  cases q : (List.range (b - a).toNat)[i]? with
  | none =>
    rw [q] at e
    cases e
  | some k =>
    rw [q] at e
    obtain ⟨hl, ek⟩ := List.getElem?_eq_some_iff.mp q
    rw [List.getElem_range] at ek
    subst ek
    rw [List.length_range] at hl
    cases e
    exact ⟨rfl, by omega⟩
theorem rangeL_len (a b : Int) : (rangeL a b).length = (b - a).toNat := by
  unfold rangeL
  rw [List.length_map, List.length_range]

/-! ### texts -/
/-- a text of at most n signs, all of them such -/
structure Sg (n : Nat) (P : Nat → Prop) (s : Str) : Prop where
  len : s.length ≤ n
  all : ∀ c ∈ s.cps.toList, P c
theorem len_toList (s : Str) : s.cps.toList.length = s.length := by simp [Str.length]
theorem toList_app (x y : Str) : (x ++ y).cps.toList = x.cps.toList ++ y.cps.toList := by
  show (x.cps ++ y.cps).toList = _
  simp
theorem length_app (x y : Str) : (x ++ y).length = x.length + y.length := by
  rw [← len_toList, toList_app, List.length_append, len_toList, len_toList]
theorem Sg.app {n m : Nat} {P : Nat → Prop} {x y : Str} (a : Sg n P x) (b : Sg m P y) : Sg (n + m) P (x ++ y) :=
  ⟨by rw [length_app]; exact Nat.add_le_add a.len b.len, fun c hc => by rw [toList_app] at hc; exact (List.mem_append.mp hc).elim (a.all c) (b.all c)⟩
theorem Sg.cut {n : Nat} {P : Nat → Prop} {x : Str} (a : Sg n P x) (lo hi : Option Int) : Sg n P (cutS x lo hi) :=
  ⟨Nat.le_trans (cutS_length x lo hi) a.len, fun c hc => a.all c (List.mem_of_mem_drop (List.mem_of_mem_take (by
    have e : (cutS x lo hi).cps.toList = (x.cps.toList.drop (HT.sIx x.length 0 lo)).take (HT.sIx x.length x.length hi - HT.sIx x.length 0 lo) := rfl
    rw [e] at hc
    exact hc)))⟩
theorem Sg.imp {n m : Nat} {P P' : Nat → Prop} {x : Str} (a : Sg n P x) (hn : n ≤ m) (hp : ∀ c, P c → P' c) : Sg m P' x := ⟨Nat.le_trans a.len hn, fun c hc => hp c (a.all c hc)⟩
theorem Sg.join0 {P : Nat → Prop} : ∀ {ys : List Str} {m : Nat}, (∀ y ∈ ys, Sg m P y) → Sg (ys.length * m) P (Txt.join "" ys)
  | [], m, _ => by
    exact ⟨Nat.zero_le _, fun c hc => nomatch hc⟩
  | [y], m, h => by
    show Sg _ P (Builtin.Str.glued "" [y])
    rw [StrLaws.glued_eq_join]
    show Sg _ P y
    have := h y (List.mem_cons_self ..)
    exact this.imp (by simp) fun _ h => h
  | y :: z :: r, m, h => by
    have ih := Sg.join0 (ys := z :: r) (m := m) fun x hx => h x (List.mem_cons_of_mem _ hx)
    have ih : Sg _ P (Builtin.Str.glued "" (z :: r)) := ih
    show Sg _ P (Builtin.Str.glued "" (y :: z :: r))
    rw [StrLaws.glued_eq_join] at ih ⊢
    show Sg _ P (y ++ "" ++ Str.join "" (z :: r))
    have a := h y (List.mem_cons_self ..)
    have e : Sg 0 P ("" : Str) := ⟨Nat.le_refl _, fun c hc => nomatch hc⟩
    refine ((a.app e).app ih).imp ?_ fun _ h => h
    simp [Nat.succ_mul]
    omega
theorem allStr_map (ys : List Str) : allStr (ys.map .str) = some ys := by
  induction ys with
  | nil => rfl
  | cons y ys ih =>
    show (allStr (ys.map .str)).map (y :: ·) = _
    rw [ih]
    rfl
theorem strs_of : ∀ {xs : List PV}, (∀ x ∈ xs, ∃ s, x = .str s) → ∃ ys : List Str, xs = ys.map .str
  | [], _ => ⟨[], rfl⟩
  | x :: xs, h => by
    obtain ⟨s, rfl⟩ := h x (List.mem_cons_self ..)
    obtain ⟨ys, rfl⟩ := strs_of fun x hx => h x (List.mem_cons_of_mem _ hx)
    exact ⟨s :: ys, rfl⟩

theorem sum_le {zs : List Str} {m : Nat} (hz : ∀ z ∈ zs, z.length ≤ m) : (zs.map fun (z : Str) => z.length).sum ≤ zs.length * m := by
  induction zs with
  | nil => simp
  | cons z zs ih =>
    have h1 := hz z (List.mem_cons_self ..)
    have h2 := ih fun z h => hz z (List.mem_cons_of_mem _ h)
    simp only [List.map_cons, List.sum_cons, List.length_cons, Nat.succ_mul]
    omega
theorem join_e {zs : List Str} {m : Nat} (hz : ∀ z ∈ zs, z.length ≤ m) (hm : zs.length * m ≤ sizeLine) (h : PH) : joinS (.str "") (.lst (zs.map PV.str)) h = .ok (.str (Txt.join "" zs)) h := by
  unfold joinS
  show (match allStr (zs.map PV.str) with
    | some ys => if (ys.map fun (z : Str) => z.length).sum + ys.length * (("" : Str)).length ≤ sizeLine then R.ok (PV.str (Txt.join "" ys)) h else .stuck
    | none => .stuck) = _
  rw [allStr_map]
  have e0 : (("" : Str)).length = 0 := rfl
  have := sum_le hz
  exact if_pos (by rw [e0]; omega)

/-! ### what repr tells -/
mutual
/-- at least as many signs as repr tells -/
def wtD : PyData → Nat
  | .none => 4
  | .bool _ => 5
  | .int i => i.natAbs.log2 + 3
  | .str x => 10 * x.length + 2
  | .list xs => wtL xs + 2
  | .tuple xs => wtL xs + 3
  | .dict kvs => wtK kvs + 2
def wtL : List PyData → Nat
  | [] => 0
  | x :: xs => wtD x + 2 + wtL xs
def wtK : List (PyData × PyData) → Nat
  | [] => 0
  | (k, v) :: r => wtD k + wtD v + 4 + wtK r
end
mutual
/-- its texts have signs -/
def okC : PyData → Bool
  | .none => true
  | .bool _ => true
  | .int _ => true
  | .str x => PyData.strOk x
  | .list xs => okCL xs
  | .tuple xs => okCL xs
  | .dict kvs => okCK kvs
def okCL : List PyData → Bool
  | [] => true
  | x :: xs => okC x && okCL xs
def okCK : List (PyData × PyData) → Bool
  | [] => true
  | (k, v) :: r => okC k && (okC v && okCK r)
end
theorem int_text_len (i : Int) : (toString i : Str).length ≤ i.natAbs.log2 + 3 := by
  rw [ofString_length]
  exact Nat.le_trans (int_text_length_le (k := i.natAbs.log2 + 1) (by omega) (by omega)) (by omega)
theorem textFrom_le : ∀ (ts : List Str) (k : Nat) (acc : Str), (textFrom k acc ts).length ≤ acc.length + (ts.map (·.length + 2)).sum
  | [], k, acc => by simp [textFrom]
  | t :: ts, k, acc => by
    have ih := textFrom_le ts (k + 1) (acc ++ (if k > 0 then ", " else "" : String) ++ t)
    show (textFrom (k + 1) (acc ++ (if k > 0 then ", " else "" : String) ++ t) ts).length ≤ _
    rw [length_app, length_app] at ih
    have e : ((if k > 0 then ", " else "" : String) : Str).length ≤ 2 := by
      split
      · decide
      · decide
    simp only [List.map_cons, List.sum_cons]
    omega
theorem joinC_le (ts : List Str) : (Str.join ", " ts).length ≤ (ts.map (·.length + 2)).sum := by
  have h := StrLaws.join_length_le ", " ts
  have e : ((", " : Str)).length = 2 := rfl
  rw [e] at h
  have e2 : (ts.map (·.length + 2)).sum = (ts.map (·.length)).sum + ts.length * 2 := by
    induction ts with
    | nil => rfl
    | cons t ts ih => simp only [List.map_cons, List.sum_cons, List.length_cons, ih (StrLaws.join_length_le ", " ts)]; omega
  omega
mutual
theorem shown_wt : ∀ d : PyData, okC d = true → d.shown.length ≤ wtD d
  | .none, _ => by decide
  | .bool b, _ => by cases b <;> decide
  | .int i, _ => int_text_len i
  | .str x, h => by
    show (reprText x).length ≤ 10 * x.length + 2
    refine StrLaws.reprText_len x fun c hc => ?_
    have h : PyData.strOk x = true := h
    unfold PyData.strOk at h
    rw [← Array.all_toList] at h
    have := of_decide_eq_true (List.all_eq_true.mp h c hc)
    exact Nat.lt_trans this (by decide)
  | .list xs, h => by
    have ih := shownL_wt xs h
    show (textFrom 0 "[" (PyData.shownAll xs) ++ "]" : Str).length ≤ wtL xs + 2
    have := textFrom_le (PyData.shownAll xs) 0 "["
    rw [length_app]
    have e1 : (("[" : Str)).length = 1 := rfl
    have e2 : (("]" : Str)).length = 1 := rfl
    rw [e1] at this
    rw [e2]
    omega
  | .tuple xs, h => by
    have ih := shownL_wt xs h
    show (("(" : Str) ++ Str.join ", " (PyData.shownAll xs) ++ (if (PyData.shownAll xs).length == 1 then ",)" else ")" : String) : Str).length ≤ wtL xs + 3
    have := joinC_le (PyData.shownAll xs)
    rw [length_app, length_app]
    have e1 : (("(" : Str)).length = 1 := rfl
    have e2 : (((if (PyData.shownAll xs).length == 1 then ",)" else ")" : String) : Str)).length ≤ 2 := by split <;> decide
    rw [e1]
    omega
  | .dict kvs, h => by
    have ih := shownK_wt kvs h
    show (("{" : Str) ++ Str.join ", " (PyData.shownKv kvs) ++ "}" : Str).length ≤ wtK kvs + 2
    have := joinC_le (PyData.shownKv kvs)
    rw [length_app, length_app]
    have e1 : (("{" : Str)).length = 1 := rfl
    have e2 : (("}" : Str)).length = 1 := rfl
    rw [e1, e2]
    omega
theorem shownL_wt : ∀ ds : List PyData, okCL ds = true → ((PyData.shownAll ds).map (·.length + 2)).sum ≤ wtL ds
  | [], _ => Nat.le_refl _
  | d :: ds, h => by
    have h := Bool.and_eq_true_iff.mp (show (okC d && okCL ds) = true from h)
    have i1 := shown_wt d h.1
    have i2 := shownL_wt ds h.2
    show ((d.shown :: PyData.shownAll ds).map (·.length + 2)).sum ≤ wtD d + 2 + wtL ds
    simp only [List.map_cons, List.sum_cons]
    omega
theorem shownK_wt : ∀ ds : List (PyData × PyData), okCK ds = true → ((PyData.shownKv ds).map (·.length + 2)).sum ≤ wtK ds
  | [], _ => Nat.le_refl _
  | (k, v) :: ds, h => by
    have h := Bool.and_eq_true_iff.mp (show (okC k && (okC v && okCK ds)) = true from h)
    have h2 := Bool.and_eq_true_iff.mp h.2
    have i1 := shown_wt k h.1
    have i2 := shown_wt v h2.1
    have i3 := shownK_wt ds h2.2
    show (((k.shown ++ ": " ++ v.shown) :: PyData.shownKv ds).map (·.length + 2)).sum ≤ wtD k + wtD v + 4 + wtK ds
    simp only [List.map_cons, List.sum_cons, length_app]
    have e1 : ((": " : Str)).length = 2 := rfl
    rw [e1]
    omega
end
theorem repr_at {x : PV} {h : PH} {d : PyData} (e : toD 70 h x = some d) (c : okC d = true) (s : d.showable = true) (p : d.depth ≤ 64) (w : wtD d ≤ sizeLine) (n : (!d.hasDict || noList d) = true) :
    reprS x h = .ok (.str d.shown) h := by
  unfold reprS
  rw [e]
  have q : reprOk d = true := by
    unfold reprOk
    rw [s, decide_eq_true p, decide_eq_true (Nat.le_trans (shown_wt d c) w), n]
    rfl
  show (if reprOk d = true then _ else _) = _
  rw [if_pos q]
/-! ### a dict's display, of parts that leave the heap -/
def dfin (kvs : List (Key × PV)) : List (Key × PV) := kvs.foldl (fun acc kv => insK acc kv.1 kv.2) []
theorem dct_at {cf : CF} {es : CEs} {L : Lo} {h : PH} {xs : List PV} {kvs : List (Key × PV)} (e : evEs cf es L (h ++ [.dct false []]) = .ok xs (h ++ [.dct false []])) (p : pairK xs = some kvs) :
    evE cf (.dct es) L h = .ok (.ref h.length) (h ++ [.dct false (dfin kvs)]) := by
  show (match evEs cf es L (h ++ [PO.dct false []]) with
    | .ok xs h' => (match pairK xs, h'[h.length]? with
      | some kvs, some (.dct false []) => R.ok (PV.ref h.length) (h'.set h.length (PO.dct false (dfin kvs)))
      | _, _ => .stuck)
    | .exc _ _ => .stuck
    | .stuck => .stuck) = _
  rw [e]
  dsimp only
  rw [p, List.getElem?_append_right (Nat.le_refl _), Nat.sub_self]
  show R.ok (PV.ref h.length) ((h ++ [PO.dct false []]).set h.length _) = _
  rw [List.set_append_right _ _ (Nat.le_refl _), Nat.sub_self]
  rfl
theorem eq_int (i j : Int) (h : PH) : cmpS .Eq (.int i) (.int j) h = .ok (decide (i = j)) h := by
  show R.ok (PyData.eqv (.int i) (.int j)) h = _
  congr 1
end Rk

set_option Elab.async false
set_option linter.all false
set_option maxRecDepth 100000
set_option maxHeartbeats 1000000
/-! RkX: the cells of a law's script: what _law_cell answers. -/
namespace Rk
open PySem PySem.Spec L2
/-- a number's division by the turns -/
theorem own_loop {cf : CF} {a b c d : Option PV} {h : PH} : ∀ (xs : List PV) (i : Int) (e : Option PV), 0 ≤ i → ∃ (j : Int) (e' : Option PV), 0 ≤ j ∧ forL (Tg.bind (.nm 5)) (evSs cf [.asg (.nm 4) (.bin true .FloorDiv (.var 4) (.cst (.int 306783379)))]) xs [a, b, c, d, some (.int i), e] h = .next [a, b, c, d, some (.int j), e'] h
  | [], i, e, hi => ⟨i, e, hi, rfl⟩
  | x :: xs, i, e, hi => by
    have hd : binS true .FloorDiv (.int i) (.int 306783379) h = .ok (.int (i.fdiv 306783379)) h := rfl
    have hj : 0 ≤ i.fdiv 306783379 := Int.fdiv_nonneg hi (by decide)
    obtain ⟨j, e', h1, h2⟩ := own_loop (cf := cf) (a := a) (b := b) (c := c) (d := d) (h := h) xs (i.fdiv 306783379) (some x) hj
    refine ⟨j, e', h1, ?_⟩
    have hb : evSs cf [.asg (.nm 4) (.bin true .FloorDiv (.var 4) (.cst (.int 306783379)))] [a, b, c, d, some (.int i), some x] h = .next [a, b, c, d, some (.int (i.fdiv 306783379)), some x] h := by
      simp [s_cons, s_nil, s_asg, a_bin, a_var, a_cst, Cst.pv, lk_0, lk_s, thn_ok, to_ok, nextO, Tg.bind, nx_next, hd]
    show (match evSs cf [.asg (.nm 4) (.bin true .FloorDiv (.var 4) (.cst (.int 306783379)))] [a, b, c, d, some (.int i), some x] h with
      | .next L' h' => forL (Tg.bind (.nm 5)) (evSs cf [.asg (.nm 4) (.bin true .FloorDiv (.var 4) (.cst (.int 306783379)))]) xs L' h'
      | .cont L' h' => forL (Tg.bind (.nm 5)) (evSs cf [.asg (.nm 4) (.bin true .FloorDiv (.var 4) (.cst (.int 306783379)))]) xs L' h'
      | .brk L' h' => .next L' h'
      | r => r) = _
    rw [hb]
    exact h2
theorem fm0 (x : Int) {y : Int} (h : 0 < y) : 0 ≤ x.fmod y := by
  rw [Int.fmod_eq_emod_of_nonneg _ (Int.le_of_lt h)]
  exact Int.emod_nonneg _ (by omega)
theorem fm1 (x : Int) {y : Int} (h : 0 < y) : x.fmod y < y := by
  rw [Int.fmod_eq_emod_of_nonneg _ (Int.le_of_lt h)]
  exact Int.emod_lt_of_pos _ h
/-- the spot: object 0, a list of one number -/
def Spot (h : PH) (k : Int) : Prop := h[0]? = some (.lst [.int k])
theorem Spot.view {h : PH} {k : Int} (e : Spot h k) : Rk.view h (.ref 0) = .lst [.int k] := v_ref e
theorem Spot.sub {h : PH} {k : Int} (e : Spot h k) : subS (.ref 0) (.int 0) h = .ok (.int k) h := by
  unfold subS
  rw [e.view]
  rfl
theorem Spot.set {h : PH} {k j : Int} (e : Spot h k) : setS (.ref 0) (.int 0) (.int j) h = .ok () (h.set 0 (.lst [.int j])) := by
  unfold setS
  dsimp only
  rw [e.view]
  rfl
theorem Spot.next {h : PH} {k j : Int} (e : Spot h k) : Spot (h.set 0 (.lst [.int j])) j := by
  have hl : 0 < h.length := (List.getElem?_eq_some_iff.mp e).1
  exact List.getElem?_set_self hl
/-- what _law_cell ends with -/
theorem last_ok {cf : CF} {a b c e f : Option PV} {x : Int} {h : PH} : ∃ r : Int, 0 ≤ r ∧ r < 2147483648 ∧ evSs cf [.ret (.bin true .FloorDiv (.bin true .Mod (.bin true .Pow (.bin true .Mod (.var 3) (.cst (.int 2147483647))) (.cst (.int 5))) (.cst (.int 2147483647))) (.cst (.int 7)))] [a, b, c, some (.int x), e, f] h = .ret (.int r) h := by
  have m0 : 0 ≤ x.fmod 2147483647 := fm0 _ (by decide)
  have m1 : x.fmod 2147483647 < 2147483647 := fm1 _ (by decide)
  have p0 := fm0 (x.fmod 2147483647 ^ 5) (show (0 : Int) < 2147483647 by decide)
  have p1 := fm1 (x.fmod 2147483647 ^ 5) (show (0 : Int) < 2147483647 by decide)
  refine ⟨((x.fmod 2147483647 ^ 5).fmod 2147483647).fdiv 7, Int.fdiv_nonneg p0 (by decide), ?_, ?_⟩
  · rw [Int.fdiv_eq_ediv_of_nonneg _ (by decide)]
    omega
  · have e1 := b_mod true x 2147483647 h (by decide)
    have e2 := b_pow true (x.fmod 2147483647) 5 h ⟨by decide, by decide, by omega⟩
    have e3 := b_mod true (x.fmod 2147483647 ^ (5 : Int).toNat) 2147483647 h (by decide)
    have e4 := b_div true ((x.fmod 2147483647 ^ (5 : Int).toNat).fmod 2147483647) 7 h ⟨by decide, by decide⟩
    simp only [s_cons, s_ret, a_bin, a_var, a_cst, Cst.pv, lk_0, lk_s, thn_ok, to_ok, nx_ret, e1, e2, e3, e4]
    rfl
def c1 : CS := .setI (.var 1) (.cst (.int 0)) (.bin true .Add (.sub (.var 1) (.cst (.int 0))) (.cst (.int 1)))
def c2 : CS := .asg (.nm 2) (.sub (.var 1) (.cst (.int 0)))
def c3 : CS := .asg (.nm 3) (.bin true .Add (.bin true .Mult (.bin true .Mult (.cst (.int 31)) (.var 2)) (.var 2)) (.bin true .Mult (.cst (.int 7919)) (.var 2)))
def c4 : CS := .ifS (.and (.cons (.cmp .Gt (.pr true .len (.cons (.var 0) .nil)) (.cst (.int 0))) (.cons (.cmp .GtE (.sub (.var 0) (.bin true .Mod (.var 2) (.pr true .len (.cons (.var 0) .nil)))) (.bin true .Pow (.cst (.int 10)) (.cst (.int 18)))) (.cons (.cmp .Lt (.bin true .FloorDiv (.var 2) (.pr true .len (.cons (.var 0) .nil))) (.cst (.int 60))) .nil)))) [
    .asg (.nm 4) (.sub (.var 0) (.bin true .Mod (.var 2) (.pr true .len (.cons (.var 0) .nil)))),
    .forS (.nm 5) (.range1 (.bin true .FloorDiv (.var 2) (.pr true .len (.cons (.var 0) .nil)))) [
      .asg (.nm 4) (.bin true .FloorDiv (.var 4) (.cst (.int 306783379)))],
    .ifS (.cmp .Gt (.var 4) (.cst (.int 0))) [
      .ret (.bin true .Mod (.var 4) (.cst (.int 306783379)))] []] []
def c5 : CS := .ifS (.cmp .Gt (.pr true .len (.cons (.var 0) .nil)) (.cst (.int 0))) [
    .asg (.nm 3) (.bin true .Add (.var 3) (.bin true .Mult (.bin true .Mod (.sub (.var 0) (.bin true .Mod (.var 2) (.pr true .len (.cons (.var 0) .nil)))) (.cst (.int 2147483629))) (.bin true .Add (.cst (.int 1)) (.bin true .FloorDiv (.var 2) (.pr true .len (.cons (.var 0) .nil))))))] []
def c6 : CS := .ret (.bin true .FloorDiv (.bin true .Mod (.bin true .Pow (.bin true .Mod (.var 3) (.cst (.int 2147483647))) (.cst (.int 5))) (.cst (.int 2147483647))) (.cst (.int 7)))
theorem at_ints {ns : List Int} {i : Int} (h0 : 0 ≤ i) (h1 : i < ns.length) : ∃ v : Int, atI (ns.map PV.int) i = some (.int v) := by
  obtain ⟨x, e, m⟩ := atI_nn (xs := ns.map PV.int) h0 (by rw [List.length_map]; exact h1)
  obtain ⟨v, _, rfl⟩ := List.mem_map.mp m
  exact ⟨v, e⟩
theorem fd0 {k m : Int} (hk : 0 ≤ k) (hm : 0 < m) : 0 ≤ k.fdiv m ∧ k.fdiv m ≤ k := by
  rw [Int.fdiv_eq_ediv_of_nonneg _ (Int.le_of_lt hm)]
  exact ⟨Int.ediv_nonneg hk (Int.le_of_lt hm), Int.ediv_le_self _ hk⟩
theorem c4_ok {cf : CF} {ns : List Int} {h : PH} {K B : Int} {a : Option PV} (k0 : 1 ≤ K) (k1 : K ≤ 100001) (hm : 0 < ns.length) (hl : ns.length ≤ 63) :
    (∃ e f, evS cf c4 [some (.lst (ns.map .int)), a, some (.int K), some (.int B), none, none] h = .next [some (.lst (ns.map .int)), a, some (.int K), some (.int B), e, f] h) ∨
    ∃ r : Int, 0 ≤ r ∧ r < 2147483648 ∧ evS cf c4 [some (.lst (ns.map .int)), a, some (.int K), some (.int B), none, none] h = .ret (.int r) h := by
  have hlen : ((ns.map PV.int).length : Int) = ns.length := by rw [List.length_map]
  have d1 := b_mod true K ns.length h (by omega)
  have d2 := b_div true K ns.length h ⟨by omega, by omega⟩
  have hp := b_pow true 10 18 h (by decide)
  obtain ⟨v, ev⟩ := at_ints (ns := ns) (fm0 K (show (0 : Int) < ns.length by omega)) (fm1 K (by omega))
  have sv := sub_lst (h := h) ev
  obtain ⟨q0, q1⟩ := fd0 (k := K) (m := ns.length) (by omega) (by omega)
  have g0 : decide ((0 : Int) < ns.length) = true := decide_eq_true (by omega)
  by_cases t : ((10 : Int) ^ (18 : Int).toNat ≤ v) ∧ K.fdiv ns.length < 60
  · have hv : 0 ≤ v := Int.le_trans (by decide) t.1
    have t1 : decide ((10 : Int) ^ (18 : Int).toNat ≤ v) = true := decide_eq_true t.1
    have t2 : decide (K.fdiv ns.length < 60) = true := decide_eq_true t.2
    obtain ⟨j, e', j0, hf⟩ := own_loop (cf := cf) (a := some (.lst (ns.map .int))) (b := a) (c := some (.int K)) (d := some (.int B)) (h := h) (rangeL 0 (K.fdiv ns.length)) v none hv
    have hr : rangeS (.int 0) (.int (K.fdiv ns.length)) h = .ok (.fx (rangeL 0 (K.fdiv ns.length))) h := if_pos ⟨by decide, by decide, by omega, by omega⟩
    have hfor : ∀ L : Lo, forSr (Tg.bind (.nm 5)) (evSs cf [.asg (.nm 4) (.bin true .FloorDiv (.var 4) (.cst (.int 306783379)))]) (.fx (rangeL 0 (K.fdiv ns.length))) L h = forL (Tg.bind (.nm 5)) (evSs cf [.asg (.nm 4) (.bin true .FloorDiv (.var 4) (.cst (.int 306783379)))]) (rangeL 0 (K.fdiv ns.length)) L h := fun _ => rfl
    have hm2 := b_mod true j 306783379 h (by decide)
    by_cases hj : 0 < j
    · right
      refine ⟨j.fmod 306783379, fm0 _ (by decide), Int.lt_trans (fm1 _ (by decide)) (by decide), ?_⟩
      have t3 : decide ((0 : Int) < j) = true := decide_eq_true hj
      simp only [List.set_cons_succ, List.set_cons_zero, ↓reduceIte, Bool.false_eq_true, hlen, c4, s_if, t_and, t_ands, t_and1, t_cmp, a_pr, a_cons, a_nil, a_var, a_cst, a_sub, a_bin, Cst.pv, lk_0, lk_s, thn_ok, to_ok, len_lst, c_gt, c_ge, c_lt, d1, d2, hp, sv, g0, t1, t2, s_cons, s_nil, s_asg, s_for, i_rng1, hr, nextO, Tg.bind, nx_next, hfor, hf, t3, s_ret, hm2, nx_ret]
    · left
      have t3 : decide ((0 : Int) < j) = false := decide_eq_false hj
      refine ⟨some (.int j), e', ?_⟩
      simp only [List.set_cons_succ, List.set_cons_zero, ↓reduceIte, Bool.false_eq_true, hlen, c4, s_if, t_and, t_ands, t_and1, t_cmp, a_pr, a_cons, a_nil, a_var, a_cst, a_sub, a_bin, Cst.pv, lk_0, lk_s, thn_ok, to_ok, len_lst, c_gt, c_ge, c_lt, d1, d2, hp, sv, g0, t1, t2, s_cons, s_nil, s_asg, s_for, i_rng1, hr, nextO, Tg.bind, nx_next, hfor, hf, t3, s_ret, hm2, nx_ret]
  · left
    refine ⟨none, none, ?_⟩
    by_cases t1 : (10 : Int) ^ (18 : Int).toNat ≤ v
    · have t2 : decide (K.fdiv ns.length < 60) = false := decide_eq_false fun z => t ⟨t1, z⟩
      have t1 : decide ((10 : Int) ^ (18 : Int).toNat ≤ v) = true := decide_eq_true t1
      simp only [↓reduceIte, Bool.false_eq_true, hlen, c4, s_if, t_and, t_ands, t_and1, t_cmp, a_pr, a_cons, a_nil, a_var, a_cst, a_sub, a_bin, Cst.pv, lk_0, lk_s, thn_ok, to_ok, len_lst, c_gt, c_ge, c_lt, d1, d2, hp, sv, g0, t1, t2, s_nil]
    · have t1 : decide ((10 : Int) ^ (18 : Int).toNat ≤ v) = false := decide_eq_false t1
      simp only [↓reduceIte, Bool.false_eq_true, hlen, c4, s_if, t_and, t_ands, t_and1, t_cmp, a_pr, a_cons, a_nil, a_var, a_cst, a_sub, a_bin, Cst.pv, lk_0, lk_s, thn_ok, to_ok, len_lst, c_gt, c_ge, c_lt, d1, d2, hp, sv, g0, t1, s_nil]
theorem c5_ok {cf : CF} {ns : List Int} {h : PH} {K B : Int} {a e f : Option PV} (k0 : 1 ≤ K) (k1 : K ≤ 100001) (hm : 0 < ns.length) (hl : ns.length ≤ 63) :
    ∃ B' : Int, evS cf c5 [some (.lst (ns.map .int)), a, some (.int K), some (.int B), e, f] h = .next [some (.lst (ns.map .int)), a, some (.int K), some (.int B'), e, f] h := by
  have hlen : ((ns.map PV.int).length : Int) = ns.length := by rw [List.length_map]
  have d1 := b_mod true K ns.length h (by omega)
  have d2 := b_div true K ns.length h ⟨by omega, by omega⟩
  obtain ⟨v, ev⟩ := at_ints (ns := ns) (fm0 K (show (0 : Int) < ns.length by omega)) (fm1 K (by omega))
  have sv := sub_lst (h := h) ev
  obtain ⟨q0, q1⟩ := fd0 (k := K) (m := ns.length) (by omega) (by omega)
  have g0 : decide ((0 : Int) < ns.length) = true := decide_eq_true (by omega)
  have d3 := b_mod true v 2147483629 h (by decide)
  have d4 := b_mul true (v.fmod 2147483629) (1 + K.fdiv ns.length) h (.inr (by omega))
  refine ⟨B + v.fmod 2147483629 * (1 + K.fdiv ns.length), ?_⟩
  simp only [List.set_cons_succ, List.set_cons_zero, ↓reduceIte, hlen, c5, s_if, t_cmp, a_pr, a_cons, a_nil, a_var, a_cst, a_sub, a_bin, Cst.pv, lk_0, lk_s, thn_ok, to_ok, len_lst, c_gt, d1, d2, d3, d4, b_add, sv, g0, s_cons, s_nil, s_asg, nextO, Tg.bind, nx_next]
def fcell : FD := ⟨"_law_cell", "_law_cell", ["_law_cells", "_law_spot"], ["_law_cells", "_law_spot", "_law_k", "_law_base", "_law_own", "_law_turn"], [c1, c2, c3, c4, c5, c6], false⟩
theorem cell_ok {G : List FD} {f n : Nat} (eG : G[f]? = some fcell) {ns : List Int} {h : PH} {k : Int} (sp : Spot h k) (k0 : 0 ≤ k) (k1 : k ≤ 100000) (hl : ns.length ≤ 63) :
    ∃ r : Int, 0 ≤ r ∧ r < 2147483648 ∧ callN G (n + 1) f [.lst (ns.map .int), .ref 0] h = .ok (.int r) (h.set 0 (.lst [.int (k + 1)])) := by
  rw [call_eq eG rfl]
  generalize hcf : cfN G n = cf
  have sp1 : Spot (h.set 0 (.lst [.int (k + 1)])) (k + 1) := sp.next
  generalize hh : h.set 0 (.lst [.int (k + 1)]) = h1 at sp1 ⊢
  generalize hxs : ns.map PV.int = xs
  have hlx : xs.length = ns.length := by rw [← hxs, List.length_map]
  show ∃ r : Int, 0 ≤ r ∧ r < 2147483648 ∧ (evSs cf [c1, c2, c3, c4, c5, c6] [some (.lst xs), some (.ref 0), none, none, none, none] h).fin = _
  have e1 : evS cf c1 [some (.lst xs), some (.ref 0), none, none, none, none] h = .next [some (.lst xs), some (.ref 0), none, none, none, none] h1 := by
    simp only [c1, s_setI, a_bin, a_sub, a_var, a_cst, Cst.pv, lk_0, lk_s, thn_ok, to_ok, sp.sub, b_add, sp.set, hh]
  have e2 : evS cf c2 [some (.lst xs), some (.ref 0), none, none, none, none] h1 = .next [some (.lst xs), some (.ref 0), some (.int (k + 1)), none, none, none] h1 := by
    simp only [c2, s_asg, a_sub, a_var, a_cst, Cst.pv, lk_0, lk_s, thn_ok, to_ok, sp1.sub, nextO, Tg.bind]
    rfl
  have e3 : evS cf c3 [some (.lst xs), some (.ref 0), some (.int (k + 1)), none, none, none] h1 = .next [some (.lst xs), some (.ref 0), some (.int (k + 1)), some (.int (31 * (k + 1) * (k + 1) + 7919 * (k + 1))), none, none] h1 := by
    have m1 := b_mul true 31 (k + 1) h1 (.inl (by decide))
    have m2 := b_mul true (31 * (k + 1)) (k + 1) h1 (.inr (by omega))
    have m3 := b_mul true 7919 (k + 1) h1 (.inl (by decide))
    simp only [c3, s_asg, a_bin, a_var, a_cst, Cst.pv, lk_0, lk_s, thn_ok, to_ok, m1, m2, m3, b_add, nextO, Tg.bind]
    rfl
  rw [s_cons, e1, nx_next, s_cons, e2, nx_next, s_cons, e3, nx_next, s_cons]
  subst hxs
  by_cases hm : 0 < ns.length
  · rcases c4_ok (cf := cf) (h := h1) (a := some (.ref 0)) (B := 31 * (k + 1) * (k + 1) + 7919 * (k + 1)) (K := k + 1) (by omega) (by omega) hm hl with ⟨e, f, e4⟩ | ⟨r, r0, r1, e4⟩
    · obtain ⟨B', e5⟩ := c5_ok (cf := cf) (h := h1) (a := some (.ref 0)) (B := 31 * (k + 1) * (k + 1) + 7919 * (k + 1)) (K := k + 1) (e := e) (f := f) (by omega) (by omega) hm hl
      obtain ⟨r, r0, r1, e6⟩ := last_ok (cf := cf) (a := some (.lst (ns.map .int))) (b := some (.ref 0)) (c := some (.int (k + 1))) (e := e) (f := f) (x := B') (h := h1)
      refine ⟨r, r0, r1, ?_⟩
      rw [e4, nx_next, s_cons, e5, nx_next]
      show (evSs cf [c6] _ h1).fin = _
      unfold c6
      rw [e6]
      rfl
    · refine ⟨r, r0, r1, ?_⟩
      rw [e4]
      rfl
  · have hz : ns = [] := List.eq_nil_of_length_eq_zero (by omega)
    subst hz
    obtain ⟨r, r0, r1, e6⟩ := last_ok (cf := cf) (a := some (.lst [])) (b := some (.ref 0)) (c := some (.int (k + 1))) (e := none) (f := none) (x := 31 * (k + 1) * (k + 1) + 7919 * (k + 1)) (h := h1)
    refine ⟨r, r0, r1, ?_⟩
    have e4 : ∀ L, evS cf c4 (some (.lst []) :: L) h1 = .next (some (.lst []) :: L) h1 := fun _ => rfl
    have e5 : ∀ L, evS cf c5 (some (.lst []) :: L) h1 = .next (some (.lst []) :: L) h1 := fun _ => rfl
    show (((evS cf c4 (some (.lst []) :: _) h1).nx _).fin) = _
    rw [e4, nx_next, s_cons, e5, nx_next]
    show (evSs cf [c6] _ h1).fin = _
    unfold c6
    rw [e6]
    rfl
end Rk

set_option Elab.async false
set_option linter.all false
set_option maxRecDepth 100000
set_option maxHeartbeats 1000000
/-! RkY: lists, dicts, walks up a dict: shared by the plain proofs. -/
namespace Rk
open PySem PySem.Spec L2
theorem mapM_map {α β γ : Type} {f : α → Option β} {g : γ → α} {k : γ → β} : ∀ {xs : List γ}, (∀ x ∈ xs, f (g x) = some (k x)) → (xs.map g).mapM f = some (xs.map k)
  | [], _ => rfl
  | x :: xs, h => by
    rw [List.map_cons, List.mapM_cons, h x (List.mem_cons_self ..), mapM_map fun y hy => h y (List.mem_cons_of_mem _ hy)]
    rfl
theorem toD_str (n : Nat) (h : PH) (s : Str) : toD (n + 1) h (.str s) = some (.str s) := rfl
theorem toD_non (n : Nat) (h : PH) : toD (n + 1) h .non = some .none := rfl
theorem toD_int (n : Nat) (h : PH) (i : Int) : toD (n + 1) h (.int i) = some (.int i) := rfl
theorem toD_tup {n : Nat} {h : PH} {xs : List PV} {ds : List PyData} (e : xs.mapM (toD n h) = some ds) : toD (n + 1) h (.tup xs) = some (.tuple ds) := by
  show (xs.mapM (toD n h)).map PyData.tuple = _
  rw [e]
  rfl
theorem toD_lst {n : Nat} {h : PH} {xs : List PV} {ds : List PyData} (e : xs.mapM (toD n h) = some ds) : toD (n + 1) h (.lst xs) = some (.list ds) := by
  show (xs.mapM (toD n h)).map PyData.list = _
  rw [e]
  rfl
theorem toD_ref {n k : Nat} {h : PH} {xs : List PV} {ds : List PyData} (a : h[k]? = some (.lst xs)) (e : xs.mapM (toD n h) = some ds) : toD (n + 1) h (.ref k) = some (.list ds) := by
  unfold toD
  rw [a]
  show (xs.mapM (toD n h)).map PyData.list = _
  rw [e]
  rfl
mutual
theorem eqv_refl_c : ∀ d : PyData, d.canLay0 = true → PyData.eqv d d = true
  | .none, _ => rfl
  | .bool b, _ => by simp [PyData.eqv]
  | .int i, _ => by simp [PyData.eqv]
  | .str x, _ => by simp [PyData.eqv]
  | .list xs, h => by rw [PyData.eqv]; exact eqvAll_refl_c xs h
  | .tuple xs, h => by rw [PyData.eqv]; exact eqvAll_refl_c xs h
  | .dict _, h => nomatch h
theorem eqvAll_refl_c : ∀ xs : List PyData, PyData.canLayAll0 xs = true → PyData.eqvAll xs xs = true
  | [], _ => rfl
  | x :: xs, h => by
    have h' : x.canLay0 = true ∧ PyData.canLayAll0 xs = true := by simpa [PyData.canLayAll0] using h
    rw [PyData.eqvAll, eqv_refl_c x h'.1, eqvAll_refl_c xs h'.2]; rfl
end
/-- two things alike -/
theorem eq_same {x y : PV} {h : PH} {d : PyData} (ex : toD 70 h x = some d) (ey : toD 70 h y = some d) (s : SeqAt.shaped d = true) : eqS x y h = .ok true h := by
  have q : PyData.eqv d d = true := eqv_refl_c d (by
    unfold SeqAt.shaped at s
    exact (Bool.and_eq_true_iff.mp s).1)
  have g : (match toD 70 h x, toD 70 h y with
    | some d, some e => if SeqAt.shaped d && SeqAt.shaped e then R.ok (PyData.eqv d e) h else .stuck
    | _, _ => .stuck) = .ok true h := by
    rw [ex, ey]
    show (if SeqAt.shaped d && SeqAt.shaped d then R.ok (PyData.eqv d d) h else .stuck) = _
    rw [s, q]
    rfl
  unfold eqS
  split
  · have ex : some (PyData.str _) = some d := ex
    have ey : some (PyData.str _) = some d := ey
    cases ex
    cases ey
    exact congrArg (R.ok · h) (decide_eq_true rfl)
  · exact g
theorem ne_same {x y : PV} {h : PH} {d : PyData} (ex : toD 70 h x = some d) (ey : toD 70 h y = some d) (s : SeqAt.shaped d = true) : cmpS .NotEq x y h = .ok false h := by
  show (match eqS x y h with
    | .ok b h' => R.ok (!b) h'
    | .exc e h' => .exc e h'
    | .stuck => .stuck) = _
  rw [eq_same ex ey s]
  rfl
theorem compL_some {step : PV → M (Option PV)} {f : PV → PV} {h : PH} {xs : List PV} (e : ∀ x ∈ xs, step x h = .ok (some (f x)) h) : compL step xs h = .ok (xs.map f) h := by
  rw [compL_map (g := fun x => some (f x)) xs e]
  congr 1
  induction xs with
  | nil => rfl
  | cons x xs ih => rw [List.filterMap_cons, ih fun y hy => e y (List.mem_cons_of_mem _ hy)]; rfl
theorem compL_if {step : PV → M (Option PV)} {p : PV → Bool} {h : PH} {xs : List PV} (e : ∀ x ∈ xs, step x h = .ok (if p x then some x else none) h) : compL step xs h = .ok (xs.filter p) h := by
  rw [compL_map (g := fun x => if p x then some x else none) xs e]
  congr 1
  induction xs with
  | nil => rfl
  | cons x xs ih =>
    rw [List.filterMap_cons, List.filter_cons, ih fun y hy => e y (List.mem_cons_of_mem _ hy)]
    cases p x <;> rfl
theorem filter_map {α : Type} {g : α → PV} {p : PV → Bool} {q : α → Bool} (e : ∀ a, p (g a) = q a) (xs : List α) : (xs.map g).filter p = (xs.filter q).map g := by
  rw [List.filter_map]
  congr 1
  congr 1
  funext a
  exact e a
theorem isi_of {t : Ty} {x : PV} {h : PH} {b : Bool} (e : isTy h x t = some b) : isiS t x h = .ok (.bl b) h := by
  show R.opt h ((isTy h x t).map PV.bl) = _
  rw [e]
  rfl
theorem isN (x : PV) (h : PH) : cmpS .IsNot x .non h = .ok (!isNon x) h := rfl
theorem isI (x : PV) (h : PH) : cmpS .Is x .non h = .ok (isNon x) h := rfl
theorem sub_tup {xs : List PV} {i : Int} {v : PV} {h : PH} (e : atI xs i = some v) : subS (.tup xs) (.int i) h = .ok v h := by
  show R.opt h (atI xs i) = _
  rw [e]
  rfl
/-! ### dicts -/
theorem dct_view {h : PH} {b : Nat} {kvs : List (Key × PV)} (e : h[b]? = some (.dct false kvs)) : view h (.ref b) = .dct false kvs := v_ref e
theorem sub_dct {h : PH} {b : Nat} {lk : Bool} {kvs : List (Key × PV)} {s : Str} {v : PV} (e : h[b]? = some (.dct lk kvs)) (l : lookK kvs (.inr s) = some v) : subS (.ref b) (.str s) h = .ok v h := by
  unfold subS
  rw [v_ref e]
  show R.opt h (lookK kvs (.inr s)) = _
  rw [l]
  rfl
theorem set_dct {h : PH} {b : Nat} {kvs : List (Key × PV)} {s : Str} {v : PV} (e : h[b]? = some (.dct false kvs)) (l : kvs.length < sizeLine) : setS (.ref b) (.str s) v h = .ok () (h.set b (.dct false (insK kvs (.inr s) v))) := by
  unfold setS
  dsimp only
  rw [v_ref e]
  exact if_pos l
/-- a new key: it comes last -/
theorem insK_new {α : Type} {kvs : List (Key × α)} {k : Key} {v : α} (n : k ∉ kvs.map (·.1)) : insK kvs k v = kvs ++ [(k, v)] := by
  unfold insK
  rw [if_neg]
  intro c
  obtain ⟨kv, m, e⟩ := List.any_eq_true.mp c
  exact n (List.mem_map.mpr ⟨kv, m, of_decide_eq_true e⟩)
/-- a walk up a dict, from a name -/
inductive Up (kvs : List (Key × PV)) : PV → List Str → Prop
  | nil : Up kvs .non []
  | cons {s : Str} {v : PV} {l : List Str} (e : lookK kvs (.inr s) = some v) (r : Up kvs v l) : Up kvs (.str s) (s :: l)
theorem Up.fn {kvs : List (Key × PV)} {v : PV} {l l' : List Str} (a : Up kvs v l) (b : Up kvs v l') : l = l' := by
  induction a generalizing l' with
  | nil => cases b; rfl
  | cons e r ih =>
    cases b with
    | cons e' r' =>
      rw [e] at e'
      cases e'
      rw [ih r']
theorem Up.app {kvs more : List (Key × PV)} {v : PV} {l : List Str} (a : Up kvs v l) : Up (kvs ++ more) v l := by
  induction a with
  | nil => exact .nil
  | @cons s v l e r ih =>
    refine .cons ?_ ih
    unfold lookK at e ⊢
    rw [List.find?_append]
    cases q : kvs.find? (fun kv => decide (kv.1 = (Sum.inr s : Key))) with
    | none => rw [q] at e; cases e
    | some kv => rw [q] at e; exact e
def upBody : List CS := [
  .asg (.nm 2) (.lst false .nil),
  .whl (.cmp .IsNot (.var 1) (.cst .non)) [
    .expr (.mt true .append (.var 2) (.cons (.var 1) .nil)),
    .asg (.nm 1) (.sub (.var 0) (.var 1))],
  .ret (.var 2)]
theorem append_at {h : PH} {r : Nat} {xs : List PV} {x : PV} (e : h[r]? = some (.lst xs)) (l : xs.length < sizeLine) : appendS (.ref r) x h = .ok .non (h.set r (.lst (xs ++ [x]))) := by
  unfold appendS
  dsimp only
  rw [v_ref e]
  exact if_pos l
theorem kind_lst {h : PH} {x : PV} {xs : List PV} (e : view h x = .lst xs) : kindS .list x h = .ok () h := by
  unfold kindS
  rw [e]
  rfl
theorem mt_append {h : PH} {r : Nat} {xs : List PV} {x : PV} (e : h[r]? = some (.lst xs)) (l : xs.length < sizeLine) : mthS true .append (.ref r) [x] h = .ok .non (h.set r (.lst (xs ++ [x]))) := append_at e l
theorem up_loop {cf : CF} {kvs : List (Key × PV)} {b : Nat} {h : PH} (hb : h[b]? = some (.dct false kvs)) {v : PV} {l : List Str} (u : Up kvs v l) : ∀ (n : Nat) (acc : List Str), l.length < n → acc.length + l.length ≤ 10000 →
    whileL (evT cf (.cmp .IsNot (.var 1) (.cst .non))) (evSs cf [.expr (.mt true .append (.var 2) (.cons (.var 1) .nil)), .asg (.nm 1) (.sub (.var 0) (.var 1))]) n [some (.ref b), some v, some (.ref h.length)] (h ++ [.lst (acc.map .str)]) =
      .next [some (.ref b), some .non, some (.ref h.length)] (h ++ [.lst ((acc ++ l).map .str)]) := by
  have hbl : b < h.length := (List.getElem?_eq_some_iff.mp hb).1
  induction u with
  | nil =>
    intro n acc hn _
    cases n with
    | zero => exact absurd hn (Nat.not_lt_zero _)
    | succ n =>
      rw [List.append_nil]
      rfl
  | @cons s v l e r ih =>
    intro n acc hn ha
    cases n with
    | zero => exact absurd hn (Nat.not_lt_zero _)
    | succ n =>
      have g := ih n (acc ++ [s]) (by simpa using hn) (by simp at ha ⊢; omega)
      have e1 : (h ++ [PO.lst (acc.map .str)])[h.length]? = some (.lst (acc.map .str)) := by simp
      have e2 := mt_append (x := .str s) e1 (by
        rw [List.length_map]
        simp at ha
        exact Nat.lt_of_lt_of_le (show acc.length < 10001 by omega) (by decide))
      have e3 : (h ++ [PO.lst (acc.map .str)]).set h.length (.lst (acc.map .str ++ [.str s])) = h ++ [.lst ((acc ++ [s]).map .str)] := by simp
      rw [e3] at e2
      have e4 := sub_dct (h := h ++ [PO.lst ((acc ++ [s]).map .str)]) (b := b) (by rw [List.getElem?_append_left hbl]; exact hb) e
      have ek := kind_lst (v_ref e1)
      have eb : evSs cf [.expr (.mt true .append (.var 2) (.cons (.var 1) .nil)), .asg (.nm 1) (.sub (.var 0) (.var 1))] [some (.ref b), some (.str s), some (.ref h.length)] (h ++ [.lst (acc.map .str)]) =
          .next [some (.ref b), some v, some (.ref h.length)] (h ++ [.lst ((acc ++ [s]).map .str)]) := by
        simp only [s_cons, s_nil, s_expr, s_asg, a_mt, a_sub, a_var, a_cons, a_nil, lk_0, lk_s, thn_ok, to_ok, nx_next, Mt.ty, ek, e2, e4, nextO, Tg.bind, List.set_cons_succ, List.set_cons_zero]
      show (match evSs cf _ _ (h ++ [.lst (acc.map .str)]) with
        | .next L' h' => whileL _ _ n L' h'
        | .cont L' h' => whileL _ _ n L' h'
        | .brk L' h' => .next L' h'
        | r => r) = _
      rw [eb]
      dsimp only
      rw [g, List.append_assoc]
      rfl
theorem up_ok {G : List FD} {f n : Nat} {d : FD} (eG : G[f]? = some d) (eb : d.body = upBody) (ep : d.ps.length = 2) (eN : d.N.length = 3) {kvs : List (Key × PV)} {b : Nat} {h : PH} (hb : h[b]? = some (.dct false kvs)) {v : PV} {l : List Str} (u : Up kvs v l) (hl : l.length ≤ 10000) :
    callN G (n + 1) f [.ref b, v] h = .ok (.ref h.length) (h ++ [.lst (l.map .str)]) := by
  rw [call_eq eG (show [PV.ref b, v].length = d.ps.length from ep.symm), eb]
  have eL : startL d [.ref b, v] = [some (.ref b), some v, none] := by
    unfold startL
    rw [eN]
    rfl
  have g := up_loop (cf := cfN G n) hb u wmost [] (by unfold wmost; omega) (by simpa using hl)
  have e1 : fresh false [] h = .ok (.ref h.length) (h ++ [.lst []]) := rfl
  rw [eL]
  unfold upBody
  simp only [s_cons, s_nil, s_asg, s_whl, s_ret, a_lst, a_nil, a_var, lk_0, lk_s, thn_ok, to_ok, e1, nextO, Tg.bind, List.set_cons_succ, List.set_cons_zero, nx_next]
  rw [show ([] : List PV) = ([] : List Str).map .str from rfl, g, nx_next]
  rfl
end Rk

set_option Elab.async false
set_option linter.all false
set_option maxRecDepth 100000
set_option maxHeartbeats 1000000
/-! RkZ: the names and fields that the laws on schemas draw. -/
namespace Rk
open PySem PySem.Spec L2
local macro_rules | `(tactic| walk_at "go") => `(tactic| try simp only [List.set_cons_succ, List.set_cons_zero, ↓reduceIte, Bool.false_eq_true, a_var, a_cst, a_glob, a_tup, a_lst, a_bin, a_neg, a_cmp, a_chain, a_band, a_bor, a_and1, a_or1, a_and, a_or, a_bnot, a_ife, a_call, a_pr, a_mt, a_isi, a_sub, a_sl, a_comp, a_p0, a_p1, a_nil, a_cons, t_and, t_or, t_not, t_ife, t_cmp, t_chain, t_val, t_and1, t_or1, t_ands, t_ors, i_nil, i_one, i_seq, i_rng1, i_rng2, i_enum, s_nil, s_cons, s_asg, s_par, s_setI, s_expr, s_ret, s_if, s_for, w_ok, w_thn, w_ite, w_fin, ws_next, ws_ret, ws_nx, ws_to, ws_ite, lk_0, lk_s, Cst.pv, GC.pv, nextO, Tg.bind, setAll, b_add, b_sub])
theorem thn_exc {α β : Type} (e : PX) (h : PH) (k : α → PH → R β) : (R.exc e h).thn k = .exc e h := rfl
theorem to_exc {α : Type} (L : Lo) (k : α → PH → RS) (e : PX) (h : PH) : (R.exc e h).to L k = .exc e L h := rfl
theorem fin_exc (e : PX) (L : Lo) (h : PH) : (RS.exc e L h).fin = .exc e h := rfl
theorem map_of {α : Type} {g : α → PV} {Q : α → Prop} : ∀ {ys : List PV}, (∀ y ∈ ys, ∃ a, y = g a ∧ Q a) → ∃ xs : List α, ys = xs.map g ∧ ∀ x ∈ xs, Q x
  | [], _ => ⟨[], rfl, fun _ h => nomatch h⟩
  | y :: ys, h => by
    obtain ⟨a, rfl, q⟩ := h y (List.mem_cons_self ..)
    obtain ⟨xs, rfl, qs⟩ := map_of fun y hy => h y (List.mem_cons_of_mem _ hy)
    exact ⟨a :: xs, rfl, fun x hx => by rcases List.mem_cons.mp hx with rfl | hx; exact q; exact qs x hx⟩
theorem enZ_at : ∀ {xs : List PV} {n i : Nat} {y : PV}, (enumL n xs)[i]? = some y → ∃ x, xs[i]? = some x ∧ y = .tup [.int ((n + i : Nat) : Int), x]
  | [], n, i, y, e => by simp [enumL] at e
  | x :: xs, n, 0, y, e => by
    simp [enumL] at e
    exact ⟨x, rfl, e.symm⟩
  | x :: xs, n, i + 1, y, e => by
    have e : (enumL (n + 1) xs)[i]? = some y := by simpa [enumL] using e
    obtain ⟨x', e1, e2⟩ := enZ_at e
    exact ⟨x', by simpa using e1, by rw [e2, show n + 1 + i = n + (i + 1) by omega]⟩
theorem enZ_len : ∀ (xs : List PV) (n : Nat), (enumL n xs).length = xs.length
  | [], _ => rfl
  | x :: xs, n => congrArg (· + 1) (enZ_len xs (n + 1))
theorem enum_lst (xs : List PV) (h : PH) : enumS (.lst xs) h = .ok (.fx (enumL 0 xs)) h := rfl
theorem range_at {a b : Int} (h : PH) (c : -(2 ^ 62) ≤ a ∧ a < 2 ^ 62 ∧ -(2 ^ 62) ≤ b ∧ b < 2 ^ 62) : rangeS (.int a) (.int b) h = .ok (.fx (rangeL a b)) h := if_pos c
def WS : List Str := ["kind", "tie", "under", "all", "down", "up", "to", "from", "num", "text", "by", "first", "last", "unique", "unkeyed", "a", "z9", "emp", "dept", "abcdefgh"]
def fnames : FD := ⟨"_law_names", "_law_names", ["_law_n", "_law_many"], ["_law_n", "_law_many", "_law_words", "_law_step", "_law_k"], [
  .asg (.nm 2) (.lst true (.cons (.cst (.str "kind")) (.cons (.cst (.str "tie")) (.cons (.cst (.str "under")) (.cons (.cst (.str "all")) (.cons (.cst (.str "down")) (.cons (.cst (.str "up")) (.cons (.cst (.str "to")) (.cons (.cst (.str "from")) (.cons (.cst (.str "num")) (.cons (.cst (.str "text")) (.cons (.cst (.str "by")) (.cons (.cst (.str "first")) (.cons (.cst (.str "last")) (.cons (.cst (.str "unique")) .nil))))))))))))))),
  .asg (.nm 2) (.bin true .Add (.var 2) (.lst true (.cons (.cst (.str "unkeyed")) (.cons (.cst (.str "a")) (.cons (.cst (.str "z9")) (.cons (.cst (.str "emp")) (.cons (.cst (.str "dept")) (.cons (.cst (.str "abcdefgh")) .nil)))))))),
  .asg (.nm 3) (.sub (.lst true (.cons (.cst (.int 1)) (.cons (.cst (.int 3)) (.cons (.cst (.int 7)) (.cons (.cst (.int 9)) .nil))))) (.bin true .Mod (.bin true .FloorDiv (.var 0) (.cst (.int 20))) (.cst (.int 4)))),
  .ret (.comp true (.sub (.var 2) (.bin true .Mod (.bin true .Add (.var 0) (.bin true .Mult (.var 3) (.var 4))) (.cst (.int 20)))) (.nm 4) (.range1 (.var 1)) .nil [4])], false⟩
def ffields (c m : Nat) : FD := ⟨"_law_fields", "_law_fields", ["_law_cells", "_law_spot"], ["_law_cells", "_law_spot", "_law_n", "_law_names_here", "_law_k", "_law_who"], [
  .asg (.nm 2) (.call c (.cons (.var 0) (.cons (.var 1) .nil))),
  .asg (.nm 3) (.call m (.cons (.bin true .FloorDiv (.var 2) (.cst (.int 4))) (.cons (.bin true .Add (.cst (.int 1)) (.bin true .Mod (.var 2) (.cst (.int 4)))) .nil))),
  .ret (.pr true .tuple (.cons (.comp true (.tup (.cons (.var 5) (.cons (.sub (.lst true (.cons (.cst (.str "num")) (.cons (.cst (.str "text")) (.cons (.cst (.str "num")) .nil)))) (.bin true .Mod (.bin true .FloorDiv (.bin true .FloorDiv (.var 2) (.cst (.int 320))) (.sub (.lst true (.cons (.cst (.int 1)) (.cons (.cst (.int 3)) (.cons (.cst (.int 9)) (.cons (.cst (.int 27)) .nil))))) (.var 4))) (.cst (.int 3)))) .nil))) (.tup [4, 5]) (.enum (.var 3)) .nil [4, 5]) .nil))], false⟩
def fabove : FD := ⟨"_law_above", "_law_above", ["_law_parents", "_law_who"], ["_law_parents", "_law_who", "_law_found"], [
  .asg (.nm 2) (.lst false .nil),
  .whl (.cmp .IsNot (.var 1) (.cst .non)) [
    .expr (.mt true .append (.var 2) (.cons (.var 1) .nil)),
    .asg (.nm 1) (.sub (.var 0) (.var 1))],
  .ret (.var 2)], false⟩
/-- a word of the row -/
def wd (i : Int) : Str := (WS[i.toNat]?).getD ""
theorem wd_at {i : Int} (h0 : 0 ≤ i) (h1 : i < 20) : atI (WS.map PV.str) i = some (.str (wd i)) ∧ wd i ∈ WS := by
  have hl : i.toNat < WS.length := by
    rw [show WS.length = 20 from rfl]
    omega
  have e : WS[i.toNat]? = some WS[i.toNat] := List.getElem?_eq_getElem hl
  have ew : wd i = WS[i.toNat] := by
    unfold wd
    rw [e]
    rfl
  rw [ew]
  refine ⟨?_, List.getElem_mem hl⟩
  unfold atI ixN
  rw [if_pos h0, if_pos (by rw [List.length_map, show WS.length = 20 from rfl]; omega)]
  show (WS.map PV.str)[i.toNat]? = _
  rw [List.getElem?_map, e]
  rfl
theorem wd_inj {i j : Int} (i0 : 0 ≤ i) (i1 : i < 20) (j0 : 0 ≤ j) (j1 : j < 20) (e : wd i = wd j) : i = j := by
  have k : ∀ a < 20, ∀ b < 20, (WS[a]?).getD ("" : Str) = (WS[b]?).getD ("" : Str) → a = b := by decide +kernel
  have := k i.toNat (by omega) j.toNat (by omega) e
  omega
theorem names_ok {G : List FD} {f n : Nat} (eG : G[f]? = some fnames) {a m : Int} {h : PH} (m0 : 0 ≤ m) (m1 : m ≤ 20) :
    ∃ zs : List Str, zs.Nodup ∧ (∀ z ∈ zs, z ∈ WS) ∧ (zs.length : Int) = m ∧ callN G (n + 1) f [.int a, .int m] h = .ok (.lst (zs.map .str)) h := by
  obtain ⟨v, ev, mv⟩ := atI_nn (xs := [PV.int 1, .int 3, .int 7, .int 9]) (i := (a.fdiv 20).fmod 4) (fm0 _ (by decide)) (fm1 _ (by decide))
  have hv : ∃ s : Int, v = .int s ∧ (s = 1 ∨ s = 3 ∨ s = 7 ∨ s = 9) := by
    simp only [List.mem_cons, List.not_mem_nil, or_false] at mv
    rcases mv with rfl | rfl | rfl | rfl
    · exact ⟨1, rfl, .inl rfl⟩
    · exact ⟨3, rfl, .inr (.inl rfl)⟩
    · exact ⟨7, rfl, .inr (.inr (.inl rfl))⟩
    · exact ⟨9, rfl, .inr (.inr (.inr rfl))⟩
  obtain ⟨s, rfl, hs⟩ := hv
  refine ⟨(List.range m.toNat).map fun (k : Nat) => wd ((a + s * k).fmod 20), ?_, ?_, ?_, ?_⟩
  · unfold List.Nodup
    rw [List.pairwise_map]
    refine List.Pairwise.imp_of_mem ?_ (List.pairwise_lt_range (n := m.toNat))
    intro x y hx hy hxy e
    have hx := List.mem_range.mp hx
    have hy := List.mem_range.mp hy
    have q := wd_inj (fm0 _ (by decide)) (fm1 _ (by decide)) (fm0 _ (by decide)) (fm1 _ (by decide)) e
    rw [Int.fmod_eq_emod_of_nonneg _ (by decide), Int.fmod_eq_emod_of_nonneg _ (by decide)] at q
    rcases hs with rfl | rfl | rfl | rfl <;> omega
  · intro z hz
    obtain ⟨k, _, rfl⟩ := List.mem_map.mp hz
    exact (wd_at (fm0 _ (by decide)) (fm1 _ (by decide))).2
  · rw [List.length_map, List.length_range]
    omega
  · rw [call_eq eG rfl]
    have d1 := b_div true a 20 h ⟨by decide, by decide⟩
    have d2 := b_mod true (a.fdiv 20) 4 h (by decide)
    have sv := sub_lst (h := h) ev
    have e14 : ∀ xs : List PV, xs.length ≤ 20 → fresh true xs h = .ok (.lst xs) h := fun xs hl => fresh_t (Nat.le_trans hl (by decide))
    have r1 := range_at h (a := 0) (b := m) ⟨by decide, by decide, by omega, by omega⟩
    show (evSs (cfN G n) fnames.body [some (.int a), some (.int m), none, none, none] h).fin = _
    have eadd : ∀ xs ys : List PV, xs.length + ys.length ≤ 20 → binS true .Add (.lst xs) (.lst ys) h = .ok (.lst (xs ++ ys)) h := fun xs ys hl => e14 (xs ++ ys) (by rw [List.length_append]; exact hl)
    unfold fnames
    simp only [s_cons, s_asg, s_ret, a_lst, a_cons, a_nil, a_cst, Cst.pv, thn_ok, to_ok]
    rw [e14 _ (Nat.le_of_ble_eq_true rfl), to_ok]
    simp only [nextO, Tg.bind, List.set_cons_succ, List.set_cons_zero, nx_next, a_bin, a_var, lk_0, lk_s, thn_ok, a_lst, a_cons, a_nil, a_cst, Cst.pv]
    rw [e14 _ (Nat.le_of_ble_eq_true rfl), thn_ok, eadd _ _ (Nat.le_of_ble_eq_true rfl), to_ok]
    simp only [nx_next, a_sub, a_lst, a_cons, a_nil, a_cst, Cst.pv, thn_ok, a_bin, a_var, lk_0, lk_s, d1, d2]
    rw [e14 _ (Nat.le_of_ble_eq_true rfl), thn_ok, d1, thn_ok, d2, thn_ok, sv, to_ok]
    simp only [nx_next, a_comp, i_rng1, a_var, lk_0, lk_s, thn_ok, r1, List.set_cons_succ, List.set_cons_zero]
    have cc : ∀ W : List PV, W = WS.map PV.str → compS (compStep (.nm 4) [4] [some (.int a), some (.int m), some (.lst W), some (.int s), none] (evIfs (cfN G n) .nil) (evE (cfN G n) (.sub (.var 2) (.bin true .Mod (.bin true .Add (.var 0) (.bin true .Mult (.var 3) (.var 4))) (.cst (.int 20)))))) (.fx (rangeL 0 m)) h =
        .ok ((rangeL 0 m).map fun x => match x with | .int i => .str (wd ((a + s * i).fmod 20)) | _ => .non) h := fun W hW => compL_some fun x hx => by
      subst hW
      obtain ⟨i, ei⟩ := List.getElem?_of_mem hx
      obtain ⟨rfl, _⟩ := rangeL_at ei
      rw [step_at (L' := [some (.int a), some (.int m), some (.lst (WS.map PV.str)), some (.int s), some (.int (0 + i))]) rfl]
      have q1 := b_mul true s (0 + (i : Int)) h (.inl (by rcases hs with rfl | rfl | rfl | rfl <;> decide))
      have q2 := b_mod true (a + s * (0 + (i : Int))) 20 h (by decide)
      have q3 := sub_lst (h := h) (wd_at (fm0 (a + s * (0 + (i : Int))) (show (0 : Int) < 20 by decide)) (fm1 _ (by decide))).1
      simp only [i_nil, thn_ok, ↓reduceIte, a_sub, a_bin, a_var, a_cst, Cst.pv, lk_0, lk_s, q1, b_add, q2, q3]
    rw [noX_ok (cc _ ?w), thn_ok, fresh_t (by rw [List.length_map, rangeL_len]; exact Nat.le_trans (show _ ≤ 20 by omega) (by decide)), to_ok, nx_ret]
    case w => rfl
    show R.ok (PV.lst _) h = _
    congr 2
    unfold rangeL
    rw [List.map_map, List.map_map, show (m - 0).toNat = m.toNat by omega]
    congr 1
    funext k
    show PV.str (wd ((a + s * (0 + (k : Int))).fmod 20)) = _
    rw [Int.zero_add]
    rfl
/-- a field -/
def fP (p : Str × Str) : PV := .tup [.str p.1, .str p.2]
def FdOk (p : Str × Str) : Prop := p.1 ∈ WS ∧ (p.2 = "num" ∨ p.2 = "text")
theorem fields_ok {G : List FD} {f c m n : Nat} (eG : G[f]? = some (ffields c m)) (ec : G[c]? = some fcell) (em : G[m]? = some fnames) {ns : List Int} {h : PH} {k : Int} (sp : Spot h k) (k0 : 0 ≤ k) (k1 : k ≤ 100000) (hl : ns.length ≤ 63) :
    ∃ fs : List (Str × Str), 1 ≤ fs.length ∧ fs.length ≤ 4 ∧ (∀ p ∈ fs, FdOk p) ∧ callN G (n + 2) f [.lst (ns.map .int), .ref 0] h = .ok (.tup (fs.map fP)) (h.set 0 (.lst [.int (k + 1)])) := by
  obtain ⟨r, r0, r1, e1⟩ := cell_ok (n := n) ec sp k0 k1 hl
  generalize hh : h.set 0 (.lst [.int (k + 1)]) = h1 at e1 ⊢
  have q0 := fm0 r (show (0 : Int) < 4 by decide)
  have q1 := fm1 r (show (0 : Int) < 4 by decide)
  obtain ⟨zs, _, zw, zl, e2⟩ := names_ok (n := n) (a := r.fdiv 4) (m := 1 + r.fmod 4) (h := h1) em (by omega) (by omega)
  have d1 := b_div true r 4 h1 ⟨by decide, by decide⟩
  have d2 := b_mod true r 4 h1 (by decide)
  suffices g : Wp Nev (fun v h' => h' = h1 ∧ ∃ fs : List (Str × Str), fs.length = zs.length ∧ (∀ p ∈ fs, FdOk p) ∧ v = .tup (fs.map fP)) (callN G (n + 2) f [.lst (ns.map .int), .ref 0] h) by
    obtain ⟨v, h', e, rfl, fs, fl, fo, rfl⟩ := of_w g
    exact ⟨fs, by omega, by omega, fo, e⟩
  rw [call_eq eG rfl]
  show Wp _ _ (evSs (cfN G (n + 1)) (ffields c m).body [some (.lst (ns.map .int)), some (.ref 0), none, none, none, none] h).fin
  unfold ffields
  have e1 : (cfN G (n + 1)).call c [.lst (ns.map .int), .ref 0] h = .ok (.int r) h1 := e1
  have e2 : (cfN G (n + 1)).call m [.int (r.fdiv 4), .int (1 + r.fmod 4)] h1 = .ok (.lst (zs.map .str)) h1 := e2
  simp only [s_cons, s_asg, s_ret, a_call, a_cons, a_nil, a_var, lk_0, lk_s, thn_ok, to_ok, e1, nextO, Tg.bind, List.set_cons_succ, List.set_cons_zero, nx_next, a_bin, a_cst, Cst.pv, d1, d2, b_add, e2]
  simp only [a_pr, a_cons, a_nil, a_comp, i_enum, a_var, lk_0, lk_s, thn_ok, enum_lst, w_fin, ws_nx, ws_to, w_thn]
  refine w_noX (w_compM (P := fun _ y => ∃ p, y = fP p ∧ FdOk p) (fun i x ex => ?_) fun ys yl yp => ?_)
  · obtain ⟨z, ez, rfl⟩ := enZ_at ex
    rw [List.getElem?_map] at ez
    cases q : zs[i]? with
    | none =>
      rw [q] at ez
      cases ez
    | some w =>
      rw [q] at ez
      cases ez
      have mw : w ∈ WS := zw w (List.mem_of_getElem? q)
      have il : i < zs.length := (List.getElem?_eq_some_iff.mp q).1
      refine w_step (L' := [some (.lst (ns.map .int)), some (.ref 0), some (.int r), some (.lst (zs.map .str)), some (.int ((0 + i : Nat) : Int)), some (.str w)]) rfl ?_
      walk_at "go"
      refine w_of (fresh_t (Nat.le_of_ble_eq_true rfl)) ?_
      refine w_of (b_div true r 320 h1 ⟨by decide, by decide⟩) ?_
      refine w_of (fresh_t (Nat.le_of_ble_eq_true rfl)) ?_
      obtain ⟨v, ev, mv⟩ := atI_nn (xs := [PV.int 1, .int 3, .int 9, .int 27]) (i := ((0 + i : Nat) : Int)) (by omega) (show _ < (4 : Int) by omega)
      have hv : ∃ s : Int, v = .int s ∧ (s ≠ 0 ∧ s.natAbs < 1073741824) := by
        simp only [List.mem_cons, List.not_mem_nil, or_false] at mv
        rcases mv with rfl | rfl | rfl | rfl
        · exact ⟨1, rfl, by decide⟩
        · exact ⟨3, rfl, by decide⟩
        · exact ⟨9, rfl, by decide⟩
        · exact ⟨27, rfl, by decide⟩
      obtain ⟨s, rfl, hs⟩ := hv
      refine w_of (sub_lst ev) (w_of (b_div true _ s h1 hs) (w_of (b_mod true _ 3 h1 (by decide)) ?_))
      obtain ⟨u, eu, mu⟩ := atI_nn (xs := [PV.str "num", .str "text", .str "num"]) (i := ((r.fdiv 320).fdiv s).fmod 3) (fm0 _ (by decide)) (fm1 _ (by decide))
      have hu : ∃ t : Str, u = .str t ∧ (t = "num" ∨ t = "text") := by
        simp only [List.mem_cons, List.not_mem_nil, or_false] at mu
        rcases mu with rfl | rfl | rfl
        · exact ⟨_, rfl, .inl rfl⟩
        · exact ⟨_, rfl, .inr rfl⟩
        · exact ⟨_, rfl, .inl rfl⟩
      obtain ⟨t, rfl, ht⟩ := hu
      refine w_of (sub_lst eu) ?_
      exact ⟨rfl, _, rfl, (w, t), rfl, mw, ht⟩
  · obtain ⟨fs, rfl, fo⟩ := map_of (g := fP) (Q := FdOk) fun y hy => by
      obtain ⟨i, e⟩ := List.getElem?_of_mem hy
      exact yp i y e
    rw [List.length_map, enZ_len, List.length_map] at yl
    refine w_of (fresh_t (by rw [List.length_map]; exact Nat.le_trans (show _ ≤ 4 by omega) (by decide))) ?_
    exact ⟨rfl, fs, yl, fo, rfl⟩
end Rk

set_option Elab.async false
set_option linter.all false
set_option maxRecDepth 100000
set_option maxHeartbeats 1000000
/-! RkZ2: the schema that the laws on schemas draw. -/
namespace Rk
open PySem PySem.Spec L2
local macro_rules | `(tactic| walk_at "go") => `(tactic| try simp only [List.set_cons_succ, List.set_cons_zero, ↓reduceIte, Bool.false_eq_true, a_var, a_cst, a_glob, a_tup, a_lst, a_bin, a_neg, a_cmp, a_chain, a_band, a_bor, a_and1, a_or1, a_and, a_or, a_bnot, a_ife, a_call, a_pr, a_mt, a_isi, a_sub, a_sl, a_comp, a_p0, a_p1, a_nil, a_cons, t_and, t_or, t_not, t_ife, t_cmp, t_chain, t_val, t_and1, t_or1, t_ands, t_ors, i_nil, i_one, i_seq, i_rng1, i_rng2, i_enum, s_nil, s_cons, s_asg, s_par, s_setI, s_expr, s_ret, s_if, s_for, w_ok, w_thn, w_ite, w_fin, ws_next, ws_ret, ws_nx, ws_to, ws_ite, lk_0, lk_s, Cst.pv, GC.pv, nextO, Tg.bind, setAll, b_add, b_sub])
def bKind (c f a : Nat) : List CS := [
    .par [14, 15] (.cons (.call c (.cons (.var 0) (.cons (.var 1) .nil))) (.cons (.call f (.cons (.var 0) (.cons (.var 1) .nil))) .nil)),
    .asg (.nm 11) (.call a (.cons (.var 7) (.cons (.var 8) .nil))),
    .setI (.var 7) (.var 10) (.ife (.cmp .Gt (.var 9) (.cst (.int 0))) (.sub (.var 11) (.bin true .Mod (.var 14) (.pr true .len (.cons (.var 11) .nil)))) (.cst .non)),
    .asg (.nm 12) (.ife (.cmp .Gt (.bin true .Mod (.bin true .FloorDiv (.var 14) (.cst (.int 32))) (.cst (.int 4))) (.cst (.int 0))) (.sub (.sub (.var 15) (.bin true .Mod (.bin true .FloorDiv (.var 14) (.cst (.int 8))) (.pr true .len (.cons (.var 15) .nil)))) (.cst (.int 0))) (.cst .non)),
    .asg (.nm 13) (.sub (.lst true (.cons (.cst (.str "first")) (.cons (.cst (.str "last")) (.cons (.cst (.str "unique")) .nil)))) (.bin true .Mod (.bin true .FloorDiv (.var 14) (.cst (.int 128))) (.bin true .Add (.cst (.int 2)) (.pr true .int (.cons (.cmp .IsNot (.var 12) (.cst .non)) .nil))))),
    .expr (.mt true .append (.var 6) (.cons (.tup (.cons (.var 10) (.cons (.sub (.var 7) (.var 10)) (.cons (.var 15) (.cons (.var 12) (.cons (.var 13) .nil)))))) .nil)),
    .asg (.nm 8) (.var 10)]
def bBond (c : Nat) : List CS := [
    .asg (.nm 14) (.call c (.cons (.var 0) (.cons (.var 1) .nil))),
    .expr (.mt true .append (.var 2) (.cons (.tup (.cons (.var 10) (.cons (.sub (.var 5) (.bin true .Mod (.var 14) (.pr true .len (.cons (.var 5) .nil)))) (.cons (.sub (.var 5) (.bin true .Mod (.bin true .FloorDiv (.var 14) (.cst (.int 8))) (.pr true .len (.cons (.var 5) .nil)))) .nil)))) .nil))]
def fschema (c m f a : Nat) : FD := ⟨"_law_schema", "_law_schema", ["_law_cells", "_law_spot"], ["_law_cells", "_law_spot", "_law_bonds", "_law_n", "_law_m", "_law_names_here", "_law_kinds", "_law_parents", "_law_last", "_law_k", "_law_who", "_law_some", "_law_key", "_law_rule", "_law_d", "_law_own"], [
  .par [3, 4] (.cons (.call c (.cons (.var 0) (.cons (.var 1) .nil))) (.cons (.call c (.cons (.var 0) (.cons (.var 1) .nil))) .nil)),
  .par [5, 6, 7, 8] (.cons (.call m (.cons (.bin true .FloorDiv (.var 3) (.cst (.int 8))) (.cons (.sub (.lst true (.cons (.cst (.int 3)) (.cons (.cst (.int 1)) (.cons (.cst (.int 4)) (.cons (.cst (.int 6)) (.cons (.cst (.int 2)) (.cons (.cst (.int 8)) (.cons (.cst (.int 5)) (.cons (.cst (.int 3)) .nil))))))))) (.bin true .Mod (.var 3) (.cst (.int 8)))) .nil))) (.cons (.lst false .nil) (.cons (.dct .nil) (.cons (.cst .non) .nil)))),
  .forS (.tup [9, 10]) (.enum (.var 5)) (bKind c f a),
  .asg (.nm 2) (.lst false .nil),
  .forS (.tup [9, 10]) (.enum (.call m (.cons (.bin true .FloorDiv (.var 4) (.cst (.int 5))) (.cons (.sub (.lst true (.cons (.cst (.int 0)) (.cons (.cst (.int 1)) (.cons (.cst (.int 2)) (.cons (.cst (.int 4)) (.cons (.cst (.int 3)) .nil)))))) (.bin true .Mod (.var 4) (.cst (.int 5)))) .nil)))) (bBond c),
  .ret (.tup (.cons (.pr true .tuple (.cons (.var 6) .nil)) (.cons (.pr true .tuple (.cons (.var 2) .nil)) .nil)))], false⟩
/-! ### a schema -/
structure Knd where
  nm : Str
  par : Option Str
  fs : List (Str × Str)
  key : Option Str
  rule : Str
def oP : Option Str → PV
  | none => .non
  | some s => .str s
def Knd.pv (r : Knd) : PV := .tup [.str r.nm, oP r.par, .tup (r.fs.map fP), oP r.key, .str r.rule]
def bP (b : Str × Str × Str) : PV := .tup [.str b.1, .str b.2.1, .str b.2.2]
def schP (rows : List Knd) (bs : List (Str × Str × Str)) : PV := .tup [.tup (rows.map Knd.pv), .tup (bs.map bP)]
def kvs (rows : List Knd) : List (Key × PV) := rows.map fun r => (.inr r.nm, oP r.par)
structure RowOk (r : Knd) : Prop where
  nm : r.nm ∈ WS
  par : ∀ s, r.par = some s → s ∈ WS
  f1 : 1 ≤ r.fs.length
  f4 : r.fs.length ≤ 4
  fs : ∀ p ∈ r.fs, FdOk p
  key : ∀ s, r.key = some s → s ∈ WS
  rule : r.rule = "first" ∨ r.rule = "last" ∨ r.rule = "unique"
/-- all have ways up -/
def Chain (rows : List Knd) : Prop := ∀ r ∈ rows, ∃ l, 1 ≤ l.length ∧ l.length ≤ rows.length ∧ (∀ s ∈ l, s ∈ rows.map Knd.nm) ∧ Up (kvs rows) (.str r.nm) l
theorem kvs_app (a b : List Knd) : kvs (a ++ b) = kvs a ++ kvs b := List.map_append ..
theorem kvs_keys (rows : List Knd) : (kvs rows).map (·.1) = (rows.map Knd.nm).map Sum.inr := by
  unfold kvs
  rw [List.map_map, List.map_map]
  rfl
theorem lookK_new {α : Type} {kvs : List (Key × α)} {k : Key} {v : α} (n : k ∉ kvs.map (·.1)) : lookK (kvs ++ [(k, v)]) k = some v := by
  unfold lookK
  rw [List.find?_append]
  have e : kvs.find? (fun kv => decide (kv.1 = k)) = none := List.find?_eq_none.mpr fun kv m c => n (List.mem_map.mpr ⟨kv, m, of_decide_eq_true c⟩)
  rw [e]
  simp
theorem not_key {rows : List Knd} {s : Str} (h : s ∉ rows.map Knd.nm) : (Sum.inr s : Key) ∉ (kvs rows).map (·.1) := by
  rw [kvs_keys]
  intro m
  obtain ⟨x, hx, e⟩ := List.mem_map.mp m
  cases e
  exact h hx
theorem kvs_new {rows : List Knd} {s : Str} {v : PV} (h : s ∉ rows.map Knd.nm) : insK (kvs rows) (.inr s) v = kvs rows ++ [(.inr s, v)] := insK_new (not_key h)
theorem Chain.nil : Chain [] := fun _ h => nomatch h
theorem Chain.add {rows : List Knd} {r : Knd} (c : Chain rows) (n : r.nm ∉ rows.map Knd.nm) (p : ∀ s, r.par = some s → s ∈ rows.map Knd.nm) : Chain (rows ++ [r]) := by
  have ek : kvs (rows ++ [r]) = kvs rows ++ [(.inr r.nm, oP r.par)] := kvs_app rows [r]
  have lk : lookK (kvs (rows ++ [r])) (.inr r.nm) = some (oP r.par) := by
    rw [ek]
    exact lookK_new (not_key n)
  intro r' m
  rcases List.mem_append.mp m with m | m
  · obtain ⟨l, l1, l2, l3, u⟩ := c r' m
    exact ⟨l, l1, by rw [List.length_append]; exact Nat.le_trans l2 (Nat.le_add_right ..), fun s hs => by rw [List.map_append]; exact List.mem_append_left _ (l3 s hs), by rw [ek]; exact u.app⟩
  · rw [List.mem_singleton.mp m]
    cases q : r.par with
    | none =>
      refine ⟨[r.nm], Nat.le_refl _, by rw [List.length_append]; exact Nat.le_add_left .., fun s hs => ?_, .cons lk (by rw [q]; exact .nil)⟩
      rw [List.mem_singleton.mp hs, List.map_append]
      exact List.mem_append_right _ (List.mem_singleton.mpr rfl)
    | some s =>
      obtain ⟨r2, m2, e2⟩ := List.mem_map.mp (p s q)
      obtain ⟨l, l1, l2, l3, u⟩ := c r2 m2
      refine ⟨r.nm :: l, Nat.succ_le_succ (Nat.zero_le _), by rw [List.length_append]; exact Nat.succ_le_succ l2, fun s' hs => ?_, .cons lk ?_⟩
      · rw [List.map_append]
        rcases List.mem_cons.mp hs with rfl | hs
        · exact List.mem_append_right _ (List.mem_singleton.mpr rfl)
        · exact List.mem_append_left _ (l3 s' hs)
      · rw [q, ek]
        show Up _ (.str s) l
        rw [← e2]
        exact u.app
/-! ### heaps -/
theorem st_set {h : PH} {a b : Nat} {x y : PO} (e : h[a]? = some x) (n : a ≠ b) : (h.set b y)[a]? = some x := by
  rw [List.getElem?_set_ne (fun z => n z.symm)]
  exact e
theorem st_self {h : PH} {a : Nat} {x y : PO} (e : h[a]? = some x) : (h.set a y)[a]? = some y := List.getElem?_set_self (List.getElem?_eq_some_iff.mp e).1
theorem st_app {h t : PH} {a : Nat} {x : PO} (e : h[a]? = some x) : (h ++ t)[a]? = some x := by
  rw [List.getElem?_append_left (List.getElem?_eq_some_iff.mp e).1]
  exact e
theorem st_new {h : PH} {x : PO} : (h ++ [x])[h.length]? = some x := by simp
theorem len_ref {fz : Bool} {h : PH} {a : Nat} {xs : List PV} (e : h[a]? = some (.lst xs)) : primS fz .len [.ref a] h = .ok (.int xs.length) h := by
  show lenS (.ref a) h = _
  unfold lenS
  rw [v_ref e]
  rfl
theorem sub_ref {h : PH} {a : Nat} {xs : List PV} {i : Int} {v : PV} (e : h[a]? = some (.lst xs)) (q : atI xs i = some v) : subS (.ref a) (.int i) h = .ok v h := by
  unfold subS
  rw [v_ref e]
  show R.opt h (atI xs i) = _
  rw [q]
  rfl
theorem len_tup (fz : Bool) (xs : List PV) (h : PH) : primS fz .len [.tup xs] h = .ok (.int xs.length) h := rfl
theorem tup_ref {fz : Bool} {h : PH} {a : Nat} {xs : List PV} (e : h[a]? = some (.lst xs)) : primS fz .tuple [.ref a] h = .ok (.tup xs) h := by
  show tupleS (.ref a) h = _
  unfold tupleS
  rw [v_ref e]
  rfl
theorem at_map {α : Type} {g : α → PV} {xs : List α} {i : Int} (h0 : 0 ≤ i) (h1 : i < xs.length) : ∃ x ∈ xs, atI (xs.map g) i = some (g x) := by
  obtain ⟨v, e, m⟩ := atI_nn (xs := xs.map g) h0 (by rw [List.length_map]; exact h1)
  obtain ⟨x, hx, rfl⟩ := List.mem_map.mp m
  exact ⟨x, hx, e⟩
theorem le_line {n : Nat} (h : n ≤ 1000) : n ≤ sizeLine := Nat.le_trans h (by decide)
theorem lt_line {n : Nat} (h : n ≤ 1000) : n < sizeLine := Nat.lt_of_le_of_lt h (by decide)
end Rk

set_option Elab.async false
set_option linter.all false
set_option maxRecDepth 100000
set_option maxHeartbeats 1000000
/-! RkZ3: a turn of the schema's first loop. -/
namespace Rk
open PySem PySem.Spec L2
def k1 (c f a : Nat) : CS := .par [14, 15] (.cons (.call c (.cons (.var 0) (.cons (.var 1) .nil))) (.cons (.call f (.cons (.var 0) (.cons (.var 1) .nil))) .nil))
def k2 (c f a : Nat) : CS := .asg (.nm 11) (.call a (.cons (.var 7) (.cons (.var 8) .nil)))
def k3 (c f a : Nat) : CS := .setI (.var 7) (.var 10) (.ife (.cmp .Gt (.var 9) (.cst (.int 0))) (.sub (.var 11) (.bin true .Mod (.var 14) (.pr true .len (.cons (.var 11) .nil)))) (.cst .non))
def k4 (c f a : Nat) : CS := .asg (.nm 12) (.ife (.cmp .Gt (.bin true .Mod (.bin true .FloorDiv (.var 14) (.cst (.int 32))) (.cst (.int 4))) (.cst (.int 0))) (.sub (.sub (.var 15) (.bin true .Mod (.bin true .FloorDiv (.var 14) (.cst (.int 8))) (.pr true .len (.cons (.var 15) .nil)))) (.cst (.int 0))) (.cst .non))
def k5 (c f a : Nat) : CS := .asg (.nm 13) (.sub (.lst true (.cons (.cst (.str "first")) (.cons (.cst (.str "last")) (.cons (.cst (.str "unique")) .nil)))) (.bin true .Mod (.bin true .FloorDiv (.var 14) (.cst (.int 128))) (.bin true .Add (.cst (.int 2)) (.pr true .int (.cons (.cmp .IsNot (.var 12) (.cst .non)) .nil)))))
def k6 (c f a : Nat) : CS := .expr (.mt true .append (.var 6) (.cons (.tup (.cons (.var 10) (.cons (.sub (.var 7) (.var 10)) (.cons (.var 15) (.cons (.var 12) (.cons (.var 13) .nil)))))) .nil))
def k7 (c f a : Nat) : CS := .asg (.nm 8) (.var 10)
theorem bKind_eq (c f a : Nat) : bKind c f a = [k1 c f a, k2 c f a, k3 c f a, k4 c f a, k5 c f a, k6 c f a, k7 c f a] := rfl
structure Inv (A B : Nat) (rows : List Knd) (h : PH) (k : Int) : Prop where
  a : h[A]? = some (.lst (rows.map Knd.pv))
  b : h[B]? = some (.dct false (kvs rows))
  s : Spot h k
theorem int_bl (fz : Bool) (b : Bool) (h : PH) : primS fz .int [.bl b] h = .ok (.int (if b then 1 else 0)) h := rfl
theorem isNon_oP (o : Option Str) : isNon (oP o) = o.isNone := by cases o <;> rfl
theorem kind_turn {G : List FD} {c m f a N : Nat} (ec : G[c]? = some fcell) (em : G[m]? = some fnames) (ef : G[f]? = some (ffields c m)) (ea : G[a]? = some fabove) {ns : List Int} (hl : ns.length ≤ 63)
    {A B : Nat} (A0 : A ≠ 0) (B0 : B ≠ 0) (AB : A ≠ B) {rows : List Knd} {i : Nat} {w : Str} {last : PV} {o2 o3 o4 o5 o11 o12 o13 o14 o15 : Option PV} {h : PH} {k : Int} (k0 : 0 ≤ k) (kk : k ≤ 99990)
    (inv : Inv A B rows h k) (hi : rows.length = i) (i9 : i ≤ 9) (wn : w ∉ rows.map Knd.nm) (ww : w ∈ WS) (rok : ∀ r ∈ rows, RowOk r) (ch : Chain rows) (hlast : (i = 0 ∧ last = .non) ∨ ∃ r ∈ rows, last = .str r.nm) :
    ∃ (r : Knd) (h' : PH) (p11 p12 p13 p14 p15 : Option PV), r.nm = w ∧ RowOk r ∧ (∀ s, r.par = some s → s ∈ rows.map Knd.nm) ∧ Inv A B (rows ++ [r]) h' (k + 2) ∧
      evSs (cfN G (N + 2)) (bKind c f a) [some (.lst (ns.map .int)), some (.ref 0), o2, o3, o4, o5, some (.ref A), some (.ref B), some last, some (.int (i : Nat)), some (.str w), o11, o12, o13, o14, o15] h =
        .next [some (.lst (ns.map .int)), some (.ref 0), o2, o3, o4, o5, some (.ref A), some (.ref B), some (.str w), some (.int (i : Nat)), some (.str w), p11, p12, p13, p14, p15] h' := by
  obtain ⟨d, d0, d1, e1⟩ := cell_ok (n := N + 1) ec inv.s k0 (by omega) hl
  have s1 : Spot (h.set 0 (.lst [.int (k + 1)])) (k + 1) := inv.s.next
  have iA1 := st_set (y := .lst [.int (k + 1)]) inv.a A0
  have iB1 := st_set (y := .lst [.int (k + 1)]) inv.b B0
  generalize h.set 0 (.lst [.int (k + 1)]) = h1 at e1 s1 iA1 iB1
  obtain ⟨fs, f1, f4, fo, e2⟩ := fields_ok (n := N) ef ec em s1 (by omega) (by omega) hl
  have s2 : Spot (h1.set 0 (.lst [.int (k + 1 + 1)])) (k + 1 + 1) := s1.next
  have iA2 := st_set (y := .lst [.int (k + 1 + 1)]) iA1 A0
  have iB2 := st_set (y := .lst [.int (k + 1 + 1)]) iB1 B0
  generalize h1.set 0 (.lst [.int (k + 1 + 1)]) = h2 at e2 s2 iA2 iB2
  have up : ∃ l : List Str, l.length ≤ 10000 ∧ (0 < i → 1 ≤ l.length) ∧ (∀ s ∈ l, s ∈ rows.map Knd.nm) ∧ Up (kvs rows) last l := by
    rcases hlast with ⟨rfl, rfl⟩ | ⟨r, hr, rfl⟩
    · exact ⟨[], by decide, fun z => absurd z (by decide), fun _ z => (nomatch z), .nil⟩
    · obtain ⟨l, l1, l2, l3, u⟩ := ch r hr
      exact ⟨l, by omega, fun _ => l1, l3, u⟩
  obtain ⟨l, l1, l2, l3, u⟩ := up
  have e3 := up_ok (n := N + 1) ea rfl rfl rfl iB2 u l1
  have s3 : Spot (h2 ++ [.lst (l.map .str)]) (k + 1 + 1) := st_app s2
  have iA3 := st_app (t := [.lst (l.map .str)]) iA2
  have iB3 := st_app (t := [.lst (l.map .str)]) iB2
  have iR3 := st_new (h := h2) (x := .lst (l.map .str))
  generalize h2 ++ [.lst (l.map .str)] = h3 at e3 s3 iA3 iB3 iR3
  have e1 : (cfN G (N + 2)).call c [.lst (ns.map .int), .ref 0] h = .ok (.int d) h1 := e1
  have e2 : (cfN G (N + 2)).call f [.lst (ns.map .int), .ref 0] h1 = .ok (.tup (fs.map fP)) h2 := e2
  have e3 : (cfN G (N + 2)).call a [.ref B, last] h2 = .ok (.ref h2.length) h3 := e3
  have q1 : evS (cfN G (N + 2)) (k1 c f a) [some (.lst (ns.map .int)), some (.ref 0), o2, o3, o4, o5, some (.ref A), some (.ref B), some last, some (.int (i : Nat)), some (.str w), o11, o12, o13, o14, o15] h =
      .next [some (.lst (ns.map .int)), some (.ref 0), o2, o3, o4, o5, some (.ref A), some (.ref B), some last, some (.int (i : Nat)), some (.str w), o11, o12, o13, some (.int d), some (.tup (fs.map fP))] h2 := by
    simp only [k1, s_par, a_cons, a_nil, a_call, a_var, lk_0, lk_s, thn_ok, e1, e2, to_ok]
    rfl
  have q2 : evS (cfN G (N + 2)) (k2 c f a) [some (.lst (ns.map .int)), some (.ref 0), o2, o3, o4, o5, some (.ref A), some (.ref B), some last, some (.int (i : Nat)), some (.str w), o11, o12, o13, some (.int d), some (.tup (fs.map fP))] h2 =
      .next [some (.lst (ns.map .int)), some (.ref 0), o2, o3, o4, o5, some (.ref A), some (.ref B), some last, some (.int (i : Nat)), some (.str w), some (.ref h2.length), o12, o13, some (.int d), some (.tup (fs.map fP))] h3 := by
    simp only [k2, s_asg, a_cons, a_nil, a_call, a_var, lk_0, lk_s, thn_ok, e3, to_ok]
    rfl
  have ep : ∃ par : Option Str, (∀ s, par = some s → s ∈ rows.map Knd.nm) ∧ ∀ L : Lo, lkS L 9 h3 = .ok (.int (i : Nat)) h3 → lkS L 11 h3 = .ok (.ref h2.length) h3 → lkS L 14 h3 = .ok (.int d) h3 →
      evE (cfN G (N + 2)) (.ife (.cmp .Gt (.var 9) (.cst (.int 0))) (.sub (.var 11) (.bin true .Mod (.var 14) (.pr true .len (.cons (.var 11) .nil)))) (.cst .non)) L h3 = .ok (oP par) h3 := by
    by_cases i0 : 0 < i
    · have l2 := l2 i0
      have m1 := b_mod true d ((l.map PV.str).length : Nat) h3 (by rw [List.length_map]; omega)
      obtain ⟨s, hs, es⟩ := at_map (g := PV.str) (xs := l) (i := d.fmod ((l.map PV.str).length : Nat)) (fm0 _ (by rw [List.length_map]; omega)) (by have := fm1 d (show (0 : Int) < ((l.map PV.str).length : Nat) by rw [List.length_map]; omega); rw [List.length_map] at this ⊢; exact this)
      refine ⟨some s, fun s' e => by cases e; exact l3 s hs, fun L g1 g2 g3 => ?_⟩
      have c1 : decide ((0 : Int) < (i : Nat)) = true := decide_eq_true (by omega)
      simp only [a_ife, t_cmp, a_var, a_cst, Cst.pv, g1, g2, g3, thn_ok, c_gt, c1, ↓reduceIte, a_sub, a_bin, a_pr, a_cons, a_nil, len_ref iR3, m1, sub_ref iR3 es, oP]
    · refine ⟨none, fun s' e => (nomatch e), fun L g1 g2 g3 => ?_⟩
      have c1 : decide ((0 : Int) < (i : Nat)) = false := decide_eq_false (by omega)
      simp only [a_ife, t_cmp, a_var, a_cst, Cst.pv, g1, thn_ok, c_gt, c1, Bool.false_eq_true, ↓reduceIte, oP]
  obtain ⟨par, hp, ep⟩ := ep
  have ed := set_dct (s := w) (v := oP par) iB3 (lt_line (by unfold kvs; rw [List.length_map]; omega))
  rw [kvs_new wn] at ed
  have s4 : Spot (h3.set B (.dct false (kvs rows ++ [(.inr w, oP par)]))) (k + 1 + 1) := st_set s3 (fun z => B0 z.symm)
  have iA4 := st_set (y := .dct false (kvs rows ++ [(.inr w, oP par)])) iA3 AB
  have iB4 := st_self (y := .dct false (kvs rows ++ [(.inr w, oP par)])) iB3
  generalize h3.set B (.dct false (kvs rows ++ [(.inr w, oP par)])) = h4 at ed s4 iA4 iB4
  have q3 : evS (cfN G (N + 2)) (k3 c f a) [some (.lst (ns.map .int)), some (.ref 0), o2, o3, o4, o5, some (.ref A), some (.ref B), some last, some (.int (i : Nat)), some (.str w), some (.ref h2.length), o12, o13, some (.int d), some (.tup (fs.map fP))] h3 =
      .next [some (.lst (ns.map .int)), some (.ref 0), o2, o3, o4, o5, some (.ref A), some (.ref B), some last, some (.int (i : Nat)), some (.str w), some (.ref h2.length), o12, o13, some (.int d), some (.tup (fs.map fP))] h4 := by
    unfold k3
    rw [s_setI, ep _ rfl rfl rfl, to_ok]
    simp only [a_var, lk_0, lk_s, to_ok, ed]
  have ek : ∃ key : Option Str, (∀ s, key = some s → s ∈ WS) ∧ ∀ L : Lo, lkS L 14 h4 = .ok (.int d) h4 → lkS L 15 h4 = .ok (.tup (fs.map fP)) h4 →
      evE (cfN G (N + 2)) (.ife (.cmp .Gt (.bin true .Mod (.bin true .FloorDiv (.var 14) (.cst (.int 32))) (.cst (.int 4))) (.cst (.int 0))) (.sub (.sub (.var 15) (.bin true .Mod (.bin true .FloorDiv (.var 14) (.cst (.int 8))) (.pr true .len (.cons (.var 15) .nil)))) (.cst (.int 0))) (.cst .non)) L h4 = .ok (oP key) h4 := by
    have m1 := b_div true d 32 h4 ⟨by decide, by decide⟩
    have m2 := b_mod true (d.fdiv 32) 4 h4 (by decide)
    have m3 := b_div true d 8 h4 ⟨by decide, by decide⟩
    have m4 := b_mod true (d.fdiv 8) ((fs.map fP).length : Nat) h4 (by rw [List.length_map]; omega)
    obtain ⟨p, hp, es⟩ := at_map (g := fP) (xs := fs) (i := (d.fdiv 8).fmod ((fs.map fP).length : Nat)) (fm0 _ (by rw [List.length_map]; omega)) (by have := fm1 (d.fdiv 8) (show (0 : Int) < ((fs.map fP).length : Nat) by rw [List.length_map]; omega); rw [List.length_map] at this ⊢; exact this)
    have ep : subS (fP p) (.int 0) h4 = .ok (.str p.1) h4 := rfl
    by_cases t : 0 < (d.fdiv 32).fmod 4
    · refine ⟨some p.1, fun s e => by cases e; exact (fo p hp).1, fun L g1 g2 => ?_⟩
      simp only [a_ife, t_cmp, a_var, a_cst, Cst.pv, g1, g2, thn_ok, c_gt, decide_eq_true t, ↓reduceIte, a_sub, a_bin, a_pr, a_cons, a_nil, len_tup, m1, m2, m3, m4, sub_tup es, ep, oP]
    · refine ⟨none, fun s e => (nomatch e), fun L g1 g2 => ?_⟩
      simp only [a_ife, t_cmp, a_var, a_cst, Cst.pv, g1, g2, thn_ok, c_gt, decide_eq_false t, Bool.false_eq_true, ↓reduceIte, a_sub, a_bin, m1, m2, oP]
  obtain ⟨key, hk, ek⟩ := ek
  have q4 : evS (cfN G (N + 2)) (k4 c f a) [some (.lst (ns.map .int)), some (.ref 0), o2, o3, o4, o5, some (.ref A), some (.ref B), some last, some (.int (i : Nat)), some (.str w), some (.ref h2.length), o12, o13, some (.int d), some (.tup (fs.map fP))] h4 =
      .next [some (.lst (ns.map .int)), some (.ref 0), o2, o3, o4, o5, some (.ref A), some (.ref B), some last, some (.int (i : Nat)), some (.str w), some (.ref h2.length), some (oP key), o13, some (.int d), some (.tup (fs.map fP))] h4 := by
    unfold k4
    rw [s_asg, ek _ rfl rfl, to_ok]
    rfl
  have er : ∃ rule : Str, (rule = "first" ∨ rule = "last" ∨ rule = "unique") ∧ ∀ L : Lo, lkS L 14 h4 = .ok (.int d) h4 → lkS L 12 h4 = .ok (oP key) h4 →
      evE (cfN G (N + 2)) (.sub (.lst true (.cons (.cst (.str "first")) (.cons (.cst (.str "last")) (.cons (.cst (.str "unique")) .nil)))) (.bin true .Mod (.bin true .FloorDiv (.var 14) (.cst (.int 128))) (.bin true .Add (.cst (.int 2)) (.pr true .int (.cons (.cmp .IsNot (.var 12) (.cst .non)) .nil))))) L h4 = .ok (.str rule) h4 := by
    have m1 := b_div true d 128 h4 ⟨by decide, by decide⟩
    have hz : ∀ z : Int, z = 2 ∨ z = 3 → ∃ rule : Str, (rule = "first" ∨ rule = "last" ∨ rule = "unique") ∧ subS (.lst [.str "first", .str "last", .str "unique"]) (.int ((d.fdiv 128).fmod z)) h4 = .ok (.str rule) h4 := fun z hz => by
      have f0 := fm0 (d.fdiv 128) (show 0 < z by rcases hz with rfl | rfl <;> decide)
      have f1 := fm1 (d.fdiv 128) (show 0 < z by rcases hz with rfl | rfl <;> decide)
      obtain ⟨v, ev, mv⟩ := atI_nn (xs := [PV.str "first", .str "last", .str "unique"]) (i := (d.fdiv 128).fmod z) f0 (show _ < (3 : Int) by omega)
      simp only [List.mem_cons, List.not_mem_nil, or_false] at mv
      rcases mv with rfl | rfl | rfl
      · exact ⟨_, .inl rfl, sub_lst ev⟩
      · exact ⟨_, .inr (.inl rfl), sub_lst ev⟩
      · exact ⟨_, .inr (.inr rfl), sub_lst ev⟩
    have hz2 : (2 + (if (!isNon (oP key)) = true then 1 else 0) : Int) = 2 ∨ (2 + (if (!isNon (oP key)) = true then 1 else 0) : Int) = 3 := by
      cases isNon (oP key)
      · exact .inr rfl
      · exact .inl rfl
    obtain ⟨rule, hr, er⟩ := hz _ hz2
    have m2 := b_mod true (d.fdiv 128) (2 + (if (!isNon (oP key)) = true then 1 else 0)) h4 (by rcases hz2 with z | z <;> rw [z] <;> decide)
    refine ⟨rule, hr, fun L g1 g2 => ?_⟩
    have fr : fresh true [PV.str "first", .str "last", .str "unique"] h4 = .ok (.lst [.str "first", .str "last", .str "unique"]) h4 := fresh_t (Nat.le_of_ble_eq_true rfl)
    simp only [a_sub, a_lst, a_cons, a_nil, a_cst, Cst.pv, thn_ok, fr, a_bin, a_var, g1, g2, m1, a_pr, a_cmp, isN, int_bl, b_add, m2, er]
  obtain ⟨rule, hr, er⟩ := er
  have q5 : evS (cfN G (N + 2)) (k5 c f a) [some (.lst (ns.map .int)), some (.ref 0), o2, o3, o4, o5, some (.ref A), some (.ref B), some last, some (.int (i : Nat)), some (.str w), some (.ref h2.length), some (oP key), o13, some (.int d), some (.tup (fs.map fP))] h4 =
      .next [some (.lst (ns.map .int)), some (.ref 0), o2, o3, o4, o5, some (.ref A), some (.ref B), some last, some (.int (i : Nat)), some (.str w), some (.ref h2.length), some (oP key), some (.str rule), some (.int d), some (.tup (fs.map fP))] h4 := by
    unfold k5
    rw [s_asg, er _ rfl rfl, to_ok]
    rfl
  have lkn : lookK (kvs rows ++ [(.inr w, oP par)]) (.inr w) = some (oP par) := lookK_new (not_key wn)
  have eap := mt_append (x := Knd.pv ⟨w, par, fs, key, rule⟩) iA4 (lt_line (by rw [List.length_map]; omega))
  have s5 : Spot (h4.set A (.lst (rows.map Knd.pv ++ [Knd.pv ⟨w, par, fs, key, rule⟩]))) (k + 1 + 1) := st_set s4 (fun z => A0 z.symm)
  have iA5 := st_self (y := .lst (rows.map Knd.pv ++ [Knd.pv ⟨w, par, fs, key, rule⟩])) iA4
  have iB5 := st_set (y := .lst (rows.map Knd.pv ++ [Knd.pv ⟨w, par, fs, key, rule⟩])) iB4 (fun z => AB z.symm)
  generalize h4.set A (.lst (rows.map Knd.pv ++ [Knd.pv ⟨w, par, fs, key, rule⟩])) = h5 at eap s5 iA5 iB5
  have q6 : evS (cfN G (N + 2)) (k6 c f a) [some (.lst (ns.map .int)), some (.ref 0), o2, o3, o4, o5, some (.ref A), some (.ref B), some last, some (.int (i : Nat)), some (.str w), some (.ref h2.length), some (oP key), some (.str rule), some (.int d), some (.tup (fs.map fP))] h4 =
      .next [some (.lst (ns.map .int)), some (.ref 0), o2, o3, o4, o5, some (.ref A), some (.ref B), some last, some (.int (i : Nat)), some (.str w), some (.ref h2.length), some (oP key), some (.str rule), some (.int d), some (.tup (fs.map fP))] h5 := by
    have tl : ∀ xs : List PV, xs.length ≤ 5 → (if xs.length ≤ sizeLine then R.ok (PV.tup xs) h4 else .stuck) = .ok (.tup xs) h4 := fun xs hx => if_pos (le_line (by omega))
    unfold k6
    simp only [s_expr, a_mt, a_var, lk_0, lk_s, thn_ok, Mt.ty, kind_lst (v_ref iA4), a_cons, a_nil, a_tup, a_sub, sub_dct iB4 lkn]
    rw [tl _ (Nat.le_of_ble_eq_true rfl), thn_ok, thn_ok]
    rw [show mthS true .append (.ref A) [.tup [PV.str w, oP par, PV.tup (fs.map fP), oP key, PV.str rule]] h4 = _ from eap, to_ok]
  refine ⟨⟨w, par, fs, key, rule⟩, h5, some (.ref h2.length), some (oP key), some (.str rule), some (.int d), some (.tup (fs.map fP)), rfl, ⟨ww, fun s e => ?_, f1, f4, fo, hk, hr⟩, hp, ⟨?_, ?_, ?_⟩, ?_⟩
  · obtain ⟨r, m, e2⟩ := List.mem_map.mp (hp s e)
    rw [← e2]
    exact (rok r m).nm
  · rw [List.map_append]
    exact iA5
  · rw [kvs_app]
    exact iB5
  · rw [show k + 2 = k + 1 + 1 by omega]
    exact s5
  · rw [bKind_eq, s_cons, q1, nx_next, s_cons, q2, nx_next, s_cons, q3, nx_next, s_cons, q4, nx_next, s_cons, q5, nx_next, s_cons, q6, nx_next]
    rfl
end Rk

set_option Elab.async false
set_option linter.all false
set_option maxRecDepth 100000
set_option maxHeartbeats 1000000
/-! RkZ4: what _law_schema answers. -/
namespace Rk
open PySem PySem.Spec L2
structure SchOk (rows : List Knd) (bs : List (Str × Str × Str)) : Prop where
  n1 : 1 ≤ rows.length
  n8 : rows.length ≤ 8
  nd : (rows.map Knd.nm).Nodup
  ok : ∀ r ∈ rows, RowOk r
  ch : Chain rows
  b4 : bs.length ≤ 4
  bok : ∀ b ∈ bs, b.1 ∈ WS ∧ (b.2.1 ∈ WS ∧ b.2.2 ∈ WS)
theorem bond_turn {G : List FD} {c N : Nat} (ec : G[c]? = some fcell) {ns : List Int} (hl : ns.length ≤ 63) {zs : List Str} (z0 : 1 ≤ zs.length) (zw : ∀ z ∈ zs, z ∈ WS)
    {C : Nat} (C0 : C ≠ 0) {bs : List (Str × Str × Str)} {w : Str} {o3 o4 o6 o7 o8 o9 o11 o12 o13 o14 o15 : Option PV} {h : PH} {k : Int} (k0 : 0 ≤ k) (kk : k ≤ 99990)
    (iC : h[C]? = some (.lst (bs.map bP))) (s : Spot h k) (bl : bs.length ≤ 9) (ww : w ∈ WS) :
    ∃ (b : Str × Str × Str) (h' : PH) (p14 : Option PV), (b.1 ∈ WS ∧ (b.2.1 ∈ WS ∧ b.2.2 ∈ WS)) ∧ h'[C]? = some (.lst ((bs ++ [b]).map bP)) ∧ Spot h' (k + 1) ∧ (∀ A x, A ≠ 0 → A ≠ C → h[A]? = some x → h'[A]? = some x) ∧
      evSs (cfN G (N + 1)) (bBond c) [some (.lst (ns.map .int)), some (.ref 0), some (.ref C), o3, o4, some (.lst (zs.map .str)), o6, o7, o8, o9, some (.str w), o11, o12, o13, o14, o15] h =
        .next [some (.lst (ns.map .int)), some (.ref 0), some (.ref C), o3, o4, some (.lst (zs.map .str)), o6, o7, o8, o9, some (.str w), o11, o12, o13, p14, o15] h' := by
  obtain ⟨d, d0, d1, e1⟩ := cell_ok (n := N) ec s k0 (by omega) hl
  have s1 : Spot (h.set 0 (.lst [.int (k + 1)])) (k + 1) := s.next
  have iC1 := st_set (y := .lst [.int (k + 1)]) iC C0
  have iX1 : ∀ A x, A ≠ 0 → h[A]? = some x → (h.set 0 (.lst [.int (k + 1)]))[A]? = some x := fun A x a0 e => st_set e a0
  generalize h.set 0 (.lst [.int (k + 1)]) = h1 at e1 s1 iC1 iX1
  have zl : ((zs.map PV.str).length : Int) = zs.length := by rw [List.length_map]
  have pk : ∀ x : Int, ∃ z ∈ zs, atI (zs.map PV.str) (x.fmod ((zs.map PV.str).length : Nat)) = some (.str z) := fun x =>
    at_map (g := PV.str) (xs := zs) (fm0 _ (by omega)) (by have := fm1 x (show (0 : Int) < ((zs.map PV.str).length : Nat) by omega); omega)
  obtain ⟨x, hx, ex⟩ := pk d
  obtain ⟨y, hy, ey⟩ := pk (d.fdiv 8)
  have m1 := b_mod true d ((zs.map PV.str).length : Nat) h1 (by omega)
  have m2 := b_div true d 8 h1 ⟨by decide, by decide⟩
  have m3 := b_mod true (d.fdiv 8) ((zs.map PV.str).length : Nat) h1 (by omega)
  have eap := mt_append (x := bP (w, x, y)) iC1 (lt_line (by rw [List.length_map]; omega))
  refine ⟨(w, x, y), h1.set C (.lst (bs.map bP ++ [bP (w, x, y)])), some (.int d), ⟨ww, zw x hx, zw y hy⟩, ?_, st_set s1 (fun z => C0 z.symm), fun A x a0 ac e => st_set (iX1 A x a0 e) ac, ?_⟩
  · rw [List.map_append]
    exact st_self iC1
  · have e1 : (cfN G (N + 1)).call c [.lst (ns.map .int), .ref 0] h = .ok (.int d) h1 := e1
    have tl : ∀ xs : List PV, xs.length ≤ 5 → (if xs.length ≤ sizeLine then R.ok (PV.tup xs) h1 else .stuck) = .ok (.tup xs) h1 := fun xs hx => if_pos (le_line (by omega))
    unfold bBond
    simp only [s_cons, s_asg, a_call, a_cons, a_nil, a_var, lk_0, lk_s, thn_ok, e1, to_ok, nextO, Tg.bind, List.set_cons_succ, List.set_cons_zero, nx_next, s_expr, a_mt, Mt.ty, kind_lst (v_ref iC1), a_tup, a_sub, a_bin, a_pr, a_cst, Cst.pv, len_lst, m1, m2, m3, sub_lst ex, sub_lst ey]
    rw [tl _ (Nat.le_of_ble_eq_true rfl), thn_ok, thn_ok]
    rw [show mthS true .append (.ref C) [.tup [PV.str w, PV.str x, PV.str y]] h1 = _ from eap, to_ok]
    rfl
theorem not_take {α : Type} {zs : List α} {i : Nat} {w : α} (nd : zs.Nodup) (e : zs[i]? = some w) : w ∉ zs.take i := by
  intro m
  obtain ⟨j, hj, ej⟩ := List.getElem_of_mem m
  rw [List.getElem_take] at ej
  obtain ⟨hi, ei⟩ := List.getElem?_eq_some_iff.mp e
  rw [List.length_take] at hj
  have hji : j < i := by omega
  exact (List.pairwise_iff_getElem.mp nd) j i (by omega) hi hji (ej.trans ei.symm)
theorem take_snoc {α : Type} {zs : List α} {i : Nat} {w : α} (e : zs[i]? = some w) : zs.take (i + 1) = zs.take i ++ [w] := by
  rw [List.take_add_one, e]
  rfl
theorem enum_str {zs : List Str} {i : Nat} {x : PV} (e : (enumL 0 (zs.map PV.str))[i]? = some x) : ∃ w, zs[i]? = some w ∧ x = .tup [.int (i : Nat), .str w] := by
  obtain ⟨z, ez, rfl⟩ := enZ_at e
  rw [List.getElem?_map] at ez
  cases q : zs[i]? with
  | none =>
    rw [q] at ez
    cases ez
  | some w =>
    rw [q] at ez
    cases ez
    exact ⟨w, rfl, by rw [Nat.zero_add]⟩
theorem schema_ok {G : List FD} {c m f a q N : Nat} (eq : G[q]? = some (fschema c m f a)) (ec : G[c]? = some fcell) (em : G[m]? = some fnames) (ef : G[f]? = some (ffields c m)) (ea : G[a]? = some fabove)
    {ns : List Int} (hl : ns.length ≤ 63) {h : PH} {k : Int} (sp : Spot h k) (k0 : 0 ≤ k) (kk : k ≤ 99900) :
    ∃ rows bs h' k', SchOk rows bs ∧ Spot h' k' ∧ k ≤ k' ∧ k' ≤ k + 22 ∧ callN G (N + 3) q [.lst (ns.map .int), .ref 0] h = .ok (schP rows bs) h' := by
  obtain ⟨n, n0, n1, e1⟩ := cell_ok (n := N + 1) ec sp k0 (by omega) hl
  have s1 : Spot (h.set 0 (.lst [.int (k + 1)])) (k + 1) := sp.next
  generalize h.set 0 (.lst [.int (k + 1)]) = h1 at e1 s1
  obtain ⟨t, t0, t1, e2⟩ := cell_ok (n := N + 1) ec s1 (by omega) (by omega) hl
  have s2 : Spot (h1.set 0 (.lst [.int (k + 1 + 1)])) (k + 1 + 1) := s1.next
  generalize h1.set 0 (.lst [.int (k + 1 + 1)]) = h2 at e2 s2
  have hmany : ∃ j : Int, 1 ≤ j ∧ j ≤ 8 ∧ subS (.lst [.int 3, .int 1, .int 4, .int 6, .int 2, .int 8, .int 5, .int 3]) (.int (n.fmod 8)) h2 = .ok (.int j) h2 := by
    obtain ⟨v, ev, mv⟩ := atI_nn (xs := [PV.int 3, .int 1, .int 4, .int 6, .int 2, .int 8, .int 5, .int 3]) (i := n.fmod 8) (fm0 _ (by decide)) (fm1 _ (by decide))
    have : ∃ j : Int, v = .int j ∧ 1 ≤ j ∧ j ≤ 8 := by
      simp only [List.mem_cons, List.not_mem_nil, or_false] at mv
      rcases mv with rfl | rfl | rfl | rfl | rfl | rfl | rfl | rfl <;> exact ⟨_, rfl, by decide, by decide⟩
    obtain ⟨j, rfl, j0, j1⟩ := this
    exact ⟨j, j0, j1, sub_lst ev⟩
  obtain ⟨many, j0, j1, esub⟩ := hmany
  obtain ⟨zs, znd, zw, zl, e3⟩ := names_ok (n := N + 1) (a := n.fdiv 8) (m := many) (h := h2) em (by omega) (by omega)
  have A0 : h2.length ≠ 0 := by
    have := (List.getElem?_eq_some_iff.mp s2).1
    omega
  suffices g : Wp Nev (fun v h' => ∃ rows bs k', SchOk rows bs ∧ Spot h' k' ∧ k ≤ k' ∧ k' ≤ k + 22 ∧ v = schP rows bs) (callN G (N + 3) q [.lst (ns.map .int), .ref 0] h) by
    obtain ⟨v, h', e, rows, bs, k', a1, a2, a3, a4, rfl⟩ := of_w g
    exact ⟨rows, bs, h', k', a1, a2, a3, a4, e⟩
  rw [call_eq eq rfl]
  show Wp _ _ (evSs (cfN G (N + 2)) (fschema c m f a).body [some (.lst (ns.map .int)), some (.ref 0), none, none, none, none, none, none, none, none, none, none, none, none, none, none] h).fin
  have e1 : (cfN G (N + 2)).call c [.lst (ns.map .int), .ref 0] h = .ok (.int n) h1 := e1
  have e2 : (cfN G (N + 2)).call c [.lst (ns.map .int), .ref 0] h1 = .ok (.int t) h2 := e2
  have e3 : (cfN G (N + 2)).call m [.int (n.fdiv 8), .int many] h2 = .ok (.lst (zs.map .str)) h2 := e3
  have d1 := b_div true n 8 h2 ⟨by decide, by decide⟩
  have d2 := b_mod true n 8 h2 (by decide)
  have fr : fresh true [.int 3, .int 1, .int 4, .int 6, .int 2, .int 8, .int 5, .int 3] h2 = .ok (.lst [.int 3, .int 1, .int 4, .int 6, .int 2, .int 8, .int 5, .int 3]) h2 := fresh_t (Nat.le_of_ble_eq_true rfl)
  have fe : ∀ h : PH, fresh false [] h = .ok (.ref h.length) (h ++ [.lst []]) := fun _ => rfl
  have de : ∀ L, evE (cfN G (N + 2)) (.dct .nil) L (h2 ++ [.lst []]) = .ok (.ref (h2.length + 1)) (h2 ++ [.lst []] ++ [.dct false []]) := fun L => by
    have z := dct_at (cf := cfN G (N + 2)) (es := .nil) (L := L) (h := h2 ++ [.lst []]) rfl rfl
    rw [List.length_append] at z
    exact z
  have i2 : Inv h2.length (h2.length + 1) [] (h2 ++ [.lst []] ++ [.dct false []]) (k + 1 + 1) := ⟨st_app st_new, by
    have z := st_new (h := h2 ++ [.lst []]) (x := .dct false [])
    rw [List.length_append] at z
    exact z, st_app (st_app s2)⟩
  generalize h2 ++ [.lst []] ++ [.dct false []] = h3 at de i2
  generalize hA : h2.length = A at A0 de i2
  unfold fschema
  simp only [s_cons, s_par, a_cons, a_nil, a_call, a_var, lk_0, lk_s, thn_ok, e1, e2, to_ok, nextO, setAll, List.set_cons_succ, List.set_cons_zero, nx_next, a_bin, a_cst, Cst.pv, d1, d2, a_sub, a_lst, fr, esub, e3, fe, hA, de, s_for, i_enum, enum_lst]
  rw [w_fin, ws_nx]
  refine ws_forL (I := fun i L h => ∃ (rows : List Knd) (last : PV) (o9 o10 o11 o12 o13 o14 o15 : Option PV), L = [some (.lst (ns.map .int)), some (.ref 0), none, some (.int n), some (.int t), some (.lst (zs.map .str)), some (.ref A), some (.ref (A + 1)), some last, o9, o10, o11, o12, o13, o14, o15] ∧
    rows.length = i ∧ i ≤ zs.length ∧ rows.map Knd.nm = zs.take i ∧ Inv A (A + 1) rows h (k + 2 + 2 * (i : Int)) ∧ (∀ r ∈ rows, RowOk r) ∧ Chain rows ∧ ((i = 0 ∧ last = .non) ∨ ∃ r ∈ rows, last = .str r.nm)) _ 0 _ _ ?_ ?_ ?_
  · exact ⟨[], .non, none, none, none, none, none, none, none, rfl, rfl, Nat.zero_le _, rfl, by
      rw [show k + 2 + 2 * ((0 : Nat) : Int) = k + 1 + 1 by omega]
      exact i2, (fun _ z => nomatch z), Chain.nil, .inl ⟨rfl, rfl⟩⟩
  · rintro i x L h' ex ⟨rows, last, o9, o10, o11, o12, o13, o14, o15, rfl, rl, il, rn, inv, rok, ch, hlast⟩
    rw [Nat.zero_add] at rl il rn inv hlast ⊢
    obtain ⟨w, ew, rfl⟩ := enum_str ex
    have wi : i < zs.length := (List.getElem?_eq_some_iff.mp ew).1
    refine ⟨_, rfl, ?_⟩
    obtain ⟨r, h5, p11, p12, p13, p14, p15, rw1, rok1, rp, inv1, et⟩ := kind_turn (N := N) ec em ef ea hl (A := A) (B := A + 1) A0 (by omega) (by omega) (o2 := none) (o3 := some (.int n)) (o4 := some (.int t)) (o5 := some (.lst (zs.map .str))) (o11 := o11) (o12 := o12) (o13 := o13) (o14 := o14) (o15 := o15) (w := w) (last := last) (by omega) (by omega) inv rl (by omega) (by rw [rn]; exact not_take znd ew) (zw w (List.mem_of_getElem? ew)) rok ch hlast
    simp only [List.set_cons_succ, List.set_cons_zero]
    rw [et]
    refine ⟨rows ++ [r], .str w, _, _, _, _, _, _, _, rfl, by rw [List.length_append, rl]; rfl, wi, by rw [List.map_append, rn, take_snoc ew, ← rw1]; rfl, ?_, fun r' m => ?_, ch.add (by rw [rw1, rn]; exact not_take znd ew) rp, .inr ⟨r, List.mem_append_right _ (List.mem_singleton.mpr rfl), by rw [rw1]⟩⟩
    · rw [show k + 2 + 2 * ((i + 1 : Nat) : Int) = k + 2 + 2 * (i : Int) + 2 by omega]
      exact inv1
    · rcases List.mem_append.mp m with m | m
      · exact rok r' m
      · rw [List.mem_singleton.mp m]
        exact rok1
  · rintro L h4 ⟨rows, last, o9, o10, o11, o12, o13, o14, o15, rfl, rl, il, rn, inv, rok, ch, hlast⟩
    rw [Nat.zero_add, enZ_len, List.length_map] at rl rn inv
    rw [List.take_length] at rn
    have hfew : ∃ j : Int, 0 ≤ j ∧ j ≤ 4 ∧ subS (.lst [.int 0, .int 1, .int 2, .int 4, .int 3]) (.int (t.fmod 5)) (h4 ++ [.lst []]) = .ok (.int j) (h4 ++ [.lst []]) := by
      obtain ⟨v, ev, mv⟩ := atI_nn (xs := [PV.int 0, .int 1, .int 2, .int 4, .int 3]) (i := t.fmod 5) (fm0 _ (by decide)) (fm1 _ (by decide))
      have : ∃ j : Int, v = .int j ∧ 0 ≤ j ∧ j ≤ 4 := by
        simp only [List.mem_cons, List.not_mem_nil, or_false] at mv
        rcases mv with rfl | rfl | rfl | rfl | rfl <;> exact ⟨_, rfl, by decide, by decide⟩
      obtain ⟨j, rfl, j0, j1⟩ := this
      exact ⟨j, j0, j1, sub_lst ev⟩
    obtain ⟨few, g0, g1, esub⟩ := hfew
    have iA := st_app (t := [.lst []]) inv.a
    have iS : Spot (h4 ++ [.lst []]) _ := st_app inv.s
    have iC := st_new (h := h4) (x := .lst [])
    have CA : A ≠ h4.length := by
      have := (List.getElem?_eq_some_iff.mp inv.a).1
      omega
    have C0 : h4.length ≠ 0 := by
      have := (List.getElem?_eq_some_iff.mp inv.a).1
      omega
    have d3 := b_div true t 5 (h4 ++ [.lst []]) ⟨by decide, by decide⟩
    have d4 := b_mod true t 5 (h4 ++ [.lst []]) (by decide)
    have fr : fresh true [.int 0, .int 1, .int 2, .int 4, .int 3] (h4 ++ [.lst []]) = .ok (.lst [.int 0, .int 1, .int 2, .int 4, .int 3]) (h4 ++ [.lst []]) := fresh_t (Nat.le_of_ble_eq_true rfl)
    have f0 := fe h4
    generalize h4 ++ [.lst []] = h5 at iA iS iC d3 d4 fr f0 esub
    generalize h4.length = C at CA C0 iC f0
    obtain ⟨ys, ynd, yw, yl, e4⟩ := names_ok (n := N + 1) (a := t.fdiv 5) (m := few) (h := h5) em (by omega) (by omega)
    have e4 : (cfN G (N + 2)).call m [.int (t.fdiv 5), .int few] h5 = .ok (.lst (ys.map .str)) h5 := e4
    simp only [s_cons, s_asg, a_lst, a_nil, thn_ok, f0, to_ok, nextO, Tg.bind, List.set_cons_succ, List.set_cons_zero, nx_next, s_for, i_enum, a_call, a_cons, a_bin, a_var, a_cst, Cst.pv, lk_0, lk_s, d3, d4, fr, a_sub, esub, e4, enum_lst]
    rw [ws_nx]
    refine ws_forL (I := fun i L h => ∃ (bs : List (Str × Str × Str)) (o9 o10 p14 : Option PV), L = [some (.lst (ns.map .int)), some (.ref 0), some (.ref C), some (.int n), some (.int t), some (.lst (zs.map .str)), some (.ref A), some (.ref (A + 1)), some last, o9, o10, o11, o12, o13, p14, o15] ∧
      bs.length = i ∧ h[A]? = some (.lst (rows.map Knd.pv)) ∧ h[C]? = some (.lst (bs.map bP)) ∧ Spot h (k + 2 + 2 * (zs.length : Int) + i) ∧ ∀ b ∈ bs, b.1 ∈ WS ∧ (b.2.1 ∈ WS ∧ b.2.2 ∈ WS)) _ 0 _ _ ?_ ?_ ?_
    · exact ⟨[], o9, o10, o14, rfl, rfl, iA, iC, by
        rw [show k + 2 + 2 * (zs.length : Int) + ((0 : Nat) : Int) = k + 2 + 2 * (zs.length : Int) by omega]
        exact iS, fun _ z => nomatch z⟩
    · rintro i x L h' ex ⟨bs, o9, o10, p14, rfl, bl, jA, jC, js, bok⟩
      rw [Nat.zero_add] at bl js ⊢
      obtain ⟨w, ew, rfl⟩ := enum_str ex
      have wi : i < ys.length := (List.getElem?_eq_some_iff.mp ew).1
      refine ⟨_, rfl, ?_⟩
      obtain ⟨b, h6, q14, bo, jC1, js1, jX, et⟩ := bond_turn (N := N + 1) ec hl (zs := zs) (by omega) zw (C := C) C0 (o3 := some (.int n)) (o4 := some (.int t)) (o6 := some (.ref A)) (o7 := some (.ref (A + 1))) (o8 := some last) (o9 := some (.int (i : Nat))) (o11 := o11) (o12 := o12) (o13 := o13) (o14 := p14) (o15 := o15) (w := w) (by omega) (by omega) jC js (by omega) (yw w (List.mem_of_getElem? ew))
      simp only [List.set_cons_succ, List.set_cons_zero]
      rw [et]
      refine ⟨bs ++ [b], _, _, _, rfl, by rw [List.length_append, bl]; rfl, jX A _ A0 CA jA, jC1, ?_, fun b' m => ?_⟩
      · rw [show k + 2 + 2 * (zs.length : Int) + ((i + 1 : Nat) : Int) = k + 2 + 2 * (zs.length : Int) + (i : Nat) + 1 by omega]
        exact js1
      · rcases List.mem_append.mp m with m | m
        · exact bok b' m
        · rw [List.mem_singleton.mp m]
          exact bo
    · rintro L h6 ⟨bs, o9, o10, p14, rfl, bl, jA, jC, js, bok⟩
      rw [Nat.zero_add, enZ_len, List.length_map] at bl js
      have tl : ∀ xs : List PV, xs.length ≤ 5 → (if xs.length ≤ sizeLine then R.ok (PV.tup xs) h6 else .stuck) = .ok (.tup xs) h6 := fun xs hx => if_pos (le_line (by omega))
      simp only [s_cons, s_ret, a_tup, a_cons, a_nil, a_pr, a_var, lk_0, lk_s, thn_ok, tup_ref jA, tup_ref jC]
      rw [tl _ (Nat.le_of_ble_eq_true rfl), to_ok, nx_ret]
      refine ⟨rows, bs, _, ⟨by omega, by omega, by rw [rn]; exact znd, rok, ch, by omega, bok⟩, js, by omega, by omega, rfl⟩
end Rk

set_option Elab.async false
set_option linter.all false
set_option maxRecDepth 100000
set_option maxHeartbeats 1000000
/-! RkZ5: data that stays: told by repr, alike to itself. -/
namespace Rk
open PySem PySem.Spec L2
/-- v is data of depth n at the most, told in w signs -/
def Pd (v : PV) (n w : Nat) : Prop := ∃ d : PyData, (∀ m h, n ≤ m → toD (m + 1) h v = some d) ∧ d.canLay0 = true ∧ d.depth ≤ n ∧ okC d = true ∧ d.showable = true ∧ wtD d ≤ w ∧ d.hasDict = false
theorem Pd.non : Pd .non 0 4 := ⟨.none, fun _ _ _ => rfl, rfl, Nat.le_refl _, rfl, rfl, Nat.le_refl _, rfl⟩
theorem Pd.str {s : Str} {w : Nat} (a : PyData.strOk s = true) (b : 10 * s.length + 2 ≤ w) : Pd (.str s) 0 w := ⟨.str s, fun _ _ _ => rfl, a, Nat.le_refl _, a, rfl, b, rfl⟩
theorem Pd.mono {v : PV} {n w n' w' : Nat} (p : Pd v n w) (hn : n ≤ n') (hw : w ≤ w') : Pd v n' w' := by
  obtain ⟨d, e, a, b, c, f, g, i⟩ := p
  exact ⟨d, fun m h q => e m h (Nat.le_trans hn q), a, Nat.le_trans b hn, c, f, Nat.le_trans g hw, i⟩
theorem Pd.all {n w : Nat} : ∀ {xs : List PV}, (∀ x ∈ xs, Pd x n w) → ∃ ds : List PyData, (∀ m h, n ≤ m → xs.mapM (toD (m + 1) h) = some ds) ∧ PyData.canLayAll0 ds = true ∧ PyData.depthAll ds ≤ n ∧ okCL ds = true ∧ PyData.showableAll ds = true ∧ wtL ds ≤ xs.length * (w + 2) ∧ PyData.hasDictAll ds = false
  | [], _ => ⟨[], fun _ _ _ => rfl, rfl, Nat.zero_le _, rfl, rfl, Nat.zero_le _, rfl⟩
  | x :: xs, h => by
    obtain ⟨d, e, a, b, c, f, g, i⟩ := h x (List.mem_cons_self ..)
    obtain ⟨ds, e2, a2, b2, c2, f2, g2, i2⟩ := Pd.all fun y hy => h y (List.mem_cons_of_mem _ hy)
    refine ⟨d :: ds, fun m h q => ?_, ?_, ?_, ?_, ?_, ?_, ?_⟩
    · rw [List.mapM_cons, e m h q, e2 m h q]
      rfl
    · show (d.canLay0 && PyData.canLayAll0 ds) = true
      rw [a, a2]
      rfl
    · exact Nat.max_le.mpr ⟨b, b2⟩
    · show (okC d && okCL ds) = true
      rw [c, c2]
      rfl
    · show (d.showable && PyData.showableAll ds) = true
      rw [f, f2]
      rfl
    · show wtD d + 2 + wtL ds ≤ _
      rw [List.length_cons, Nat.succ_mul]
      omega
    · show (d.hasDict || PyData.hasDictAll ds) = false
      rw [i, i2]
      rfl
theorem Pd.tup {xs : List PV} {n w : Nat} (h : ∀ x ∈ xs, Pd x n w) : Pd (.tup xs) (n + 1) (xs.length * (w + 2) + 3) := by
  obtain ⟨ds, e, a, b, c, f, g, i⟩ := Pd.all h
  refine ⟨.tuple ds, fun m h q => ?_, a, Nat.succ_le_succ b, c, f, Nat.add_le_add_right g 3, i⟩
  obtain ⟨m, rfl⟩ : ∃ k, m = k + 1 := ⟨m - 1, by omega⟩
  exact toD_tup (e m h (by omega))
theorem Pd.lst {xs : List PV} {n w : Nat} (h : ∀ x ∈ xs, Pd x n w) : Pd (.lst xs) (n + 1) (xs.length * (w + 2) + 3) := by
  obtain ⟨ds, e, a, b, c, f, g, i⟩ := Pd.all h
  refine ⟨.list ds, fun m h q => ?_, a, Nat.succ_le_succ b, c, f, Nat.le_trans (Nat.add_le_add_right g 2) (Nat.le_succ _), i⟩
  obtain ⟨m, rfl⟩ : ∃ k, m = k + 1 := ⟨m - 1, by omega⟩
  exact toD_lst (e m h (by omega))
theorem Pd.eq {v : PV} {n w : Nat} (p : Pd v n w) (hn : n ≤ 60) (h : PH) : eqS v v h = .ok true h := by
  obtain ⟨d, e, a, b, c, f, g, i⟩ := p
  have s : SeqAt.shaped d = true := by
    unfold SeqAt.shaped
    rw [a, decide_eq_true (show d.depth ≤ 64 by omega)]
    rfl
  exact eq_same (e 69 h (by omega)) (e 69 h (by omega)) s
theorem Pd.ne {v : PV} {n w : Nat} (p : Pd v n w) (hn : n ≤ 60) (h : PH) : cmpS .NotEq v v h = .ok false h := by
  show (match eqS v v h with
    | .ok b h' => R.ok (!b) h'
    | .exc e h' => .exc e h'
    | .stuck => .stuck) = _
  rw [p.eq hn h]
  rfl
theorem Pd.repr {v : PV} {n w : Nat} (p : Pd v n w) (hn : n ≤ 60) (hw : w ≤ sizeLine) : ∃ s : Str, ∀ h, reprS v h = .ok (.str s) h := by
  obtain ⟨d, e, a, b, c, f, g, i⟩ := p
  exact ⟨d.shown, fun h => repr_at (e 69 h (by omega)) c f (by omega) (Nat.le_trans g hw) (by rw [i]; rfl)⟩
theorem ws_ok {s : Str} (h : s ∈ WS) : PyData.strOk s = true ∧ s.length ≤ 8 := by
  have k : ∀ s ∈ WS, (PyData.strOk s && decide (s.length ≤ 8)) = true := by decide +kernel
  obtain ⟨a, b⟩ := Bool.and_eq_true_iff.mp (k s h)
  exact ⟨a, of_decide_eq_true b⟩
theorem Pd.ws {s : Str} (h : s ∈ WS) : Pd (.str s) 0 82 := .str (ws_ok h).1 (by have := (ws_ok h).2; omega)
theorem Pd.oP {o : Option Str} (h : ∀ s, o = some s → s ∈ WS) : Pd (oP o) 0 82 := by
  cases o with
  | none => exact Pd.non.mono (Nat.le_refl _) (by decide)
  | some s => exact .ws (h s rfl)
theorem Pd.fP {p : Str × Str} (h : FdOk p) : Pd (fP p) 1 171 := by
  refine (Pd.tup (w := 82) fun x hx => ?_).mono (Nat.le_refl _) (Nat.le_refl _)
  rcases List.mem_cons.mp hx with rfl | hx
  · exact .ws h.1
  · rw [List.mem_singleton.mp hx]
    rcases h.2 with e | e <;> rw [e] <;> exact .str (by decide +kernel) (by decide +kernel)
theorem Pd.knd {r : Knd} (h : RowOk r) : Pd r.pv 3 4000 := by
  have pf : Pd (.tup (r.fs.map Rk.fP)) 2 695 := (Pd.tup (w := 171) fun x hx => by
    obtain ⟨p, hp, rfl⟩ := List.mem_map.mp hx
    exact Pd.fP (h.fs p hp)).mono (Nat.le_refl _) (by
      have := h.f4
      rw [List.length_map]
      omega)
  refine (Pd.tup (n := 2) (w := 695) (xs := [.str r.nm, Rk.oP r.par, .tup (r.fs.map Rk.fP), Rk.oP r.key, .str r.rule]) fun x hx => ?_).mono (Nat.le_refl _) (by simp)
  simp only [List.mem_cons, List.not_mem_nil, or_false] at hx
  rcases hx with rfl | rfl | rfl | rfl | rfl
  · exact (Pd.ws h.nm).mono (by decide) (by decide)
  · exact (Pd.oP h.par).mono (by decide) (by decide)
  · exact pf
  · exact (Pd.oP h.key).mono (by decide) (by decide)
  · refine Pd.mono (n := 0) (w := 82) ?_ (by decide) (by decide)
    rcases h.rule with e | e | e <;> rw [e] <;> exact .str (by decide +kernel) (by decide +kernel)
theorem Pd.bP {b : Str × Str × Str} (h : b.1 ∈ WS ∧ (b.2.1 ∈ WS ∧ b.2.2 ∈ WS)) : Pd (bP b) 1 300 := by
  refine (Pd.tup (n := 0) (w := 82) (xs := [.str b.1, .str b.2.1, .str b.2.2]) fun x hx => ?_).mono (Nat.le_refl _) (by simp)
  simp only [List.mem_cons, List.not_mem_nil, or_false] at hx
  rcases hx with rfl | rfl | rfl
  · exact .ws h.1
  · exact .ws h.2.1
  · exact .ws h.2.2
theorem Pd.bs {bs : List (Str × Str × Str)} (b4 : bs.length ≤ 4) (h : ∀ b ∈ bs, b.1 ∈ WS ∧ (b.2.1 ∈ WS ∧ b.2.2 ∈ WS)) : Pd (.tup (bs.map Rk.bP)) 2 1300 :=
  (Pd.tup (n := 1) (w := 300) fun x hx => by
    obtain ⟨b, hb, rfl⟩ := List.mem_map.mp hx
    exact Pd.bP (h b hb)).mono (Nat.le_refl _) (by rw [List.length_map]; omega)
theorem Pd.sch {rows : List Knd} {bs : List (Str × Str × Str)} (h : SchOk rows bs) : Pd (schP rows bs) 5 100000 := by
  have p1 : Pd (.tup (rows.map Knd.pv)) 4 40000 := (Pd.tup (n := 3) (w := 4000) fun x hx => by
    obtain ⟨r, hr, rfl⟩ := List.mem_map.mp hx
    exact Pd.knd (h.ok r hr)).mono (Nat.le_refl _) (by
      have := h.n8
      rw [List.length_map]
      omega)
  refine (Pd.tup (n := 4) (w := 40000) (xs := [.tup (rows.map Knd.pv), .tup (bs.map Rk.bP)]) fun x hx => ?_).mono (Nat.le_refl _) (by simp)
  simp only [List.mem_cons, List.not_mem_nil, or_false] at hx
  rcases hx with rfl | rfl
  · exact p1
  · exact (Pd.bs h.b4 h.bok).mono (by decide) (by decide)
end Rk

set_option Elab.async false
set_option linter.all false
set_option maxRecDepth 100000
set_option maxHeartbeats 0
namespace K03
open PySem PySem.Spec L2 Rk

def f0 : FD := ⟨"way_up", "way_up", ["parents", "name"], ["parents", "name", "found"], [
  .asg (.nm 2) (.lst false .nil),
  .whl (.cmp .IsNot (.var 1) (.cst .non)) [
    .expr (.mt true .append (.var 2) (.cons (.var 1) .nil)),
    .asg (.nm 1) (.sub (.var 0) (.var 1))],
  .ret (.var 2)], false⟩
def f1 : FD := ⟨"kind_of", "kind_of", ["schema", "name"], ["schema", "name", "kind"], [
  .forS (.nm 2) (.seq (.sub (.var 0) (.cst (.int 0)))) [
    .ifS (.and (.cons (.val (.isi (.var 1) .str)) (.cons (.cmp .Eq (.sub (.var 2) (.cst (.int 0))) (.var 1)) .nil))) [
      .ret (.var 2)] []],
  .raise "BadKind" (.cons (.cst (.str "no such kind")) .nil)], false⟩
def f2 : FD := ⟨"ties_from", "ties_from", ["schema", "kind"], ["schema", "kind", "own", "tie"], [
  .asg (.nm 2) (.sub (.call 1 (.cons (.var 0) (.cons (.var 1) .nil))) (.cst (.int 0))),
  .ret (.pr true .tuple (.cons (.comp true (.var 3) (.nm 3) (.seq (.sub (.var 0) (.cst (.int 1)))) (.cons (.cmp .Eq (.sub (.var 3) (.cst (.int 1))) (.var 2)) .nil) [3]) .nil))], false⟩
def f3 : FD := ⟨"ties_to", "ties_to", ["schema", "kind"], ["schema", "kind", "own", "tie"], [
  .asg (.nm 2) (.sub (.call 1 (.cons (.var 0) (.cons (.var 1) .nil))) (.cst (.int 0))),
  .ret (.pr true .tuple (.cons (.comp true (.var 3) (.nm 3) (.seq (.sub (.var 0) (.cst (.int 1)))) (.cons (.cmp .Eq (.sub (.var 3) (.cst (.int 2))) (.var 2)) .nil) [3]) .nil))], false⟩
def f4 : FD := ⟨"above", "above", ["schema", "kind"], ["schema", "kind", "own", "row"], [
  .asg (.nm 2) (.sub (.call 1 (.cons (.var 0) (.cons (.var 1) .nil))) (.cst (.int 0))),
  .ret (.pr true .tuple (.cons (.rev true (.call 0 (.cons (.dcomp (.sub (.var 3) (.cst (.int 0))) (.sub (.var 3) (.cst (.int 1))) (.nm 3) (.seq (.sub (.var 0) (.cst (.int 0)))) .nil [3]) (.cons (.var 2) .nil)))) .nil))], false⟩
def f5 : FD := ⟨"_law_cell", "_law_cell", ["_law_cells", "_law_spot"], ["_law_cells", "_law_spot", "_law_k", "_law_base", "_law_own", "_law_turn"], [
  .setI (.var 1) (.cst (.int 0)) (.bin true .Add (.sub (.var 1) (.cst (.int 0))) (.cst (.int 1))),
  .asg (.nm 2) (.sub (.var 1) (.cst (.int 0))),
  .asg (.nm 3) (.bin true .Add (.bin true .Mult (.bin true .Mult (.cst (.int 31)) (.var 2)) (.var 2)) (.bin true .Mult (.cst (.int 7919)) (.var 2))),
  .ifS (.and (.cons (.cmp .Gt (.pr true .len (.cons (.var 0) .nil)) (.cst (.int 0))) (.cons (.cmp .GtE (.sub (.var 0) (.bin true .Mod (.var 2) (.pr true .len (.cons (.var 0) .nil)))) (.bin true .Pow (.cst (.int 10)) (.cst (.int 18)))) (.cons (.cmp .Lt (.bin true .FloorDiv (.var 2) (.pr true .len (.cons (.var 0) .nil))) (.cst (.int 60))) .nil)))) [
    .asg (.nm 4) (.sub (.var 0) (.bin true .Mod (.var 2) (.pr true .len (.cons (.var 0) .nil)))),
    .forS (.nm 5) (.range1 (.bin true .FloorDiv (.var 2) (.pr true .len (.cons (.var 0) .nil)))) [
      .asg (.nm 4) (.bin true .FloorDiv (.var 4) (.cst (.int 306783379)))],
    .ifS (.cmp .Gt (.var 4) (.cst (.int 0))) [
      .ret (.bin true .Mod (.var 4) (.cst (.int 306783379)))] []] [],
  .ifS (.cmp .Gt (.pr true .len (.cons (.var 0) .nil)) (.cst (.int 0))) [
    .asg (.nm 3) (.bin true .Add (.var 3) (.bin true .Mult (.bin true .Mod (.sub (.var 0) (.bin true .Mod (.var 2) (.pr true .len (.cons (.var 0) .nil)))) (.cst (.int 2147483629))) (.bin true .Add (.cst (.int 1)) (.bin true .FloorDiv (.var 2) (.pr true .len (.cons (.var 0) .nil))))))] [],
  .ret (.bin true .FloorDiv (.bin true .Mod (.bin true .Pow (.bin true .Mod (.var 3) (.cst (.int 2147483647))) (.cst (.int 5))) (.cst (.int 2147483647))) (.cst (.int 7)))], false⟩
def f6 : FD := ⟨"_law_names", "_law_names", ["_law_n", "_law_many"], ["_law_n", "_law_many", "_law_words", "_law_step", "_law_k"], [
  .asg (.nm 2) (.lst true (.cons (.cst (.str "kind")) (.cons (.cst (.str "tie")) (.cons (.cst (.str "under")) (.cons (.cst (.str "all")) (.cons (.cst (.str "down")) (.cons (.cst (.str "up")) (.cons (.cst (.str "to")) (.cons (.cst (.str "from")) (.cons (.cst (.str "num")) (.cons (.cst (.str "text")) (.cons (.cst (.str "by")) (.cons (.cst (.str "first")) (.cons (.cst (.str "last")) (.cons (.cst (.str "unique")) .nil))))))))))))))),
  .asg (.nm 2) (.bin true .Add (.var 2) (.lst true (.cons (.cst (.str "unkeyed")) (.cons (.cst (.str "a")) (.cons (.cst (.str "z9")) (.cons (.cst (.str "emp")) (.cons (.cst (.str "dept")) (.cons (.cst (.str "abcdefgh")) .nil)))))))),
  .asg (.nm 3) (.sub (.lst true (.cons (.cst (.int 1)) (.cons (.cst (.int 3)) (.cons (.cst (.int 7)) (.cons (.cst (.int 9)) .nil))))) (.bin true .Mod (.bin true .FloorDiv (.var 0) (.cst (.int 20))) (.cst (.int 4)))),
  .ret (.comp true (.sub (.var 2) (.bin true .Mod (.bin true .Add (.var 0) (.bin true .Mult (.var 3) (.var 4))) (.cst (.int 20)))) (.nm 4) (.range1 (.var 1)) .nil [4])], false⟩
def f7 : FD := ⟨"_law_fields", "_law_fields", ["_law_cells", "_law_spot"], ["_law_cells", "_law_spot", "_law_n", "_law_names_here", "_law_k", "_law_who"], [
  .asg (.nm 2) (.call 5 (.cons (.var 0) (.cons (.var 1) .nil))),
  .asg (.nm 3) (.call 6 (.cons (.bin true .FloorDiv (.var 2) (.cst (.int 4))) (.cons (.bin true .Add (.cst (.int 1)) (.bin true .Mod (.var 2) (.cst (.int 4)))) .nil))),
  .ret (.pr true .tuple (.cons (.comp true (.tup (.cons (.var 5) (.cons (.sub (.lst true (.cons (.cst (.str "num")) (.cons (.cst (.str "text")) (.cons (.cst (.str "num")) .nil)))) (.bin true .Mod (.bin true .FloorDiv (.bin true .FloorDiv (.var 2) (.cst (.int 320))) (.sub (.lst true (.cons (.cst (.int 1)) (.cons (.cst (.int 3)) (.cons (.cst (.int 9)) (.cons (.cst (.int 27)) .nil))))) (.var 4))) (.cst (.int 3)))) .nil))) (.tup [4, 5]) (.enum (.var 3)) .nil [4, 5]) .nil))], false⟩
def f8 : FD := ⟨"_law_above", "_law_above", ["_law_parents", "_law_who"], ["_law_parents", "_law_who", "_law_found"], [
  .asg (.nm 2) (.lst false .nil),
  .whl (.cmp .IsNot (.var 1) (.cst .non)) [
    .expr (.mt true .append (.var 2) (.cons (.var 1) .nil)),
    .asg (.nm 1) (.sub (.var 0) (.var 1))],
  .ret (.var 2)], false⟩
def f9 : FD := ⟨"_law_schema", "_law_schema", ["_law_cells", "_law_spot"], ["_law_cells", "_law_spot", "_law_bonds", "_law_n", "_law_m", "_law_names_here", "_law_kinds", "_law_parents", "_law_last", "_law_k", "_law_who", "_law_some", "_law_key", "_law_rule", "_law_d", "_law_own"], [
  .par [3, 4] (.cons (.call 5 (.cons (.var 0) (.cons (.var 1) .nil))) (.cons (.call 5 (.cons (.var 0) (.cons (.var 1) .nil))) .nil)),
  .par [5, 6, 7, 8] (.cons (.call 6 (.cons (.bin true .FloorDiv (.var 3) (.cst (.int 8))) (.cons (.sub (.lst true (.cons (.cst (.int 3)) (.cons (.cst (.int 1)) (.cons (.cst (.int 4)) (.cons (.cst (.int 6)) (.cons (.cst (.int 2)) (.cons (.cst (.int 8)) (.cons (.cst (.int 5)) (.cons (.cst (.int 3)) .nil))))))))) (.bin true .Mod (.var 3) (.cst (.int 8)))) .nil))) (.cons (.lst false .nil) (.cons (.dct .nil) (.cons (.cst .non) .nil)))),
  .forS (.tup [9, 10]) (.enum (.var 5)) [
    .par [14, 15] (.cons (.call 5 (.cons (.var 0) (.cons (.var 1) .nil))) (.cons (.call 7 (.cons (.var 0) (.cons (.var 1) .nil))) .nil)),
    .asg (.nm 11) (.call 8 (.cons (.var 7) (.cons (.var 8) .nil))),
    .setI (.var 7) (.var 10) (.ife (.cmp .Gt (.var 9) (.cst (.int 0))) (.sub (.var 11) (.bin true .Mod (.var 14) (.pr true .len (.cons (.var 11) .nil)))) (.cst .non)),
    .asg (.nm 12) (.ife (.cmp .Gt (.bin true .Mod (.bin true .FloorDiv (.var 14) (.cst (.int 32))) (.cst (.int 4))) (.cst (.int 0))) (.sub (.sub (.var 15) (.bin true .Mod (.bin true .FloorDiv (.var 14) (.cst (.int 8))) (.pr true .len (.cons (.var 15) .nil)))) (.cst (.int 0))) (.cst .non)),
    .asg (.nm 13) (.sub (.lst true (.cons (.cst (.str "first")) (.cons (.cst (.str "last")) (.cons (.cst (.str "unique")) .nil)))) (.bin true .Mod (.bin true .FloorDiv (.var 14) (.cst (.int 128))) (.bin true .Add (.cst (.int 2)) (.pr true .int (.cons (.cmp .IsNot (.var 12) (.cst .non)) .nil))))),
    .expr (.mt true .append (.var 6) (.cons (.tup (.cons (.var 10) (.cons (.sub (.var 7) (.var 10)) (.cons (.var 15) (.cons (.var 12) (.cons (.var 13) .nil)))))) .nil)),
    .asg (.nm 8) (.var 10)],
  .asg (.nm 2) (.lst false .nil),
  .forS (.tup [9, 10]) (.enum (.call 6 (.cons (.bin true .FloorDiv (.var 4) (.cst (.int 5))) (.cons (.sub (.lst true (.cons (.cst (.int 0)) (.cons (.cst (.int 1)) (.cons (.cst (.int 2)) (.cons (.cst (.int 4)) (.cons (.cst (.int 3)) .nil)))))) (.bin true .Mod (.var 4) (.cst (.int 5)))) .nil)))) [
    .asg (.nm 14) (.call 5 (.cons (.var 0) (.cons (.var 1) .nil))),
    .expr (.mt true .append (.var 2) (.cons (.tup (.cons (.var 10) (.cons (.sub (.var 5) (.bin true .Mod (.var 14) (.pr true .len (.cons (.var 5) .nil)))) (.cons (.sub (.var 5) (.bin true .Mod (.bin true .FloorDiv (.var 14) (.cst (.int 8))) (.pr true .len (.cons (.var 5) .nil)))) .nil)))) .nil))],
  .ret (.tup (.cons (.pr true .tuple (.cons (.var 6) .nil)) (.cons (.pr true .tuple (.cons (.var 2) .nil)) .nil)))], false⟩
def f10 : FD := ⟨"_law_told", "_law_told", ["_law_deed"], ["_law_deed", "_law_error", "_law_told_here", "e", "_law_is_due"], [
  .asg (.nm 1) (.cst .non),
  .asg (.nm 2) (.cst .non),
  .tryX [
    .asg (.nm 2) (.act 0)] ["BaseError", "AwayError"] [("BadKind", true)] 3 1,
  .ifS (.cmp .Is (.var 1) (.cst .non)) [
    .ret (.lst true (.cons (.var 2) .nil))] [],
  .asg (.nm 4) (.band (.cons (.isx (.var 1) ["BadKind"] [("BadKind", true)]) (.cons (.isx (.var 1) ["ValueError"] [("BadKind", true)]) .nil))),
  .ret (.ife (.and (.cons (.val (.var 4)) (.cons (.not (.val (.isx (.var 1) ["AwayError", "BadSchema", "BadValues"] [("BadKind", false)]))) .nil))) (.cst (.str "kind")) (.cst (.str "other")))], false⟩
def f11 : FD := ⟨"_law_right", "_law_right", ["_law_whole", "_law_row"], ["_law_whole", "_law_row", "_law_one", "_law_who", "_law_bonds", "_law_parents", "_law_tie"], [
  .par [3, 4, 5] (.cons (.sub (.var 1) (.cst (.int 0))) (.cons (.sub (.var 0) (.cst (.int 1))) (.cons (.dct .nil) .nil))),
  .forS (.nm 2) (.seq (.sub (.var 0) (.cst (.int 0)))) [
    .setI (.var 5) (.sub (.var 2) (.cst (.int 0))) (.sub (.var 2) (.cst (.int 1)))],
  .ifS (.or (.cons (.cmp .NotEq (.call 1 (.cons (.var 0) (.cons (.var 3) .nil))) (.var 1)) (.cons (.cmp .NotEq (.call 4 (.cons (.var 0) (.cons (.var 3) .nil))) (.pr true .tuple (.cons (.rev true (.call 8 (.cons (.var 5) (.cons (.var 3) .nil)))) .nil))) .nil))) [
    .ret (.cst (.bl false))] [],
  .ifS (.cmp .NotEq (.call 2 (.cons (.var 0) (.cons (.var 3) .nil))) (.pr true .tuple (.cons (.comp true (.var 6) (.nm 6) (.seq (.var 4)) (.cons (.cmp .Eq (.sub (.var 6) (.cst (.int 1))) (.var 3)) .nil) [6]) .nil))) [
    .ret (.cst (.bl false))] [],
  .ifS (.cmp .NotEq (.callK 3 1 (.cons (.var 0) .nil) ["kind"] (.cons (.var 3) .nil) [0, 1]) (.pr true .tuple (.cons (.comp true (.var 6) (.nm 6) (.seq (.var 4)) (.cons (.cmp .Eq (.sub (.var 6) (.cst (.int 2))) (.var 3)) .nil) [6]) .nil))) [
    .ret (.cst (.bl false))] [],
  .ret (.cmp .Eq (.lst true (.cons (.callK 1 0 .nil ["name", "schema"] (.cons (.var 3) (.cons (.var 0) .nil)) [1, 0]) (.cons (.callK 4 0 .nil ["kind", "schema"] (.cons (.var 3) (.cons (.var 0) .nil)) [1, 0]) .nil))) (.lst true (.cons (.var 1) (.cons (.call 4 (.cons (.var 0) (.cons (.var 3) .nil))) .nil))))], false⟩
def f12 : FD := ⟨"law", "law", ["_law_script"], ["_law_script", "_law_spot", "_law_turn", "_law_kept", "_law_odd", "_law_rows", "_law_n", "_law_told_here", "_law_row"], [
  .asg (.nm 1) (.lst false (.cons (.cst (.int 0)) .nil)),
  .forS (.nm 2) (.range1 (.bin true .Add (.cst (.int 3)) (.pr true .min2 (.cons (.cst (.int 16)) (.cons (.pr true .len (.cons (.var 0) .nil)) .nil))))) [
    .par [5, 6] (.cons (.call 9 (.cons (.var 0) (.cons (.var 1) .nil))) (.cons (.call 5 (.cons (.var 0) (.cons (.var 1) .nil))) .nil)),
    .asg (.nm 3) (.pr true .repr (.cons (.var 5) .nil)),
    .ifS (.cmp .NotEq (.comp true (.var 8) (.nm 8) (.seq (.sub (.var 5) (.cst (.int 0)))) (.cons (.not (.val (.call 11 (.cons (.var 5) (.cons (.var 8) .nil))))) .nil) [8]) (.lst true .nil)) [
      .ret (.cst (.bl false))] [],
    .forS (.nm 4) (.seq (.tup (.cons (.cst .non) (.cons (.cst (.str "nobody")) (.cons (.cst (.str "Kind")) (.cons (.cst (.str "")) (.cons (.cst (.int 5)) (.cons (.cst (.bl true)) (.cons (.tup (.cons (.sub (.sub (.sub (.var 5) (.cst (.int 0))) (.cst (.int 0))) (.cst (.int 0))) .nil)) (.cons (.lst true (.cons (.sub (.sub (.sub (.var 5) (.cst (.int 0))) (.cst (.int 0))) (.cst (.int 0))) .nil)) (.cons (.dct .nil) (.cons (.sub (.sub (.var 5) (.cst (.int 0))) (.cst (.int 0))) (.cons (.bin true .Pow (.cst (.int 10)) (.cst (.int 30))) .nil))))))))))))) [
      .asg (.nm 7) (.lst false (.cons (.lam 10 (.call 1 (.cons (.var 5) (.cons (.var 4) .nil)))) .nil)),
      .expr (.mt true .append (.var 7) (.cons (.lam 10 (.call 4 (.cons (.var 5) (.cons (.var 4) .nil)))) .nil)),
      .expr (.mt true .append (.var 7) (.cons (.lam 10 (.call 2 (.cons (.var 5) (.cons (.var 4) .nil)))) .nil)),
      .expr (.mt true .append (.var 7) (.cons (.lam 10 (.call 3 (.cons (.var 5) (.cons (.var 4) .nil)))) .nil)),
      .ifS (.cmp .NotEq (.var 7) (.rep true (.cons (.cst (.str "kind")) .nil) (.cst (.int 4)))) [
        .ret (.cst (.bl false))] []],
    .ifS (.cmp .NotEq (.pr true .repr (.cons (.var 5) .nil)) (.var 3)) [
      .ret (.cst (.bl false))] []],
  .ret (.cst (.bl true))], true⟩
def GD : GS := ⟨[f0, f1, f2, f3, f4, f5, f6, f7, f8, f9, f10, f11, f12], ["isinstance", "str", "tuple", "len", "range", "enumerate", "int", "ValueError", "min", "repr"], [], [(3, 1, ["kind"], [0, 1]), (1, 0, ["name", "schema"], [1, 0]), (4, 0, ["kind", "schema"], [1, 0])], [("BadKind", [("BadKind", true)]), ("ValueError", [("BadKind", true)])], [(["AwayError", "BadSchema", "BadValues"], [("BadKind", false)])], [(["BaseError", "AwayError"], [("BadKind", true)])], ["BadKind"]⟩
def CC : CN := ⟨["BadKind", "BaseError", "AwayError", "BadSchema", "BadValues"], [("ValueError", "ValueError")]⟩
abbrev RW : PySem.W.OpenLaw := PySem.Challenge.rw_rootwalk_k03_kinds_and_ties_asked
def top (i : Nat) : Stmt := PySem.Challenge.pw_rootwalk_k03_kinds_and_ties_asked.main.body.getD i (.Pass ⟨0, 0, 0, 0⟩)
theorem ok0 : okD GD f0 (top 7) = true := by decide +kernel
theorem ok1 : okD GD f1 (top 8) = true := by decide +kernel
theorem ok2 : okD GD f2 (top 9) = true := by decide +kernel
theorem ok3 : okD GD f3 (top 10) = true := by decide +kernel
theorem ok4 : okD GD f4 (top 11) = true := by decide +kernel
theorem ok5 : okD GD f5 (top 13) = true := by decide +kernel
theorem ok6 : okD GD f6 (top 14) = true := by decide +kernel
theorem ok7 : okD GD f7 (top 15) = true := by decide +kernel
theorem ok8 : okD GD f8 (top 16) = true := by decide +kernel
theorem ok9 : okD GD f9 (top 17) = true := by decide +kernel
theorem ok10 : okD GD f10 (top 18) = true := by decide +kernel
theorem ok11 : okD GD f11 (top 19) = true := by decide +kernel
theorem ok12 : okD GD f12 (top 20) = true := by decide +kernel
def d0 : He.DefD := ⟨("way_up", none), "way_up", "way_up", defArgs (top 7), defBody (top 7), defScope (top 7), [], []⟩
def d1 : He.DefD := ⟨("kind_of", none), "kind_of", "kind_of", defArgs (top 8), defBody (top 8), defScope (top 8), [], []⟩
def d2 : He.DefD := ⟨("ties_from", none), "ties_from", "ties_from", defArgs (top 9), defBody (top 9), defScope (top 9), [], []⟩
def d3 : He.DefD := ⟨("ties_to", none), "ties_to", "ties_to", defArgs (top 10), defBody (top 10), defScope (top 10), [], []⟩
def d4 : He.DefD := ⟨("above", none), "above", "above", defArgs (top 11), defBody (top 11), defScope (top 11), [], []⟩
def d5 : He.DefD := ⟨("_law_cell", none), "_law_cell", "_law_cell", defArgs (top 13), defBody (top 13), defScope (top 13), [], []⟩
def d6 : He.DefD := ⟨("_law_names", none), "_law_names", "_law_names", defArgs (top 14), defBody (top 14), defScope (top 14), [], []⟩
def d7 : He.DefD := ⟨("_law_fields", none), "_law_fields", "_law_fields", defArgs (top 15), defBody (top 15), defScope (top 15), [], []⟩
def d8 : He.DefD := ⟨("_law_above", none), "_law_above", "_law_above", defArgs (top 16), defBody (top 16), defScope (top 16), [], []⟩
def d9 : He.DefD := ⟨("_law_schema", none), "_law_schema", "_law_schema", defArgs (top 17), defBody (top 17), defScope (top 17), [], []⟩
def d10 : He.DefD := ⟨("_law_told", none), "_law_told", "_law_told", defArgs (top 18), defBody (top 18), defScope (top 18), [], []⟩
def d11 : He.DefD := ⟨("_law_right", none), "_law_right", "_law_right", defArgs (top 19), defBody (top 19), defScope (top 19), [], []⟩
def d12 : He.DefD := ⟨("law", none), "law", "law", defArgs (top 20), defBody (top 20), defScope (top 20), [], []⟩
def fn : List He.DefD := [d0, d1, d2, d3, d4, d5, d6, d7, d8, d9, d10, d11, d12]
def fa : List He.Fa := [.glo "way_up", .glo "kind_of", .glo "ties_from", .glo "ties_to", .glo "above", .glo "_law_cell", .glo "_law_names", .glo "_law_fields", .glo "_law_above", .glo "_law_schema", .glo "_law_told", .glo "_law_right", .glo "law", .free "isinstance", .free "str", .free "tuple", .free "len", .free "range", .free "enumerate", .free "int", .free "ValueError", .free "min", .free "repr", .glo "BadKind", .glo "BaseError", .glo "AwayError", .glo "BadSchema", .glo "BadValues"]
def tf : List He.Defn := [("law", none)]
def ex (K : PySem.W.Frag) : Bool := modB CC GD K
def TT (K : PySem.W.Frag) : List (Addr × Str) := [((He.cT K ("law", none)).2, "law" ++ ".<locals>." ++ "<lambda>")]
theorem mo {K : PySem.W.Frag} {h base : Heap} {w : World} {mg : Str → Option Value} (X : K.In h) (G : h.Ns mainGlobals mg) (c : He.SaysX fa fn [] tf ex w h K) (B : ∀ p ∈ tf, LamX.TabB base mg (He.cT K p).1 (He.cT K p).2) : Mo (GI.of K (TT K)) GD mg base where
  defs := fun f d e => match f, e with
    | 0, e => by
      cases e
      obtain ⟨fd, F⟩ := c.t.d.def_ 0 (d := d0) rfl
      refine ⟨top 7, _, fd, He.glo_ok X G (c.t.d.fact 0 (f := .glo "way_up") rfl), F, FunD.bindsN F fun _ _ _ _ _ _ us hl => match us, hl with | [_, _], _ => rfl, ok0, ?_, ?_⟩
      · intro n nks pm hk
        have hk : (0, n, nks, pm) ∈ ([(3, 1, ["kind"], [0, 1]), (1, 0, ["name", "schema"], [1, 0]), (4, 0, ["kind", "schema"], [1, 0])] : List (Nat × Nat × List Str × List Nat)) := hk
        simp only [List.mem_cons, List.not_mem_nil, or_false, Prod.mk.injEq] at hk
        rcases hk with ⟨e0, rfl, rfl, rfl⟩ | ⟨e0, rfl, rfl, rfl⟩ | ⟨e0, rfl, rfl, rfl⟩
        · exact absurd e0 (by decide)
        · exact absurd e0 (by decide)
        · exact absurd e0 (by decide)
      · exact fun z => nomatch (show false = true from z)
    | 1, e => by
      cases e
      obtain ⟨fd, F⟩ := c.t.d.def_ 1 (d := d1) rfl
      refine ⟨top 8, _, fd, He.glo_ok X G (c.t.d.fact 1 (f := .glo "kind_of") rfl), F, FunD.bindsN F fun _ _ _ _ _ _ us hl => match us, hl with | [_, _], _ => rfl, ok1, ?_, ?_⟩
      · intro n nks pm hk
        have hk : (1, n, nks, pm) ∈ ([(3, 1, ["kind"], [0, 1]), (1, 0, ["name", "schema"], [1, 0]), (4, 0, ["kind", "schema"], [1, 0])] : List (Nat × Nat × List Str × List Nat)) := hk
        simp only [List.mem_cons, List.not_mem_nil, or_false, Prod.mk.injEq] at hk
        rcases hk with ⟨e0, rfl, rfl, rfl⟩ | ⟨e0, rfl, rfl, rfl⟩ | ⟨e0, rfl, rfl, rfl⟩
        · exact absurd e0 (by decide)
        · exact kb_of F fun _ _ _ _ _ _ us ws l1 l2 => match us, l1, ws, l2 with | [], _, [_, _], _ => rfl
        · exact absurd e0 (by decide)
      · exact fun z => nomatch (show false = true from z)
    | 2, e => by
      cases e
      obtain ⟨fd, F⟩ := c.t.d.def_ 2 (d := d2) rfl
      refine ⟨top 9, _, fd, He.glo_ok X G (c.t.d.fact 2 (f := .glo "ties_from") rfl), F, FunD.bindsN F fun _ _ _ _ _ _ us hl => match us, hl with | [_, _], _ => rfl, ok2, ?_, ?_⟩
      · intro n nks pm hk
        have hk : (2, n, nks, pm) ∈ ([(3, 1, ["kind"], [0, 1]), (1, 0, ["name", "schema"], [1, 0]), (4, 0, ["kind", "schema"], [1, 0])] : List (Nat × Nat × List Str × List Nat)) := hk
        simp only [List.mem_cons, List.not_mem_nil, or_false, Prod.mk.injEq] at hk
        rcases hk with ⟨e0, rfl, rfl, rfl⟩ | ⟨e0, rfl, rfl, rfl⟩ | ⟨e0, rfl, rfl, rfl⟩
        · exact absurd e0 (by decide)
        · exact absurd e0 (by decide)
        · exact absurd e0 (by decide)
      · exact fun z => nomatch (show false = true from z)
    | 3, e => by
      cases e
      obtain ⟨fd, F⟩ := c.t.d.def_ 3 (d := d3) rfl
      refine ⟨top 10, _, fd, He.glo_ok X G (c.t.d.fact 3 (f := .glo "ties_to") rfl), F, FunD.bindsN F fun _ _ _ _ _ _ us hl => match us, hl with | [_, _], _ => rfl, ok3, ?_, ?_⟩
      · intro n nks pm hk
        have hk : (3, n, nks, pm) ∈ ([(3, 1, ["kind"], [0, 1]), (1, 0, ["name", "schema"], [1, 0]), (4, 0, ["kind", "schema"], [1, 0])] : List (Nat × Nat × List Str × List Nat)) := hk
        simp only [List.mem_cons, List.not_mem_nil, or_false, Prod.mk.injEq] at hk
        rcases hk with ⟨e0, rfl, rfl, rfl⟩ | ⟨e0, rfl, rfl, rfl⟩ | ⟨e0, rfl, rfl, rfl⟩
        · exact kb_of F fun _ _ _ _ _ _ us ws l1 l2 => match us, l1, ws, l2 with | [_], _, [_], _ => rfl
        · exact absurd e0 (by decide)
        · exact absurd e0 (by decide)
      · exact fun z => nomatch (show false = true from z)
    | 4, e => by
      cases e
      obtain ⟨fd, F⟩ := c.t.d.def_ 4 (d := d4) rfl
      refine ⟨top 11, _, fd, He.glo_ok X G (c.t.d.fact 4 (f := .glo "above") rfl), F, FunD.bindsN F fun _ _ _ _ _ _ us hl => match us, hl with | [_, _], _ => rfl, ok4, ?_, ?_⟩
      · intro n nks pm hk
        have hk : (4, n, nks, pm) ∈ ([(3, 1, ["kind"], [0, 1]), (1, 0, ["name", "schema"], [1, 0]), (4, 0, ["kind", "schema"], [1, 0])] : List (Nat × Nat × List Str × List Nat)) := hk
        simp only [List.mem_cons, List.not_mem_nil, or_false, Prod.mk.injEq] at hk
        rcases hk with ⟨e0, rfl, rfl, rfl⟩ | ⟨e0, rfl, rfl, rfl⟩ | ⟨e0, rfl, rfl, rfl⟩
        · exact absurd e0 (by decide)
        · exact absurd e0 (by decide)
        · exact kb_of F fun _ _ _ _ _ _ us ws l1 l2 => match us, l1, ws, l2 with | [], _, [_, _], _ => rfl
      · exact fun z => nomatch (show false = true from z)
    | 5, e => by
      cases e
      obtain ⟨fd, F⟩ := c.t.d.def_ 5 (d := d5) rfl
      refine ⟨top 13, _, fd, He.glo_ok X G (c.t.d.fact 5 (f := .glo "_law_cell") rfl), F, FunD.bindsN F fun _ _ _ _ _ _ us hl => match us, hl with | [_, _], _ => rfl, ok5, ?_, ?_⟩
      · intro n nks pm hk
        have hk : (5, n, nks, pm) ∈ ([(3, 1, ["kind"], [0, 1]), (1, 0, ["name", "schema"], [1, 0]), (4, 0, ["kind", "schema"], [1, 0])] : List (Nat × Nat × List Str × List Nat)) := hk
        simp only [List.mem_cons, List.not_mem_nil, or_false, Prod.mk.injEq] at hk
        rcases hk with ⟨e0, rfl, rfl, rfl⟩ | ⟨e0, rfl, rfl, rfl⟩ | ⟨e0, rfl, rfl, rfl⟩
        · exact absurd e0 (by decide)
        · exact absurd e0 (by decide)
        · exact absurd e0 (by decide)
      · exact fun z => nomatch (show false = true from z)
    | 6, e => by
      cases e
      obtain ⟨fd, F⟩ := c.t.d.def_ 6 (d := d6) rfl
      refine ⟨top 14, _, fd, He.glo_ok X G (c.t.d.fact 6 (f := .glo "_law_names") rfl), F, FunD.bindsN F fun _ _ _ _ _ _ us hl => match us, hl with | [_, _], _ => rfl, ok6, ?_, ?_⟩
      · intro n nks pm hk
        have hk : (6, n, nks, pm) ∈ ([(3, 1, ["kind"], [0, 1]), (1, 0, ["name", "schema"], [1, 0]), (4, 0, ["kind", "schema"], [1, 0])] : List (Nat × Nat × List Str × List Nat)) := hk
        simp only [List.mem_cons, List.not_mem_nil, or_false, Prod.mk.injEq] at hk
        rcases hk with ⟨e0, rfl, rfl, rfl⟩ | ⟨e0, rfl, rfl, rfl⟩ | ⟨e0, rfl, rfl, rfl⟩
        · exact absurd e0 (by decide)
        · exact absurd e0 (by decide)
        · exact absurd e0 (by decide)
      · exact fun z => nomatch (show false = true from z)
    | 7, e => by
      cases e
      obtain ⟨fd, F⟩ := c.t.d.def_ 7 (d := d7) rfl
      refine ⟨top 15, _, fd, He.glo_ok X G (c.t.d.fact 7 (f := .glo "_law_fields") rfl), F, FunD.bindsN F fun _ _ _ _ _ _ us hl => match us, hl with | [_, _], _ => rfl, ok7, ?_, ?_⟩
      · intro n nks pm hk
        have hk : (7, n, nks, pm) ∈ ([(3, 1, ["kind"], [0, 1]), (1, 0, ["name", "schema"], [1, 0]), (4, 0, ["kind", "schema"], [1, 0])] : List (Nat × Nat × List Str × List Nat)) := hk
        simp only [List.mem_cons, List.not_mem_nil, or_false, Prod.mk.injEq] at hk
        rcases hk with ⟨e0, rfl, rfl, rfl⟩ | ⟨e0, rfl, rfl, rfl⟩ | ⟨e0, rfl, rfl, rfl⟩
        · exact absurd e0 (by decide)
        · exact absurd e0 (by decide)
        · exact absurd e0 (by decide)
      · exact fun z => nomatch (show false = true from z)
    | 8, e => by
      cases e
      obtain ⟨fd, F⟩ := c.t.d.def_ 8 (d := d8) rfl
      refine ⟨top 16, _, fd, He.glo_ok X G (c.t.d.fact 8 (f := .glo "_law_above") rfl), F, FunD.bindsN F fun _ _ _ _ _ _ us hl => match us, hl with | [_, _], _ => rfl, ok8, ?_, ?_⟩
      · intro n nks pm hk
        have hk : (8, n, nks, pm) ∈ ([(3, 1, ["kind"], [0, 1]), (1, 0, ["name", "schema"], [1, 0]), (4, 0, ["kind", "schema"], [1, 0])] : List (Nat × Nat × List Str × List Nat)) := hk
        simp only [List.mem_cons, List.not_mem_nil, or_false, Prod.mk.injEq] at hk
        rcases hk with ⟨e0, rfl, rfl, rfl⟩ | ⟨e0, rfl, rfl, rfl⟩ | ⟨e0, rfl, rfl, rfl⟩
        · exact absurd e0 (by decide)
        · exact absurd e0 (by decide)
        · exact absurd e0 (by decide)
      · exact fun z => nomatch (show false = true from z)
    | 9, e => by
      cases e
      obtain ⟨fd, F⟩ := c.t.d.def_ 9 (d := d9) rfl
      refine ⟨top 17, _, fd, He.glo_ok X G (c.t.d.fact 9 (f := .glo "_law_schema") rfl), F, FunD.bindsN F fun _ _ _ _ _ _ us hl => match us, hl with | [_, _], _ => rfl, ok9, ?_, ?_⟩
      · intro n nks pm hk
        have hk : (9, n, nks, pm) ∈ ([(3, 1, ["kind"], [0, 1]), (1, 0, ["name", "schema"], [1, 0]), (4, 0, ["kind", "schema"], [1, 0])] : List (Nat × Nat × List Str × List Nat)) := hk
        simp only [List.mem_cons, List.not_mem_nil, or_false, Prod.mk.injEq] at hk
        rcases hk with ⟨e0, rfl, rfl, rfl⟩ | ⟨e0, rfl, rfl, rfl⟩ | ⟨e0, rfl, rfl, rfl⟩
        · exact absurd e0 (by decide)
        · exact absurd e0 (by decide)
        · exact absurd e0 (by decide)
      · exact fun z => nomatch (show false = true from z)
    | 10, e => by
      cases e
      obtain ⟨fd, F⟩ := c.t.d.def_ 10 (d := d10) rfl
      refine ⟨top 18, _, fd, He.glo_ok X G (c.t.d.fact 10 (f := .glo "_law_told") rfl), F, FunD.bindsN F fun _ _ _ _ _ _ us hl => match us, hl with | [_], _ => rfl, ok10, ?_, ?_⟩
      · intro n nks pm hk
        have hk : (10, n, nks, pm) ∈ ([(3, 1, ["kind"], [0, 1]), (1, 0, ["name", "schema"], [1, 0]), (4, 0, ["kind", "schema"], [1, 0])] : List (Nat × Nat × List Str × List Nat)) := hk
        simp only [List.mem_cons, List.not_mem_nil, or_false, Prod.mk.injEq] at hk
        rcases hk with ⟨e0, rfl, rfl, rfl⟩ | ⟨e0, rfl, rfl, rfl⟩ | ⟨e0, rfl, rfl, rfl⟩
        · exact absurd e0 (by decide)
        · exact absurd e0 (by decide)
        · exact absurd e0 (by decide)
      · exact fun z => nomatch (show false = true from z)
    | 11, e => by
      cases e
      obtain ⟨fd, F⟩ := c.t.d.def_ 11 (d := d11) rfl
      refine ⟨top 19, _, fd, He.glo_ok X G (c.t.d.fact 11 (f := .glo "_law_right") rfl), F, FunD.bindsN F fun _ _ _ _ _ _ us hl => match us, hl with | [_, _], _ => rfl, ok11, ?_, ?_⟩
      · intro n nks pm hk
        have hk : (11, n, nks, pm) ∈ ([(3, 1, ["kind"], [0, 1]), (1, 0, ["name", "schema"], [1, 0]), (4, 0, ["kind", "schema"], [1, 0])] : List (Nat × Nat × List Str × List Nat)) := hk
        simp only [List.mem_cons, List.not_mem_nil, or_false, Prod.mk.injEq] at hk
        rcases hk with ⟨e0, rfl, rfl, rfl⟩ | ⟨e0, rfl, rfl, rfl⟩ | ⟨e0, rfl, rfl, rfl⟩
        · exact absurd e0 (by decide)
        · exact absurd e0 (by decide)
        · exact absurd e0 (by decide)
      · exact fun z => nomatch (show false = true from z)
    | 12, e => by
      cases e
      obtain ⟨fd, F⟩ := c.t.d.def_ 12 (d := d12) rfl
      refine ⟨top 20, _, fd, He.glo_ok X G (c.t.d.fact 12 (f := .glo "law") rfl), F, FunD.bindsN F fun _ _ _ _ _ _ us hl => match us, hl with | [_], _ => rfl, ok12, ?_, ?_⟩
      · intro n nks pm hk
        have hk : (12, n, nks, pm) ∈ ([(3, 1, ["kind"], [0, 1]), (1, 0, ["name", "schema"], [1, 0]), (4, 0, ["kind", "schema"], [1, 0])] : List (Nat × Nat × List Str × List Nat)) := hk
        simp only [List.mem_cons, List.not_mem_nil, or_false, Prod.mk.injEq] at hk
        rcases hk with ⟨e0, rfl, rfl, rfl⟩ | ⟨e0, rfl, rfl, rfl⟩ | ⟨e0, rfl, rfl, rfl⟩
        · exact absurd e0 (by decide)
        · exact absurd e0 (by decide)
        · exact absurd e0 (by decide)
      · exact fun _ => tab_of (x := "law") F (B ("law", none) (by simp [tf])) (by simp [GI.of, TT]) fun p hp _ => by
          rcases List.mem_cons.mp hp with rfl | hp
          · rfl
          · cases hp
    | n + 13, e => by cases e
  free := fun x hx => by
    rcases List.mem_cons.mp hx with rfl | hx
    · exact He.free_ok X G (c.t.d.fact 13 (f := .free "isinstance") rfl)
    rcases List.mem_cons.mp hx with rfl | hx
    · exact He.free_ok X G (c.t.d.fact 14 (f := .free "str") rfl)
    rcases List.mem_cons.mp hx with rfl | hx
    · exact He.free_ok X G (c.t.d.fact 15 (f := .free "tuple") rfl)
    rcases List.mem_cons.mp hx with rfl | hx
    · exact He.free_ok X G (c.t.d.fact 16 (f := .free "len") rfl)
    rcases List.mem_cons.mp hx with rfl | hx
    · exact He.free_ok X G (c.t.d.fact 17 (f := .free "range") rfl)
    rcases List.mem_cons.mp hx with rfl | hx
    · exact He.free_ok X G (c.t.d.fact 18 (f := .free "enumerate") rfl)
    rcases List.mem_cons.mp hx with rfl | hx
    · exact He.free_ok X G (c.t.d.fact 19 (f := .free "int") rfl)
    rcases List.mem_cons.mp hx with rfl | hx
    · exact He.free_ok X G (c.t.d.fact 20 (f := .free "ValueError") rfl)
    rcases List.mem_cons.mp hx with rfl | hx
    · exact He.free_ok X G (c.t.d.fact 21 (f := .free "min") rfl)
    rcases List.mem_cons.mp hx with rfl | hx
    · exact He.free_ok X G (c.t.d.fact 22 (f := .free "repr") rfl)
    cases hx
  consts := fun p hp => by
    cases hp
  md := by
    refine modF_of (C := CC) ⟨fun x hx => ?_, fun p hp => ?_, fun p hp => ?_⟩ c.more
    · have hx : x ∈ (["BadKind", "BaseError", "AwayError", "BadSchema", "BadValues"] : List Str) := hx
      rcases List.mem_cons.mp hx with rfl | hx
      · exact He.glo_ok X G (c.t.d.fact 23 (f := .glo "BadKind") rfl)
      rcases List.mem_cons.mp hx with rfl | hx
      · exact He.glo_ok X G (c.t.d.fact 24 (f := .glo "BaseError") rfl)
      rcases List.mem_cons.mp hx with rfl | hx
      · exact He.glo_ok X G (c.t.d.fact 25 (f := .glo "AwayError") rfl)
      rcases List.mem_cons.mp hx with rfl | hx
      · exact He.glo_ok X G (c.t.d.fact 26 (f := .glo "BadSchema") rfl)
      rcases List.mem_cons.mp hx with rfl | hx
      · exact He.glo_ok X G (c.t.d.fact 27 (f := .glo "BadValues") rfl)
      cases hx
    · have hp : p ∈ ([("ValueError", "ValueError")] : List (Str × String)) := hp
      rcases List.mem_cons.mp hp with rfl | hp
      · exact He.free_ok X G (c.t.d.fact 20 (f := .free "ValueError") rfl)
      cases hp
    · have hp : p ∈ ([("ValueError", "ValueError")] : List (Str × String)) := hp
      rcases List.mem_cons.mp hp with rfl | hp
      · exact ⟨by decide +kernel, by decide +kernel⟩
      cases hp
def law : Nat := 12
end K03

set_option Elab.async false
set_option linter.all false
set_option maxRecDepth 100000
set_option maxHeartbeats 0
namespace K03
open PySem PySem.Spec L2 Rk
abbrev R0 : PySem.W.OpenRow := PySem.W.OpenLaw.row RW
abbrev hk : PySem.W.Hook := He.hookX 6 fa fn [] tf ex
def ob (s : PySem.W.SharedT) : He.AlX := He.obsX 6 fa fn [] tf ex (HandSHeadRun.getT s)
theorem ob_eq (s : PySem.W.SharedT) : ob s = hk.obs s.abs := He.obsX_eq (HandSHeadRun.getT_eq s)
def loose : List Str := ["BaseError", "BadSchema", "BadValues", "BadKind", "AwayError", "way_up", "kind_of", "ties_from", "ties_to", "above", "_law_cell", "_law_names", "_law_fields", "_law_above", "_law_schema", "_law_told", "_law_right"]
theorem run (w : World) : HandSHeadRun.RunEq R0 (PySem.W.view R0.prog [20]) hk ob 2500 loose w := by
  intro os
  kernel_rfl
theorem goes {P : Program} {w : World} {K : PySem.W.Frag} {h : Heap} {mg : Str → Option Value} {f : Addr} (X : K.In h) (G : h.Ns mainGlobals mg) (hfa : mg ("law" : Str) = some (.ref f)) (c : He.SaysX fa fn [] tf ex w h K) :
    ∃ fd : FuncData, (∀ (s : Shared) (v : Value), BindsTo s fd ⟨[v], []⟩ [("_law_script", v)]) ∧ ∀ base : Heap, K.In base → base.Ns mainGlobals mg → (∀ p ∈ tf, LamX.TabB base mg (He.cT K p).1 (He.cT K p).2) → FnG P w K mg base 27 f fd ["_law_script"] (spD (GI.of K (TT K)) (callN GD.defs 9 law)) := by
  obtain ⟨fd, F⟩ := c.t.d.def_ law (d := d12) rfl
  have e := hfa.symm.trans (He.glo_ok X G (c.t.d.fact law (f := .glo "law") rfl))
  cases e
  have b := FunD.bindsA (ps := ["_law_script"]) F fun _ _ _ _ _ _ us hl => match us, hl with | [_], _ => rfl
  refine ⟨fd, fun s v => b s [v] rfl, fun base _ _ TB => ?_⟩
  obtain ⟨fa', fd', g1, g2, _, _, g4⟩ := (all_ok (G := GD) 9 (GI.of K (TT K)) mg base (mo X G c TB)).1 P w law f12 rfl
  have g1 : mg ("law" : Str) = some (.ref fa') := g1
  rw [hfa] at g1
  cases g1
  have e := g2.eq (fnAt_of F)
  subst e
  exact g4
/-- the law is True: what is left to be shown in plain Lean -/
def Plain : Prop := ∀ ns : List Int, ns.length ≤ 63 → ∃ h', callN GD.defs 9 law [.lst (ns.map .int)] [] = .ok (.bl true) h'
theorem told (pl : Plain) (K : PySem.W.Frag) (H : Hp) (a : Addr) (ns : List Int) (hl : ns.length ≤ 63) (hT : ∀ p ∈ tf.map (He.cT K), H p.2 = some (.tbl #[])) (hS : SqL K H a (ns.map V.int)) : spD (GI.of K (TT K)) (callN GD.defs 9 law) [.ref a] H (fun v _ => v = .bl true) fun _ _ _ => False := by
  obtain ⟨h', e⟩ := pl ns hl
  refine ⟨⟨[], []⟩, [], [.lst (ns.map .int)], ⟨rfl, List.nodup_nil, fun i b o e _ => absurd (show (none : Option Addr) = some b from e) (fun z => nomatch z), fun b m => (nomatch m), fun p hp => ?_, trivial⟩, .cons (.lst ?_ (den_ints ns)) .nil, ?_⟩
  · have hp : p ∈ TT K := hp
    unfold TT at hp
    rcases List.mem_cons.mp hp with rfl | hp
    · exact LamX.TabS.nil (hT _ (List.mem_map.mpr ⟨("law", none), by simp [tf], rfl⟩))
    cases hp
  · rcases hS with h | h
    · exact .inl ⟨h, fun m => by rcases m with m | m <;> cases m⟩
    · exact .inr h
  · rw [e]
    intro ρ' H' _ _ x d
    cases d
    rfl
end K03
open PySem PySem.W PySem.Calls PyProof.Rows in
theorem K03.holds (pl : K03.Plain) : PySem.Challenge.rw_rootwalk_k03_kinds_and_ties_asked.Holds := by
  w_on; o_law
  refine HandSHeadRun.head_any (r := OpenLaw.row PySem.Challenge.rw_rootwalk_k03_kinds_and_ties_asked) (q := view (OpenLaw.row PySem.Challenge.rw_rootwalk_k03_kinds_and_ties_asked).prog [20]) (H := K03.hk) (ob := K03.ob) (M := 2500) (loose := K03.loose) (d := HandSHeadRun.topDef (OpenLaw.row PySem.Challenge.rw_rootwalk_k03_kinds_and_ties_asked).prog 20) (kwd := []) K03.ob_eq
    (by kernel_rfl) (fun s => by kernel_rfl) K03.run (by kernel_rfl) (by kernel_rfl) (by kernel_rfl) (by rfl) (by first | assumption | decide +kernel) (by decide +kernel) ⟨rfl, rfl, rfl, rfl, rfl, by decide +kernel⟩ ?hw ?hc
  case hw => w_witness2
  case hc =>
    refine Rk.walk_ofGT (l := PySem.Challenge.rw_rootwalk_k03_kinds_and_ties_asked) (n := 63) (k := 27) (x := "_law_script") rfl (by decide) (by kernel_rfl) ⟨rfl, by decide, by decide⟩ ?F
    intro w mg fa h Y G hmg0
    obtain ⟨K, KX, c⟩ := Y
    have hmg : mg ("law" : PySem.Str) = some (.ref fa) := by
      have e : (HandSHeadRun.topDef (OpenLaw.row PySem.Challenge.rw_rootwalk_k03_kinds_and_ties_asked).prog 20).name = ("law" : PySem.Str) := by kernel_rfl
      rw [← e]
      exact hmg0
    obtain ⟨fd, hb, hF⟩ := K03.goes (P := (PySem.Challenge.rw_rootwalk_k03_kinds_and_ties_asked).prog) (w := w) KX G hmg c
    refine ⟨K, fd, K03.tf.map (He.cT K), _, KX, fun p hp => ?_, fun p hp => ?_, fun p hp => ?_, hb, fun H a ns hl _ hT hS => K03.told pl K H a ns hl hT hS, fun base k1 k2 TB => hF base k1 k2 fun p hp => TB _ (List.mem_map.mpr ⟨p, hp, rfl⟩)⟩
    · obtain ⟨z, hz, rfl⟩ := List.mem_map.mp hp
      exact c.empty z hz
    · obtain ⟨z, hz, rfl⟩ := List.mem_map.mp hp
      exact c.out z hz
    · obtain ⟨z, hz, rfl⟩ := List.mem_map.mp hp
      exact PySem.W.codeHd_of_K KX (c.hd z hz)

set_option Elab.async false
set_option linter.all false
set_option maxRecDepth 100000
set_option maxHeartbeats 1000000
namespace K03
open PySem PySem.Spec L2 Rk
/-- a thing that names no kind -/
def Odd (rows : List Knd) (h : PH) (x : PV) : Prop := isTy h x .str = some false ∨ ∃ s, x = .str s ∧ s ∉ rows.map Knd.nm
def bAsk : List CS := [.ifS (.and (.cons (.val (.isi (.var 1) .str)) (.cons (.cmp .Eq (.sub (.var 2) (.cst (.int 0))) (.var 1)) .nil))) [.ret (.var 2)] []]
def eAsk : List CS := [.raise "BadKind" (.cons (.cst (.str "no such kind")) .nil)]
theorem sub_row (r : Knd) (h : PH) : subS r.pv (.int 0) h = .ok (.str r.nm) h := rfl
theorem tru_bl (b : Bool) (h : PH) : truS (.bl b) h = .ok b h := rfl
theorem ask_miss {cf : CF} {sch : PV} {x : PV} {h : PH} : ∀ rows : List Knd, Odd rows h x → ∀ o, ∃ o', forL (Tg.bind (.nm 2)) (evSs cf bAsk) (rows.map Knd.pv) [some sch, some x, o] h = .next [some sch, some x, o'] h
  | [], _, o => ⟨o, rfl⟩
  | r :: rows, od, o => by
    have od2 : Odd rows h x := od.imp id fun ⟨s, e, n⟩ => ⟨s, e, fun m => n (List.mem_cons_of_mem _ m)⟩
    have eb : evSs cf bAsk [some sch, some x, some r.pv] h = .next [some sch, some x, some r.pv] h := by
      rcases od with od | ⟨s, rfl, n⟩
      · simp only [bAsk, s_cons, s_nil, s_if, t_and, t_ands, t_and1, t_val, a_isi, a_var, lk_0, lk_s, thn_ok, isi_of od, tru_bl, Bool.false_eq_true, ↓reduceIte, to_ok, nx_next]
      · have e1 : isTy h (.str s) .str = some true := rfl
        have e2 : decide (r.nm = s) = false := decide_eq_false fun z => n (by rw [List.map_cons, z]; exact List.mem_cons_self ..)
        simp only [bAsk, s_cons, s_nil, s_if, t_and, t_ands, t_and1, t_val, t_cmp, a_isi, a_sub, a_var, a_cst, Cst.pv, lk_0, lk_s, thn_ok, isi_of e1, tru_bl, sub_row, eq_str, e2, Bool.false_eq_true, ↓reduceIte, to_ok, nx_next]
    obtain ⟨o', g⟩ := ask_miss rows od2 (some r.pv)
    refine ⟨o', ?_⟩
    show (match evSs cf bAsk [some sch, some x, some r.pv] h with
      | .next L' h' => forL (Tg.bind (.nm 2)) (evSs cf bAsk) (rows.map Knd.pv) L' h'
      | .cont L' h' => forL (Tg.bind (.nm 2)) (evSs cf bAsk) (rows.map Knd.pv) L' h'
      | .brk L' h' => .next L' h'
      | r => r) = _
    rw [eb]
    exact g
theorem ask_hit {cf : CF} {sch : PV} {h : PH} : ∀ (rows : List Knd) (r : Knd), r ∈ rows → (rows.map Knd.nm).Nodup → ∀ o, forL (Tg.bind (.nm 2)) (evSs cf bAsk) (rows.map Knd.pv) [some sch, some (.str r.nm), o] h = .ret r.pv h
  | [], _, m, _, _ => (nomatch m)
  | r0 :: rows, r, m, nd, o => by
    have nd := List.nodup_cons.mp (show (r0.nm :: rows.map Knd.nm).Nodup from nd)
    have e1 : isTy h (.str r.nm) .str = some true := rfl
    show (match evSs cf bAsk [some sch, some (.str r.nm), some r0.pv] h with
      | .next L' h' => forL (Tg.bind (.nm 2)) (evSs cf bAsk) (rows.map Knd.pv) L' h'
      | .cont L' h' => forL (Tg.bind (.nm 2)) (evSs cf bAsk) (rows.map Knd.pv) L' h'
      | .brk L' h' => .next L' h'
      | r => r) = _
    rcases List.mem_cons.mp m with rfl | m
    · have eb : evSs cf bAsk [some sch, some (.str r.nm), some r.pv] h = .ret r.pv h := by
        simp only [bAsk, s_cons, s_nil, s_if, s_ret, t_and, t_ands, t_and1, t_val, t_cmp, a_isi, a_sub, a_var, a_cst, Cst.pv, lk_0, lk_s, thn_ok, isi_of e1, tru_bl, sub_row, eq_str, decide_true, ↓reduceIte, to_ok, nx_ret]
      rw [eb]
    · have ne : r0.nm ≠ r.nm := fun z => nd.1 (by rw [z]; exact List.mem_map_of_mem m)
      have eb : evSs cf bAsk [some sch, some (.str r.nm), some r0.pv] h = .next [some sch, some (.str r.nm), some r0.pv] h := by
        simp only [bAsk, s_cons, s_nil, s_if, s_ret, t_and, t_ands, t_and1, t_val, t_cmp, a_isi, a_sub, a_var, a_cst, Cst.pv, lk_0, lk_s, thn_ok, isi_of e1, tru_bl, sub_row, eq_str, decide_eq_false ne, Bool.false_eq_true, ↓reduceIte, to_ok, nx_next]
      rw [eb]
      exact ask_hit rows r m nd.2 _
theorem seq_tup (xs : List PV) (h : PH) : seqS (.tup xs) h = .ok (.fx xs) h := rfl
theorem sch0 (rows : List Knd) (bs) (h : PH) : subS (schP rows bs) (.int 0) h = .ok (.tup (rows.map Knd.pv)) h := rfl
theorem sch1 (rows : List Knd) (bs) (h : PH) : subS (schP rows bs) (.int 1) h = .ok (.tup (bs.map bP)) h := rfl
theorem for_fx (bind : PV → Lo → Option Lo) (b : Lo → PH → RS) (xs : List PV) (L : Lo) (h : PH) : forSr bind b (.fx xs) L h = forL bind b xs L h := rfl
theorem f1_body : f1.body = [.forS (.nm 2) (.seq (.sub (.var 0) (.cst (.int 0)))) bAsk, .raise "BadKind" (.cons (.cst (.str "no such kind")) .nil)] := rfl
theorem kind_ok {n : Nat} {rows : List Knd} {bs : List (Str × Str × Str)} {r : Knd} {h : PH} (m : r ∈ rows) (nd : (rows.map Knd.nm).Nodup) : callN GD.defs (n + 1) 1 [schP rows bs, .str r.nm] h = .ok r.pv h := by
  rw [call_eq (d := f1) rfl rfl, f1_body]
  show (evSs _ _ [some (schP rows bs), some (.str r.nm), none] h).fin = _
  simp only [s_cons, s_for, i_seq, a_sub, a_var, a_cst, Cst.pv, lk_0, lk_s, thn_ok, sch0, seq_tup, to_ok, for_fx, ask_hit rows r m nd, nx_ret, fin_ret]
theorem kind_bad {n : Nat} {rows : List Knd} {bs : List (Str × Str × Str)} {x : PV} {h : PH} (od : Odd rows h x) : callN GD.defs (n + 1) 1 [schP rows bs, x] h = .exc ⟨"BadKind", []⟩ h := by
  rw [call_eq (d := f1) rfl rfl, f1_body]
  show (evSs _ _ [some (schP rows bs), some x, none] h).fin = _
  obtain ⟨o', g⟩ := ask_miss (cf := cfN GD.defs n) (sch := schP rows bs) rows od none
  simp only [s_cons, s_for, i_seq, a_sub, a_var, a_cst, Cst.pv, lk_0, lk_s, thn_ok, sch0, seq_tup, to_ok, for_fx, g, nx_next, s_raise, a_cons, a_nil]
  rw [if_pos (Nat.le_of_ble_eq_true rfl)]
  rfl
/-! ### ties -/
theorem lk_set {L : Lo} {v : Nat} {x : PV} {h : PH} (l : v < L.length) : lkS (L.set v (some x)) v h = .ok x h := by
  unfold lkS
  rw [List.getElem?_set_self l]
theorem lk_ne {L : Lo} {v w : Nat} {o : Option PV} {h : PH} (n : v ≠ w) : lkS (L.set v o) w h = lkS L w h := by
  unfold lkS
  rw [List.getElem?_set_ne n]
def pB (g : Str × Str × Str → Str) (s : Str) : PV → Bool
  | .tup [.str a, .str b, .str c] => decide (g (a, b, c) = s)
  | _ => false
theorem pB_at (g : Str × Str × Str → Str) (s : Str) (b : Str × Str × Str) : pB g s (bP b) = decide (g b = s) := rfl
theorem tie_comp {cf : CF} {L : Lo} {v w : Nat} {j : Int} {s : Str} {h : PH} {g : Str × Str × Str → Str} (hv : v < L.length) (hw : v ≠ w) (lw : lkS L w h = .ok (.str s) h) (ej : ∀ b, subS (bP b) (.int j) h = .ok (.str (g b)) h) (bs : List (Str × Str × Str)) :
    compS (compStep (.nm v) [v] L (evIfs cf (.cons (.cmp .Eq (.sub (.var v) (.cst (.int j))) (.var w)) .nil)) (evE cf (.var v))) (.fx (bs.map bP)) h = .ok ((bs.filter fun b => decide (g b = s)).map bP) h := by
  show compL _ (bs.map bP) h = _
  rw [compL_if (p := pB g s), filter_map (q := fun b => decide (g b = s)) (pB_at g s)]
  intro x hx
  obtain ⟨b, _, rfl⟩ := List.mem_map.mp hx
  rw [step_at (L' := (L.set v none).set v (some (bP b))) rfl]
  have hv2 : v < (L.set v none).length := by rw [List.length_set]; exact hv
  simp only [i_one, t_cmp, a_sub, a_var, a_cst, Cst.pv, lk_set hv2, lk_ne hw, lw, thn_ok, ej, eq_str, pB_at]
  by_cases c : g b = s
  · simp only [c, decide_true, ↓reduceIte]
  · simp only [c, decide_false, Bool.false_eq_true, ↓reduceIte]
theorem b1 (h : PH) (b : Str × Str × Str) : subS (bP b) (.int 1) h = .ok (.str b.2.1) h := rfl
theorem b2 (h : PH) (b : Str × Str × Str) : subS (bP b) (.int 2) h = .ok (.str b.2.2) h := rfl
def tiesP (g : Str × Str × Str → Str) (s : Str) (bs : List (Str × Str × Str)) : PV := .tup ((bs.filter fun b => decide (g b = s)).map bP)
theorem tup_lst (fz : Bool) (xs : List PV) (h : PH) : primS fz .tuple [.lst xs] h = .ok (.tup xs) h := rfl
theorem few_ties {g : Str × Str × Str → Str} {s : Str} {bs : List (Str × Str × Str)} (b4 : bs.length ≤ 4) : ((bs.filter fun b => decide (g b = s)).map bP).length ≤ sizeLine := by
  rw [List.length_map]
  exact le_line (Nat.le_trans (List.length_filter_le _ _) (by omega))
theorem from_ok {n : Nat} {rows : List Knd} {bs : List (Str × Str × Str)} {r : Knd} {h : PH} (m : r ∈ rows) (nd : (rows.map Knd.nm).Nodup) (b4 : bs.length ≤ 4) : callN GD.defs (n + 2) 2 [schP rows bs, .str r.nm] h = .ok (tiesP (fun b => b.2.1) r.nm bs) h := by
  rw [call_eq (d := f2) rfl rfl]
  show (evSs _ _ [some (schP rows bs), some (.str r.nm), none, none] h).fin = _
  have e1 : (cfN GD.defs (n + 1)).call 1 [schP rows bs, .str r.nm] h = .ok r.pv h := kind_ok m nd
  have tc := tie_comp (cf := cfN GD.defs (n + 1)) (L := [some (schP rows bs), some (.str r.nm), some (.str r.nm), none]) (v := 3) (w := 2) (Nat.lt_succ_self 3) (by decide) rfl (b1 h) bs
  simp only [f2, s_cons, s_asg, s_ret, a_sub, a_call, a_cons, a_nil, a_var, a_cst, Cst.pv, lk_0, lk_s, thn_ok, e1, sub_row, to_ok, nextO, Tg.bind, List.set_cons_succ, List.set_cons_zero, nx_next, a_pr, a_comp, i_seq, sch1, seq_tup, noX_ok tc, fresh_t (few_ties b4), tup_lst, nx_ret, fin_ret]
  rfl
theorem to_ok' {n : Nat} {rows : List Knd} {bs : List (Str × Str × Str)} {r : Knd} {h : PH} (m : r ∈ rows) (nd : (rows.map Knd.nm).Nodup) (b4 : bs.length ≤ 4) : callN GD.defs (n + 2) 3 [schP rows bs, .str r.nm] h = .ok (tiesP (fun b => b.2.2) r.nm bs) h := by
  rw [call_eq (d := f3) rfl rfl]
  show (evSs _ _ [some (schP rows bs), some (.str r.nm), none, none] h).fin = _
  have e1 : (cfN GD.defs (n + 1)).call 1 [schP rows bs, .str r.nm] h = .ok r.pv h := kind_ok m nd
  have tc := tie_comp (cf := cfN GD.defs (n + 1)) (L := [some (schP rows bs), some (.str r.nm), some (.str r.nm), none]) (v := 3) (w := 2) (Nat.lt_succ_self 3) (by decide) rfl (b2 h) bs
  simp only [f3, s_cons, s_asg, s_ret, a_sub, a_call, a_cons, a_nil, a_var, a_cst, Cst.pv, lk_0, lk_s, thn_ok, e1, sub_row, to_ok, nextO, Tg.bind, List.set_cons_succ, List.set_cons_zero, nx_next, a_pr, a_comp, i_seq, sch1, seq_tup, noX_ok tc, fresh_t (few_ties b4), tup_lst, nx_ret, fin_ret]
  rfl
theorem from_bad {n : Nat} {rows : List Knd} {bs : List (Str × Str × Str)} {x : PV} {h : PH} (od : Odd rows h x) : callN GD.defs (n + 2) 2 [schP rows bs, x] h = .exc ⟨"BadKind", []⟩ h := by
  rw [call_eq (d := f2) rfl rfl]
  show (evSs _ _ [some (schP rows bs), some x, none, none] h).fin = _
  have e1 : (cfN GD.defs (n + 1)).call 1 [schP rows bs, x] h = .exc ⟨"BadKind", []⟩ h := kind_bad od
  simp only [f2, s_cons, s_asg, a_sub, a_call, a_cons, a_nil, a_var, lk_0, lk_s, thn_ok, e1, thn_exc, to_exc, nx_exc, fin_exc]
theorem to_bad {n : Nat} {rows : List Knd} {bs : List (Str × Str × Str)} {x : PV} {h : PH} (od : Odd rows h x) : callN GD.defs (n + 2) 3 [schP rows bs, x] h = .exc ⟨"BadKind", []⟩ h := by
  rw [call_eq (d := f3) rfl rfl]
  show (evSs _ _ [some (schP rows bs), some x, none, none] h).fin = _
  have e1 : (cfN GD.defs (n + 1)).call 1 [schP rows bs, x] h = .exc ⟨"BadKind", []⟩ h := kind_bad od
  simp only [f3, s_cons, s_asg, a_sub, a_call, a_cons, a_nil, a_var, lk_0, lk_s, thn_ok, e1, thn_exc, to_exc, nx_exc, fin_exc]
theorem above_bad {n : Nat} {rows : List Knd} {bs : List (Str × Str × Str)} {x : PV} {h : PH} (od : Odd rows h x) : callN GD.defs (n + 2) 4 [schP rows bs, x] h = .exc ⟨"BadKind", []⟩ h := by
  rw [call_eq (d := f4) rfl rfl]
  show (evSs _ _ [some (schP rows bs), some x, none, none] h).fin = _
  have e1 : (cfN GD.defs (n + 1)).call 1 [schP rows bs, x] h = .exc ⟨"BadKind", []⟩ h := kind_bad od
  simp only [f4, s_cons, s_asg, a_sub, a_call, a_cons, a_nil, a_var, lk_0, lk_s, thn_ok, e1, thn_exc, to_exc, nx_exc, fin_exc]
/-! ### above -/
theorem kv_loop {cf : CF} {L : Lo} {h : PH} (hL : 3 < L.length) : ∀ (rows acc : List Knd), ((acc ++ rows).map Knd.nm).Nodup → (acc ++ rows).length ≤ 100 →
    kvL (kvStep (.nm 3) [3] L (evIfs cf .nil) (evE cf (.sub (.var 3) (.cst (.int 0)))) (evE cf (.sub (.var 3) (.cst (.int 1))))) h.length (rows.map Knd.pv) (h ++ [.dct false (kvs acc)]) = .ok () (h ++ [.dct false (kvs (acc ++ rows))])
  | [], acc, _, _ => by rw [List.append_nil]; rfl
  | r :: rows, acc, nd, hn => by
    have e0 : acc ++ r :: rows = (acc ++ [r]) ++ rows := by simp
    have nn : r.nm ∉ acc.map Knd.nm := by
      rw [List.map_append, List.map_cons] at nd
      have := (List.nodup_append.mp nd).2.2
      exact fun m => this _ m _ (List.mem_cons_self ..) rfl
    have st : kvStep (.nm 3) [3] L (evIfs cf .nil) (evE cf (.sub (.var 3) (.cst (.int 0)))) (evE cf (.sub (.var 3) (.cst (.int 1)))) r.pv (h ++ [.dct false (kvs acc)]) = .ok (some (.str r.nm, oP r.par)) (h ++ [.dct false (kvs acc)]) := by
      show (evIfs cf .nil ((L.set 3 none).set 3 (some r.pv)) >>= fun b => if b then (evE cf (.sub (.var 3) (.cst (.int 0))) ((L.set 3 none).set 3 (some r.pv)) >>= fun y => evE cf (.sub (.var 3) (.cst (.int 1))) ((L.set 3 none).set 3 (some r.pv)) >>= fun z => pure (some (y, z)) : M (Option (PV × PV))) else pure none) (h ++ [.dct false (kvs acc)]) = _
      have hv2 : 3 < (L.set 3 none).length := by rw [List.length_set]; exact hL
      simp only [bind_at, i_nil, thn_ok, ↓reduceIte, a_sub, a_var, a_cst, Cst.pv, lk_set hv2, sub_row]
      rfl
    have g := kv_loop (cf := cf) (h := h) hL rows (acc ++ [r]) (by rw [← e0]; exact nd) (by rw [← e0]; exact hn)
    rw [← e0] at g
    rw [← g]
    show (match kvStep _ _ _ _ _ _ r.pv (h ++ [.dct false (kvs acc)]) with
      | .ok none h' => kvL _ h.length (rows.map Knd.pv) h'
      | .ok (some (k, v)) h' => (match asKey k, h'[h.length]? with
        | some k, some (.dct false acc) => if acc.length < sizeLine then kvL _ h.length (rows.map Knd.pv) (h'.set h.length (.dct false (insK acc k v))) else .stuck
        | _, _ => .stuck)
      | _ => .stuck) = _
    rw [st]
    dsimp only
    rw [show asKey (.str r.nm) = some (.inr r.nm) from rfl, st_new]
    dsimp only
    rw [if_pos (lt_line (by unfold kvs; rw [List.length_map]; rw [List.length_append] at hn; omega)), kvs_new nn, List.set_append_right _ _ (Nat.le_refl _), Nat.sub_self, kvs_app]
    rfl
theorem rev_ref {h : PH} {a : Nat} {xs : List PV} (e : h[a]? = some (.lst xs)) (l : xs.length ≤ sizeLine) : revS true (.ref a) h = .ok (.lst xs.reverse) h := by
  unfold revS
  rw [v_ref e]
  exact fresh_t (by rw [List.length_reverse]; exact l)
def upP (l : List Str) : PV := .tup (l.map .str).reverse
theorem above_ok {n : Nat} {rows : List Knd} {bs : List (Str × Str × Str)} {r : Knd} {l : List Str} {h : PH} (m : r ∈ rows) (nd : (rows.map Knd.nm).Nodup) (n8 : rows.length ≤ 8) (ll : l.length ≤ 8) (u : Up (kvs rows) (.str r.nm) l) :
    ∃ t, callN GD.defs (n + 2) 4 [schP rows bs, .str r.nm] h = .ok (upP l) (h ++ t) := by
  rw [call_eq (d := f4) rfl rfl]
  refine ⟨[.dct false (kvs rows)] ++ [.lst (l.map .str)], ?_⟩
  show (evSs _ _ [some (schP rows bs), some (.str r.nm), none, none] h).fin = _
  have e1 : (cfN GD.defs (n + 1)).call 1 [schP rows bs, .str r.nm] h = .ok r.pv h := kind_ok m nd
  have kl := kv_loop (cf := cfN GD.defs (n + 1)) (L := [some (schP rows bs), some (.str r.nm), some (.str r.nm), none]) (h := h) (Nat.lt_succ_self 3) rows [] nd (by rw [List.nil_append]; omega)
  have ks : kvS (kvStep (.nm 3) [3] [some (schP rows bs), some (.str r.nm), some (.str r.nm), none] (evIfs (cfN GD.defs (n + 1)) .nil) (evE (cfN GD.defs (n + 1)) (.sub (.var 3) (.cst (.int 0)))) (evE (cfN GD.defs (n + 1)) (.sub (.var 3) (.cst (.int 1))))) (.fx (rows.map Knd.pv)) h = .ok (.ref h.length) (h ++ [.dct false (kvs rows)]) := by
    show (match kvL _ h.length (rows.map Knd.pv) (h ++ [.dct false []]) with
      | .ok _ h' => R.ok (PV.ref h.length) h'
      | _ => .stuck) = _
    rw [show kvL _ h.length (rows.map Knd.pv) (h ++ [.dct false []]) = _ from kl]
    rfl
  have e2 := up_ok (G := GD.defs) (f := 0) (n := n) (d := f0) (h := h ++ [.dct false (kvs rows)]) (b := h.length) rfl rfl rfl rfl st_new u (by omega)
  have e2 : (cfN GD.defs (n + 1)).call 0 [.ref h.length, .str r.nm] (h ++ [.dct false (kvs rows)]) = .ok (.ref (h ++ [PO.dct false (kvs rows)]).length) (h ++ [.dct false (kvs rows)] ++ [.lst (l.map .str)]) := e2
  simp only [f4, s_cons, s_asg, s_ret, a_sub, a_call, a_cons, a_nil, a_var, a_cst, Cst.pv, lk_0, lk_s, thn_ok, e1, sub_row, to_ok, nextO, Tg.bind, List.set_cons_succ, List.set_cons_zero, nx_next, a_pr, a_rev, a_dcomp, i_seq, sch0, seq_tup, ks, e2, rev_ref st_new (show (l.map PV.str).length ≤ sizeLine by rw [List.length_map]; exact le_line (by omega)), tup_lst, nx_ret, fin_ret]
  rw [List.append_assoc]
  rfl
end K03

set_option Elab.async false
set_option linter.all false
set_option maxRecDepth 100000
set_option maxHeartbeats 1000000
namespace K03
open PySem PySem.Spec L2 Rk
def bPar : List CS := [.setI (.var 5) (.sub (.var 2) (.cst (.int 0))) (.sub (.var 2) (.cst (.int 1)))]
theorem sub_row1 (r : Knd) (h : PH) : subS r.pv (.int 1) h = .ok (oP r.par) h := rfl
theorem par_loop {cf : CF} {h : PH} {o0 o1 o3 o4 o6 : Option PV} : ∀ (rows acc : List Knd) (o2 : Option PV), ((acc ++ rows).map Knd.nm).Nodup → (acc ++ rows).length ≤ 100 →
    ∃ o2', forL (Tg.bind (.nm 2)) (evSs cf bPar) (rows.map Knd.pv) [o0, o1, o2, o3, o4, some (.ref h.length), o6] (h ++ [.dct false (kvs acc)]) = .next [o0, o1, o2', o3, o4, some (.ref h.length), o6] (h ++ [.dct false (kvs (acc ++ rows))])
  | [], acc, o2, _, _ => by rw [List.append_nil]; exact ⟨o2, rfl⟩
  | r :: rows, acc, o2, nd, hn => by
    have e0 : acc ++ r :: rows = (acc ++ [r]) ++ rows := by simp
    have nn : r.nm ∉ acc.map Knd.nm := by
      rw [List.map_append, List.map_cons] at nd
      have := (List.nodup_append.mp nd).2.2
      exact fun m => this _ m _ (List.mem_cons_self ..) rfl
    obtain ⟨o2', g⟩ := par_loop (cf := cf) (h := h) (o0 := o0) (o1 := o1) (o3 := o3) (o4 := o4) (o6 := o6) rows (acc ++ [r]) (some r.pv) (by rw [← e0]; exact nd) (by rw [← e0]; exact hn)
    refine ⟨o2', ?_⟩
    rw [← e0] at g
    have ed := set_dct (h := h ++ [.dct false (kvs acc)]) (s := r.nm) (v := oP r.par) st_new (lt_line (by unfold kvs; rw [List.length_map]; rw [List.length_append] at hn; omega))
    rw [kvs_new nn, List.set_append_right _ _ (Nat.le_refl _), Nat.sub_self] at ed
    have eb : evSs cf bPar [o0, o1, some r.pv, o3, o4, some (.ref h.length), o6] (h ++ [.dct false (kvs acc)]) = .next [o0, o1, some r.pv, o3, o4, some (.ref h.length), o6] (h ++ [.dct false (kvs (acc ++ [r]))]) := by
      simp only [bPar, s_cons, s_nil, s_setI, a_sub, a_var, a_cst, Cst.pv, lk_0, lk_s, thn_ok, to_ok, sub_row, sub_row1, ed, nx_next]
      rw [kvs_app]
      rfl
    show (match evSs cf bPar [o0, o1, some r.pv, o3, o4, some (.ref h.length), o6] (h ++ [.dct false (kvs acc)]) with
      | .next L' h' => forL (Tg.bind (.nm 2)) (evSs cf bPar) (rows.map Knd.pv) L' h'
      | .cont L' h' => forL (Tg.bind (.nm 2)) (evSs cf bPar) (rows.map Knd.pv) L' h'
      | .brk L' h' => .next L' h'
      | r => r) = _
    rw [eb]
    exact g
theorem pd_ties {g : Str × Str × Str → Str} {s : Str} {bs : List (Str × Str × Str)} (b4 : bs.length ≤ 4) (h : ∀ b ∈ bs, b.1 ∈ WS ∧ (b.2.1 ∈ WS ∧ b.2.2 ∈ WS)) : Pd (tiesP g s bs) 2 1300 :=
  Pd.bs (Nat.le_trans (List.length_filter_le _ _) b4) fun b m => h b (List.mem_filter.mp m).1
theorem pd_up {l : List Str} (ll : l.length ≤ 8) (h : ∀ s ∈ l, s ∈ WS) : Pd (upP l) 1 700 :=
  (Pd.tup (n := 0) (w := 82) fun x hx => by
    rw [List.mem_reverse] at hx
    obtain ⟨s, hs, rfl⟩ := List.mem_map.mp hx
    exact Pd.ws (h s hs)).mono (Nat.le_refl _) (by rw [List.length_reverse, List.length_map]; omega)
theorem kw_01 (k : List PV → M PV) (x y : PV) (h : PH) : kwS 1 1 [0, 1] k [x] [y] h = k [x, y] h := rfl
theorem kw_10 (k : List PV → M PV) (x y : PV) (h : PH) : kwS 0 2 [1, 0] k [] [x, y] h = k [y, x] h := rfl
theorem kw_10' (k : List PV → M PV) (x y : PV) (h : PH) : kwS 0 (1 + 1) [1, 0] k [] [x, y] h = k [y, x] h := rfl
theorem eq_c (x y : PV) (h : PH) : cmpS .Eq x y h = eqS x y h := rfl
def r1 : CS := .par [3, 4, 5] (.cons (.sub (.var 1) (.cst (.int 0))) (.cons (.sub (.var 0) (.cst (.int 1))) (.cons (.dct .nil) .nil)))
def r2 : CS := .forS (.nm 2) (.seq (.sub (.var 0) (.cst (.int 0)))) bPar
def r3 : CS := f11.body.getD 2 .pass
def r4 : CS := f11.body.getD 3 .pass
def r5 : CS := f11.body.getD 4 .pass
def r6 : CS := f11.body.getD 5 .pass
theorem f11_body : f11.body = [r1, r2, r3, r4, r5, r6] := rfl
theorem right_ok {n : Nat} {rows : List Knd} {bs : List (Str × Str × Str)} {r : Knd} {h : PH} (ok : SchOk rows bs) (m : r ∈ rows) : ∃ t, callN GD.defs (n + 3) 11 [schP rows bs, r.pv] h = .ok (.bl true) (h ++ t) := by
  obtain ⟨l, l1, l2, l3, u⟩ := ok.ch r m
  have ll : l.length ≤ 8 := Nat.le_trans l2 ok.n8
  have lw : ∀ s ∈ l, s ∈ WS := fun s hs => by
    obtain ⟨r', m', e⟩ := List.mem_map.mp (l3 s hs)
    rw [← e]
    exact (ok.ok r' m').nm
  rw [call_eq (d := f11) rfl rfl, f11_body]
  show ∃ t, (evSs (cfN GD.defs (n + 2)) _ [some (schP rows bs), some r.pv, none, none, none, none, none] h).fin = _
  have ko : ∀ h, (cfN GD.defs (n + 2)).call 1 [schP rows bs, .str r.nm] h = .ok r.pv h := fun h => kind_ok m ok.nd
  have de : ∀ L, evE (cfN GD.defs (n + 2)) (.dct .nil) L h = .ok (.ref h.length) (h ++ [.dct false (kvs [])]) := fun L => dct_at (cf := cfN GD.defs (n + 2)) (es := .nil) (L := L) (h := h) rfl rfl
  have q1 : evS (cfN GD.defs (n + 2)) r1 [some (schP rows bs), some r.pv, none, none, none, none, none] h = .next [some (schP rows bs), some r.pv, none, some (.str r.nm), some (.tup (bs.map bP)), some (.ref h.length), none] (h ++ [.dct false (kvs [])]) := by
    simp only [r1, s_par, a_cons, a_nil, a_sub, a_var, a_cst, Cst.pv, lk_0, lk_s, thn_ok, sub_row, sch1, de, to_ok]
    rfl
  obtain ⟨o2, pl⟩ := par_loop (cf := cfN GD.defs (n + 2)) (h := h) (o0 := some (schP rows bs)) (o1 := some r.pv) (o3 := some (.str r.nm)) (o4 := some (.tup (bs.map bP))) (o6 := none) rows [] none ok.nd (by have := ok.n8; rw [List.nil_append]; omega)
  have q2 : evS (cfN GD.defs (n + 2)) r2 [some (schP rows bs), some r.pv, none, some (.str r.nm), some (.tup (bs.map bP)), some (.ref h.length), none] (h ++ [.dct false (kvs [])]) = .next [some (schP rows bs), some r.pv, o2, some (.str r.nm), some (.tup (bs.map bP)), some (.ref h.length), none] (h ++ [.dct false (kvs rows)]) := by
    simp only [r2, s_for, i_seq, a_sub, a_var, a_cst, Cst.pv, lk_0, lk_s, thn_ok, sch0, seq_tup, to_ok, for_fx, pl]
    rfl
  obtain ⟨t1, e1⟩ := above_ok (n := n) (bs := bs) (h := h ++ [.dct false (kvs rows)]) m ok.nd ok.n8 ll u
  have e1 : (cfN GD.defs (n + 2)).call 4 [schP rows bs, .str r.nm] (h ++ [.dct false (kvs rows)]) = .ok (upP l) (h ++ [.dct false (kvs rows)] ++ t1) := e1
  have e2 := up_ok (G := GD.defs) (f := 8) (n := n + 1) (d := f8) (h := h ++ [.dct false (kvs rows)] ++ t1) (b := h.length) rfl rfl rfl rfl (st_app st_new) u (by omega)
  have e2 : (cfN GD.defs (n + 2)).call 8 [.ref h.length, .str r.nm] (h ++ [.dct false (kvs rows)] ++ t1) = .ok (.ref (h ++ [PO.dct false (kvs rows)] ++ t1).length) (h ++ [.dct false (kvs rows)] ++ t1 ++ [.lst (l.map .str)]) := e2
  have e3 := rev_ref (h := h ++ [.dct false (kvs rows)] ++ t1 ++ [.lst (l.map .str)]) st_new (show (l.map PV.str).length ≤ sizeLine by rw [List.length_map]; exact le_line (by omega))
  have fr : ∀ h, (cfN GD.defs (n + 2)).call 2 [schP rows bs, .str r.nm] h = .ok (tiesP (fun b => b.2.1) r.nm bs) h := fun h => from_ok m ok.nd ok.b4
  have to : ∀ h, (cfN GD.defs (n + 2)).call 3 [schP rows bs, .str r.nm] h = .ok (tiesP (fun b => b.2.2) r.nm bs) h := fun h => to_ok' m ok.nd ok.b4
  have pk := Pd.knd (ok.ok r m)
  have pu := pd_up ll lw
  have hu : PV.tup (l.map PV.str).reverse = upP l := rfl
  have q3 : evS (cfN GD.defs (n + 2)) r3 [some (schP rows bs), some r.pv, o2, some (.str r.nm), some (.tup (bs.map bP)), some (.ref h.length), none] (h ++ [.dct false (kvs rows)]) =
      .next [some (schP rows bs), some r.pv, o2, some (.str r.nm), some (.tup (bs.map bP)), some (.ref h.length), none] (h ++ [.dct false (kvs rows)] ++ t1 ++ [.lst (l.map .str)]) := by
    simp only [r3, f11, List.getD_cons_succ, List.getD_cons_zero, s_if, t_or, t_ors, t_or1, t_cmp, a_call, a_cons, a_nil, a_var, lk_0, lk_s, thn_ok, ko, pk.ne (by decide), Bool.false_eq_true, ↓reduceIte, e1, a_pr, a_rev, e2, e3, tup_lst, hu, pu.ne (by decide), to_ok, s_nil]
  rw [s_cons, q1, nx_next, s_cons, q2, nx_next, s_cons, q3, nx_next]
  suffices g : ∃ t, (evSs (cfN GD.defs (n + 2)) [r4, r5, r6] [some (schP rows bs), some r.pv, o2, some (.str r.nm), some (.tup (bs.map bP)), some (.ref h.length), none] (h ++ [.dct false (kvs rows)] ++ t1 ++ [.lst (l.map .str)])).fin = .ok (.bl true) (h ++ [.dct false (kvs rows)] ++ t1 ++ [.lst (l.map .str)] ++ t) by
    obtain ⟨t, e⟩ := g
    exact ⟨[.dct false (kvs rows)] ++ t1 ++ [.lst (l.map .str)] ++ t, by rw [e]; simp⟩
  clear q1 q2 q3 e1 e2 e3
  generalize h ++ [.dct false (kvs rows)] ++ t1 ++ [.lst (l.map .str)] = h2
  generalize h.length = a5
  have pf := pd_ties (g := fun b => b.2.1) (s := r.nm) ok.b4 ok.bok
  have pt := pd_ties (g := fun b => b.2.2) (s := r.nm) ok.b4 ok.bok
  have f1 := few_ties (g := fun b => b.2.1) (s := r.nm) ok.b4
  have f2 := few_ties (g := fun b => b.2.2) (s := r.nm) ok.b4
  have tc1 := tie_comp (cf := cfN GD.defs (n + 2)) (L := [some (schP rows bs), some r.pv, o2, some (.str r.nm), some (.tup (bs.map bP)), some (.ref a5), none]) (h := h2) (v := 6) (w := 3) (Nat.lt_succ_self 6) (by decide) rfl (b1 h2) bs
  have tc2 := tie_comp (cf := cfN GD.defs (n + 2)) (L := [some (schP rows bs), some r.pv, o2, some (.str r.nm), some (.tup (bs.map bP)), some (.ref a5), none]) (h := h2) (v := 6) (w := 3) (Nat.lt_succ_self 6) (by decide) rfl (b2 h2) bs
  have q4 : evS (cfN GD.defs (n + 2)) r4 [some (schP rows bs), some r.pv, o2, some (.str r.nm), some (.tup (bs.map bP)), some (.ref a5), none] h2 = .next [some (schP rows bs), some r.pv, o2, some (.str r.nm), some (.tup (bs.map bP)), some (.ref a5), none] h2 := by
    simp only [r4, f11, List.getD_cons_succ, List.getD_cons_zero, s_if, t_cmp, a_call, a_cons, a_nil, a_var, lk_0, lk_s, thn_ok, fr, a_pr, a_comp, i_seq, seq_tup, noX_ok tc1, fresh_t f1, tup_lst]
    rw [show PV.tup ((bs.filter fun b => decide (b.2.1 = r.nm)).map bP) = tiesP (fun b => b.2.1) r.nm bs from rfl, pf.ne (by decide), to_ok]
    rfl
  have q5 : evS (cfN GD.defs (n + 2)) r5 [some (schP rows bs), some r.pv, o2, some (.str r.nm), some (.tup (bs.map bP)), some (.ref a5), none] h2 = .next [some (schP rows bs), some r.pv, o2, some (.str r.nm), some (.tup (bs.map bP)), some (.ref a5), none] h2 := by
    simp only [r5, f11, List.getD_cons_succ, List.getD_cons_zero, s_if, t_cmp, a_callK, a_cons, a_nil, a_var, lk_0, lk_s, thn_ok, List.length_cons, List.length_nil, Nat.zero_add, kw_01, to, a_pr, a_comp, i_seq, seq_tup, noX_ok tc2, fresh_t f2, tup_lst]
    rw [show PV.tup ((bs.filter fun b => decide (b.2.2 = r.nm)).map bP) = tiesP (fun b => b.2.2) r.nm bs from rfl, pt.ne (by decide), to_ok]
    rfl
  obtain ⟨t2, a2⟩ := above_ok (n := n) (bs := bs) (h := h2) m ok.nd ok.n8 ll u
  obtain ⟨t3, a3⟩ := above_ok (n := n) (bs := bs) (h := h2 ++ t2) m ok.nd ok.n8 ll u
  have a2 : (cfN GD.defs (n + 2)).call 4 [schP rows bs, .str r.nm] h2 = .ok (upP l) (h2 ++ t2) := a2
  have a3 : (cfN GD.defs (n + 2)).call 4 [schP rows bs, .str r.nm] (h2 ++ t2) = .ok (upP l) (h2 ++ t2 ++ t3) := a3
  have pl2 : Pd (.lst [r.pv, upP l]) 4 9000 := (Pd.lst (n := 3) (w := 4000) fun x hx => by
    simp only [List.mem_cons, List.not_mem_nil, or_false] at hx
    rcases hx with rfl | rfl
    · exact pk
    · exact pu.mono (by decide) (by decide)).mono (Nat.le_refl _) (by simp)
  have fr2 : ∀ h, fresh true [r.pv, upP l] h = .ok (.lst [r.pv, upP l]) h := fun h => fresh_t (Nat.le_of_ble_eq_true rfl)
  refine ⟨t2 ++ t3, ?_⟩
  rw [s_cons, q4, nx_next, s_cons, q5, nx_next]
  simp only [r6, f11, List.getD_cons_succ, List.getD_cons_zero, s_cons, s_ret, a_cmp, a_lst, a_cons, a_nil, a_callK, a_call, a_var, lk_0, lk_s, thn_ok, List.length_cons, List.length_nil, Nat.zero_add, kw_10', ko, a2, fr2, a3, eq_c, pl2.eq (show 4 ≤ 60 by decide), to_ok, nx_ret, fin_ret]
  rw [List.append_assoc]
end K03

set_option Elab.async false
set_option linter.all false
set_option maxRecDepth 100000
set_option maxHeartbeats 1000000
namespace K03
open PySem PySem.Spec L2 Rk
theorem act_at {cf : CF} {k : Nat × Nat × Str} {th : M PV} {L : Lo} {h : PH} : evE { cf with act := actOf k th } (.act 0) (some (.clo k.1 [.int k.2.1, .str k.2.2]) :: L) h = th h := by
  rw [a_act (v := .clo k.1 [.int k.2.1, .str k.2.2]) _ _ _ rfl]
  show actOf k th k.1 k.2.1 k.2.2 h = _
  rw [actOf_at]
def PB : PV := .exc "BadKind" []
theorem tl_1 : tabL [(("BadKind" : Str), true)] "BadKind" = some true := by decide +kernel
theorem tl_0 : tabL [(("BadKind" : Str), false)] "BadKind" = some false := by decide +kernel
theorem isx_1 (h : PH) : isxS [(("BadKind" : Str), true)] PB h = .ok (.bl true) h := by
  show R.opt h ((tabL [(("BadKind" : Str), true)] "BadKind").map PV.bl) = _
  rw [tl_1]
  rfl
theorem isx_0 (h : PH) : isxS [(("BadKind" : Str), false)] PB h = .ok (.bl false) h := by
  show R.opt h ((tabL [(("BadKind" : Str), false)] "BadKind").map PV.bl) = _
  rw [tl_0]
  rfl
def bTry : List CS := [.asg (.nm 2) (.act 0)]
def tTail : List CS := f10.body.drop 3
theorem f10_body : f10.body = .asg (.nm 1) (.cst .non) :: .asg (.nm 2) (.cst .non) :: .tryX bTry ["BaseError", "AwayError"] [("BadKind", true)] 3 1 :: tTail := rfl
theorem tail_ok {cf : CF} {c : PV} {h : PH} : (evSs cf tTail [some c, some PB, some .non, none, none] h).fin = .ok (.str "kind") h := by
  have e1 : isNon PB = false := rfl
  simp only [tTail, f10, List.drop_succ_cons, List.drop_zero, s_cons, s_if, t_cmp, a_var, a_cst, Cst.pv, lk_0, lk_s, thn_ok, isI, e1, to_ok, Bool.false_eq_true, ↓reduceIte, s_nil, nx_next, s_asg, a_band, a_and, a_and1, a_isx, isx_1, tru_bl, nextO, Tg.bind, List.set_cons_succ, List.set_cons_zero, s_ret, a_ife, t_and, t_ands, t_and1, t_val, t_not, isx_0, Bool.not_false, nx_ret, fin_ret]
theorem told_bad {n : Nat} {th : M PV} {h h' : PH} (e : th h = .exc ⟨"BadKind", []⟩ h') : (cfN GD.defs (n + 1)).lam 10 th h = .ok (.str "kind") h' := by
  refine lam_eq (d := f10) rfl rfl fun k => ?_
  rw [f10_body]
  show (evSs _ _ [some (.clo k.1 [.int k.2.1, .str k.2.2]), none, none, none, none] h).fin = _
  have e1 : evSs { cfN GD.defs n with act := actOf k th } bTry [some (.clo k.1 [.int k.2.1, .str k.2.2]), some .non, some .non, none, none] h = .exc ⟨"BadKind", []⟩ [some (.clo k.1 [.int k.2.1, .str k.2.2]), some .non, some .non, none, none] h' := by
    rw [bTry, s_cons, s_asg, act_at, e]
    rfl
  have e2 : RS.tryXS [(("BadKind" : Str), true)] 3 1 (.exc ⟨"BadKind", []⟩ [some (.clo k.1 [.int k.2.1, .str k.2.2]), some .non, some .non, none, none] h') = .next [some (.clo k.1 [.int k.2.1, .str k.2.2]), some PB, some .non, none, none] h' := by
    unfold RS.tryXS
    dsimp only
    rw [tl_1]
    rfl
  rw [s_cons, s_asg, a_cst, to_ok]
  simp only [nextO, Tg.bind, List.set_cons_succ, List.set_cons_zero, nx_next, Cst.pv]
  rw [s_cons, s_asg, a_cst, to_ok]
  simp only [nextO, Tg.bind, List.set_cons_succ, List.set_cons_zero, nx_next, Cst.pv]
  rw [s_cons, s_tryX, e1, e2, nx_next]
  exact tail_ok
/-! ### a thing that is none, asked -/
def bOdd : List CS := [
      .asg (.nm 7) (.lst false (.cons (.lam 10 (.call 1 (.cons (.var 5) (.cons (.var 4) .nil)))) .nil)),
      .expr (.mt true .append (.var 7) (.cons (.lam 10 (.call 4 (.cons (.var 5) (.cons (.var 4) .nil)))) .nil)),
      .expr (.mt true .append (.var 7) (.cons (.lam 10 (.call 2 (.cons (.var 5) (.cons (.var 4) .nil)))) .nil)),
      .expr (.mt true .append (.var 7) (.cons (.lam 10 (.call 3 (.cons (.var 5) (.cons (.var 4) .nil)))) .nil)),
      .ifS (.cmp .NotEq (.var 7) (.rep true (.cons (.cst (.str "kind")) .nil) (.cst (.int 4)))) [
        .ret (.cst (.bl false))] []]
theorem ap_new {h : PH} {xs : List PV} {x : PV} (l : xs.length ≤ 10) : mthS true .append (.ref h.length) [x] (h ++ [.lst xs]) = .ok .non (h ++ [.lst (xs ++ [x])]) := by
  have e := mt_append (h := h ++ [.lst xs]) (x := x) st_new (lt_line (by omega))
  rw [List.set_append_right _ _ (Nat.le_refl _), Nat.sub_self] at e
  exact e
theorem k4 (h : PH) : repS true [.str "kind"] (.int 4) h = .ok (.lst [.str "kind", .str "kind", .str "kind", .str "kind"]) h := by
  have e : repS true [.str "kind"] (.int 4) h = Rk.fresh true [.str "kind", .str "kind", .str "kind", .str "kind"] h := by
    have c : [PV.str "kind"].length * (4 : Int).toNat ≤ sizeLine ∧ (-1000000 ≤ (4 : Int) ∧ (4 : Int) ≤ 1000000) := ⟨Nat.le_of_ble_eq_true rfl, by decide⟩
    show (if [PV.str "kind"].length * (4 : Int).toNat ≤ sizeLine ∧ (-1000000 ≤ (4 : Int) ∧ (4 : Int) ≤ 1000000) then Rk.fresh true (List.replicate (4 : Int).toNat [PV.str "kind"]).flatten h else .stuck) = _
    rw [if_pos c]
    rfl
  rw [e]
  exact fresh_t (Nat.le_of_ble_eq_true rfl)
theorem sz1 (h : PH) : szS [.str "kind"] h = .ok () h := if_pos (Nat.le_of_ble_eq_true rfl)
theorem one_odd {n : Nat} {rows : List Knd} {bs : List (Str × Str × Str)} {o0 o1 o2 o3 o6 o7 o8 : Option PV} {x : PV} {h : PH} (od : ∀ t, Odd rows (h ++ t) x) :
    evSs (cfN GD.defs (n + 2)) bOdd [o0, o1, o2, o3, some x, some (schP rows bs), o6, o7, o8] h = .next [o0, o1, o2, o3, some x, some (schP rows bs), o6, some (.ref h.length), o8] (h ++ [.lst [.str "kind", .str "kind", .str "kind", .str "kind"]]) := by
  have o0' : Odd rows h x := by
    have := od []
    rw [List.append_nil] at this
    exact this
  have lm : ∀ (f : Nat) (L : Lo) (h : PH), (cfN GD.defs (n + 2)).call f [schP rows bs, x] h = .exc ⟨"BadKind", []⟩ h → lkS L 5 h = .ok (schP rows bs) h → lkS L 4 h = .ok x h → evE (cfN GD.defs (n + 2)) (.lam 10 (.call f (.cons (.var 5) (.cons (.var 4) .nil)))) L h = .ok (.str "kind") h := fun f L h e g1 g2 => by
    rw [a_lam]
    refine noX_ok (told_bad (n := n + 1) ?_)
    simp only [a_call, a_cons, a_nil, a_var, g1, g2, thn_ok, e]
  have st : ∀ xs : List PV, (h ++ [PO.lst xs])[h.length]? = some (.lst xs) := fun xs => st_new
  have kl : ∀ xs : List PV, kindS .list (.ref h.length) (h ++ [.lst xs]) = .ok () (h ++ [.lst xs]) := fun xs => kind_lst (v_ref (st xs))
  have w1 := lm 1 [o0, o1, o2, o3, some x, some (schP rows bs), o6, o7, o8] h (kind_bad o0') rfl rfl
  have w2 := lm 4 [o0, o1, o2, o3, some x, some (schP rows bs), o6, some (.ref h.length), o8] (h ++ [.lst [.str "kind"]]) (above_bad (od _)) rfl rfl
  have w3 := lm 2 [o0, o1, o2, o3, some x, some (schP rows bs), o6, some (.ref h.length), o8] (h ++ [.lst [.str "kind", .str "kind"]]) (from_bad (od _)) rfl rfl
  have w4 := lm 3 [o0, o1, o2, o3, some x, some (schP rows bs), o6, some (.ref h.length), o8] (h ++ [.lst [.str "kind", .str "kind", .str "kind"]]) (to_bad (od _)) rfl rfl
  have fr : Rk.fresh false [.str "kind"] h = .ok (.ref h.length) (h ++ [.lst [.str "kind"]]) := if_pos (Nat.le_of_ble_eq_true rfl)
  have d4 : ∀ m h', [PV.str "kind", .str "kind", .str "kind", .str "kind"].mapM (toD (m + 1) h') = some [.str "kind", .str "kind", .str "kind", .str "kind"] := fun m h' => rfl
  have ne := ne_same (x := .ref h.length) (y := .lst [.str "kind", .str "kind", .str "kind", .str "kind"]) (h := h ++ [.lst [.str "kind", .str "kind", .str "kind", .str "kind"]]) (toD_ref (n := 69) (st _) (d4 68 _)) (toD_lst (n := 69) (d4 68 _)) (by decide +kernel)
  unfold bOdd
  rw [s_cons, s_asg, a_lst, a_cons, w1, thn_ok, a_nil, thn_ok, thn_ok, fr, to_ok]
  simp only [nextO, Tg.bind, List.set_cons_succ, List.set_cons_zero, nx_next]
  rw [s_cons, s_expr, a_mt, a_var]
  simp only [lk_0, lk_s, thn_ok, Mt.ty, kl, a_cons, a_nil, w2, ap_new (show [PV.str "kind"].length ≤ 10 by decide), to_ok, nx_next, List.cons_append, List.nil_append]
  rw [s_cons, s_expr, a_mt, a_var]
  simp only [lk_0, lk_s, thn_ok, Mt.ty, kl, a_cons, a_nil, w3, ap_new (show [PV.str "kind", PV.str "kind"].length ≤ 10 by decide), to_ok, nx_next, List.cons_append, List.nil_append]
  rw [s_cons, s_expr, a_mt, a_var]
  simp only [lk_0, lk_s, thn_ok, Mt.ty, kl, a_cons, a_nil, w4, ap_new (show [PV.str "kind", PV.str "kind", PV.str "kind"].length ≤ 10 by decide), to_ok, nx_next, List.cons_append, List.nil_append]
  simp only [s_cons, s_nil, s_if, t_cmp, a_var, lk_0, lk_s, thn_ok, a_rep, a_cons, a_nil, a_cst, Cst.pv, sz1, k4, ne, to_ok, Bool.false_eq_true, ↓reduceIte, nx_next]
theorem odd_loop {n : Nat} {rows : List Knd} {bs : List (Str × Str × Str)} {o0 o1 o2 o3 o6 o8 : Option PV} : ∀ (xs : List PV) (h : PH) (o4 o7 : Option PV), (∀ x ∈ xs, ∀ t, Odd rows (h ++ t) x) →
    ∃ t o4' o7', forL (Tg.bind (.nm 4)) (evSs (cfN GD.defs (n + 2)) bOdd) xs [o0, o1, o2, o3, o4, some (schP rows bs), o6, o7, o8] h = .next [o0, o1, o2, o3, o4', some (schP rows bs), o6, o7', o8] (h ++ t)
  | [], h, o4, o7, _ => ⟨[], o4, o7, by rw [List.append_nil]; rfl⟩
  | x :: xs, h, o4, o7, od => by
    obtain ⟨t, p4, p7, g⟩ := odd_loop (n := n) (rows := rows) (bs := bs) (o0 := o0) (o1 := o1) (o2 := o2) (o3 := o3) (o6 := o6) (o8 := o8) xs (h ++ [.lst [.str "kind", .str "kind", .str "kind", .str "kind"]]) (some x) (some (.ref h.length)) fun y hy t => by
      rw [List.append_assoc]
      exact od y (List.mem_cons_of_mem _ hy) _
    refine ⟨[.lst [.str "kind", .str "kind", .str "kind", .str "kind"]] ++ t, p4, p7, ?_⟩
    rw [← List.append_assoc, ← g]
    have eb := one_odd (n := n) (bs := bs) (o0 := o0) (o1 := o1) (o2 := o2) (o3 := o3) (o6 := o6) (o7 := o7) (o8 := o8) (od x (List.mem_cons_self ..))
    show (match evSs (cfN GD.defs (n + 2)) bOdd [o0, o1, o2, o3, some x, some (schP rows bs), o6, o7, o8] h with
      | .next L' h' => forL (Tg.bind (.nm 4)) (evSs (cfN GD.defs (n + 2)) bOdd) xs L' h'
      | .cont L' h' => forL (Tg.bind (.nm 4)) (evSs (cfN GD.defs (n + 2)) bOdd) xs L' h'
      | .brk L' h' => .next L' h'
      | r => r) = _
    rw [eb]
end K03

set_option Elab.async false
set_option linter.all false
set_option maxRecDepth 100000
set_option maxHeartbeats 1000000
namespace K03
open PySem PySem.Spec L2 Rk
def bTurn : List CS := match f12.body with
  | [_, .forS _ _ b, _] => b
  | _ => []
def eOdds : CE := .tup (.cons (.cst .non) (.cons (.cst (.str "nobody")) (.cons (.cst (.str "Kind")) (.cons (.cst (.str "")) (.cons (.cst (.int 5)) (.cons (.cst (.bl true)) (.cons (.tup (.cons (.sub (.sub (.sub (.var 5) (.cst (.int 0))) (.cst (.int 0))) (.cst (.int 0))) .nil)) (.cons (.lst true (.cons (.sub (.sub (.sub (.var 5) (.cst (.int 0))) (.cst (.int 0))) (.cst (.int 0))) .nil)) (.cons (.dct .nil) (.cons (.sub (.sub (.var 5) (.cst (.int 0))) (.cst (.int 0))) (.cons (.bin true .Pow (.cst (.int 10)) (.cst (.int 30))) .nil)))))))))))
def t1 : CS := .par [5, 6] (.cons (.call 9 (.cons (.var 0) (.cons (.var 1) .nil))) (.cons (.call 5 (.cons (.var 0) (.cons (.var 1) .nil))) .nil))
def t2 : CS := .asg (.nm 3) (.pr true .repr (.cons (.var 5) .nil))
def t3 : CS := .ifS (.cmp .NotEq (.comp true (.var 8) (.nm 8) (.seq (.sub (.var 5) (.cst (.int 0)))) (.cons (.not (.val (.call 11 (.cons (.var 5) (.cons (.var 8) .nil))))) .nil) [8]) (.lst true .nil)) [.ret (.cst (.bl false))] []
def t4 : CS := .forS (.nm 4) (.seq eOdds) bOdd
def t5 : CS := .ifS (.cmp .NotEq (.pr true .repr (.cons (.var 5) .nil)) (.var 3)) [.ret (.cst (.bl false))] []
theorem bTurn_eq : bTurn = [t1, t2, t3, t4, t5] := rfl
theorem right_loop {n : Nat} {rows : List Knd} {bs : List (Str × Str × Str)} {o0 o1 o2 o3 o4 o6 o7 o8 : Option PV} (ok : SchOk rows bs) : ∀ (xs : List Knd) (h : PH), (∀ r ∈ xs, r ∈ rows) →
    ∃ t, compL (compStep (.nm 8) [8] [o0, o1, o2, o3, o4, some (schP rows bs), o6, o7, o8] (evIfs (cfN GD.defs (n + 3)) (.cons (.not (.val (.call 11 (.cons (.var 5) (.cons (.var 8) .nil))))) .nil)) (evE (cfN GD.defs (n + 3)) (.var 8))) (xs.map Knd.pv) h = .ok [] (h ++ t)
  | [], h, _ => ⟨[], by rw [List.append_nil]; rfl⟩
  | r :: xs, h, m => by
    obtain ⟨t, e⟩ := right_ok (n := n) (h := h) ok (m r (List.mem_cons_self ..))
    have e : (cfN GD.defs (n + 3)).call 11 [schP rows bs, r.pv] h = .ok (.bl true) (h ++ t) := e
    obtain ⟨t2, g⟩ := right_loop (n := n) (o0 := o0) (o1 := o1) (o2 := o2) (o3 := o3) (o4 := o4) (o6 := o6) (o7 := o7) (o8 := o8) ok xs (h ++ t) fun r hr => m r (List.mem_cons_of_mem _ hr)
    refine ⟨t ++ t2, ?_⟩
    have s1 : compStep (.nm 8) [8] [o0, o1, o2, o3, o4, some (schP rows bs), o6, o7, o8] (evIfs (cfN GD.defs (n + 3)) (.cons (.not (.val (.call 11 (.cons (.var 5) (.cons (.var 8) .nil))))) .nil)) (evE (cfN GD.defs (n + 3)) (.var 8)) r.pv h = .ok none (h ++ t) := by
      rw [step_at (L' := [o0, o1, o2, o3, o4, some (schP rows bs), o6, o7, some r.pv]) rfl]
      simp only [i_one, t_not, t_val, a_call, a_cons, a_nil, a_var, lk_0, lk_s, thn_ok, e, tru_bl, Bool.not_true, Bool.false_eq_true, ↓reduceIte]
    show (compStep _ _ _ _ _ r.pv >>= fun o => compL _ (xs.map Knd.pv) >>= fun ys => pure (consO o ys) : M (List PV)) h = _
    rw [bind_at, s1, thn_ok, bind_at, g, thn_ok, List.append_assoc]
    rfl
theorem at0 {α : Type} (x : α) (xs : List α) : atI (x :: xs) 0 = some x := by
  unfold atI ixN
  rw [if_pos (by decide), if_pos (by rw [List.length_cons]; omega)]
  rfl
theorem odd_str {rows : List Knd} {bs : List (Str × Str × Str)} {s : Str} {h : PH} (ok : SchOk rows bs) (n : s ∉ WS) : Odd rows h (.str s) :=
  .inr ⟨s, rfl, fun m => by
    obtain ⟨r, hr, e⟩ := List.mem_map.mp m
    rw [← e] at n
    exact n (ok.ok r hr).nm⟩
theorem turn_ok {n : Nat} {ns : List Int} (hl : ns.length ≤ 63) {o2 o3 o4 o5 o6 o7 o8 : Option PV} {h : PH} {k : Int} (sp : Spot h k) (k0 : 0 ≤ k) (kk : k ≤ 90000) :
    ∃ (h' : PH) (k' : Int) (p3 p4 p5 p6 p7 : Option PV), Spot h' k' ∧ k ≤ k' ∧ k' ≤ k + 23 ∧ evSs (cfN GD.defs (n + 3)) bTurn [some (.lst (ns.map .int)), some (.ref 0), o2, o3, o4, o5, o6, o7, o8] h =
      .next [some (.lst (ns.map .int)), some (.ref 0), o2, p3, p4, p5, p6, p7, o8] h' := by
  obtain ⟨rows, bs, h1, k1, ok, s1, ka, kb, e1⟩ := schema_ok (G := GD.defs) (q := 9) (c := 5) (m := 6) (f := 7) (a := 8) (N := n) rfl rfl rfl rfl rfl hl sp k0 (by omega)
  obtain ⟨m, _, _, e2⟩ := cell_ok (G := GD.defs) (f := 5) (n := n + 2) rfl s1 (by omega) (by omega) hl
  have s2 : Spot (h1.set 0 (.lst [.int (k1 + 1)])) (k1 + 1) := s1.next
  generalize h1.set 0 (.lst [.int (k1 + 1)]) = h2 at e2 s2
  have e1 : (cfN GD.defs (n + 3)).call 9 [.lst (ns.map .int), .ref 0] h = .ok (schP rows bs) h1 := e1
  have e2 : (cfN GD.defs (n + 3)).call 5 [.lst (ns.map .int), .ref 0] h1 = .ok (.int m) h2 := e2
  obtain ⟨rp, er⟩ := (Pd.sch ok).repr (by decide) (by decide)
  have er : ∀ h, primS true .repr [schP rows bs] h = .ok (.str rp) h := er
  obtain ⟨t, el⟩ := right_loop (n := n) (bs := bs) (o0 := some (.lst (ns.map .int))) (o1 := some (.ref 0)) (o2 := o2) (o3 := some (.str rp)) (o4 := o4) (o6 := some (.int m)) (o7 := o7) (o8 := o8) ok rows h2 fun _ m => m
  obtain ⟨r0, rest, ers⟩ : ∃ r0 rest, rows = r0 :: rest := by
    cases rows with
    | nil => exact absurd ok.n1 (by decide)
    | cons r0 rest => exact ⟨r0, rest, rfl⟩
  have s3 : Spot (h2 ++ t) (k1 + 1) := st_app s2
  have sa : ∀ h, subS (.tup (rows.map Knd.pv)) (.int 0) h = .ok r0.pv h := fun h => by
    rw [ers]
    exact sub_tup (at0 _ _)
  have q1 : evS (cfN GD.defs (n + 3)) t1 [some (.lst (ns.map .int)), some (.ref 0), o2, o3, o4, o5, o6, o7, o8] h = .next [some (.lst (ns.map .int)), some (.ref 0), o2, o3, o4, some (schP rows bs), some (.int m), o7, o8] h2 := by
    simp only [t1, s_par, a_cons, a_nil, a_call, a_var, lk_0, lk_s, thn_ok, e1, e2, to_ok]
    rfl
  have q2 : evS (cfN GD.defs (n + 3)) t2 [some (.lst (ns.map .int)), some (.ref 0), o2, o3, o4, some (schP rows bs), some (.int m), o7, o8] h2 = .next [some (.lst (ns.map .int)), some (.ref 0), o2, some (.str rp), o4, some (schP rows bs), some (.int m), o7, o8] h2 := by
    simp only [t2, s_asg, a_pr, a_cons, a_nil, a_var, lk_0, lk_s, thn_ok, er, to_ok]
    rfl
  have fe : ∀ h, Rk.fresh true [] h = .ok (.lst []) h := fun h => fresh_t (Nat.zero_le _)
  have ne0 : cmpS .NotEq (.lst []) (.lst []) (h2 ++ t) = .ok false (h2 ++ t) := ne_same (d := .list []) rfl rfl rfl
  have q3 : evS (cfN GD.defs (n + 3)) t3 [some (.lst (ns.map .int)), some (.ref 0), o2, some (.str rp), o4, some (schP rows bs), some (.int m), o7, o8] h2 = .next [some (.lst (ns.map .int)), some (.ref 0), o2, some (.str rp), o4, some (schP rows bs), some (.int m), o7, o8] (h2 ++ t) := by
    simp only [t3, s_if, t_cmp, a_comp, i_seq, a_sub, a_var, a_cst, Cst.pv, lk_0, lk_s, thn_ok, sch0, seq_tup]
    rw [noX_ok (show compS _ (.fx (rows.map Knd.pv)) h2 = _ from el), thn_ok, fe, thn_ok, a_lst, a_nil, thn_ok, fe, thn_ok, ne0, to_ok]
    rfl
  have de : ∀ L, evE (cfN GD.defs (n + 3)) (.dct .nil) L (h2 ++ t) = .ok (.ref (h2 ++ t).length) (h2 ++ t ++ [.dct false []]) := fun L => dct_at (cf := cfN GD.defs (n + 3)) (es := .nil) (L := L) (h := h2 ++ t) rfl rfl
  have sd : (h2 ++ t ++ [PO.dct false []])[(h2 ++ t).length]? = some (.dct false []) := st_new
  have s4 : Spot (h2 ++ t ++ [.dct false []]) (k1 + 1) := st_app s3
  have kW : ("nobody" : Str) ∉ WS ∧ ("Kind" : Str) ∉ WS ∧ ("" : Str) ∉ WS := by decide +kernel
  have hp := b_pow true 10 30 (h2 ++ t ++ [.dct false []]) (by decide)
  have tl1 : ∀ h, (if [PV.str r0.nm].length ≤ sizeLine then R.ok (PV.tup [PV.str r0.nm]) h else .stuck) = .ok (.tup [.str r0.nm]) h := fun h => if_pos (Nat.le_of_ble_eq_true rfl)
  have fl1 : ∀ h, Rk.fresh true [.str r0.nm] h = .ok (.lst [.str r0.nm]) h := fun h => fresh_t (Nat.le_of_ble_eq_true rfl)
  have eo : ∀ L, lkS L 5 (h2 ++ t) = .ok (schP rows bs) (h2 ++ t) → lkS L 5 (h2 ++ t ++ [.dct false []]) = .ok (schP rows bs) (h2 ++ t ++ [.dct false []]) → evE (cfN GD.defs (n + 3)) eOdds L (h2 ++ t) =
      .ok (.tup [.non, .str "nobody", .str "Kind", .str "", .int 5, .bl true, .tup [.str r0.nm], .lst [.str r0.nm], .ref (h2 ++ t).length, r0.pv, .int (10 ^ (30 : Int).toNat)]) (h2 ++ t ++ [.dct false []]) := fun L g1 g2 => by
    unfold eOdds
    simp only [a_tup, a_cons, a_nil, a_cst, Cst.pv, thn_ok, a_sub, a_var, g1, g2, sch0, sa, sub_row, tl1, a_lst, fl1, de, a_bin, hp]
    exact if_pos (Nat.le_of_ble_eq_true rfl)
  have tot : ∀ x ∈ [PV.non, .str "nobody", .str "Kind", .str "", .int 5, .bl true, .tup [.str r0.nm], .lst [.str r0.nm], .ref (h2 ++ t).length, r0.pv, .int (10 ^ (30 : Int).toNat)], ∀ z, Odd rows (h2 ++ t ++ [.dct false []] ++ z) x := by
    intro x hx z
    simp only [List.mem_cons, List.not_mem_nil, or_false] at hx
    rcases hx with rfl | rfl | rfl | rfl | rfl | rfl | rfl | rfl | rfl | rfl | rfl
    · exact .inl rfl
    · exact odd_str ok kW.1
    · exact odd_str ok kW.2.1
    · exact odd_str ok kW.2.2
    · exact .inl rfl
    · exact .inl rfl
    · exact .inl rfl
    · exact .inl rfl
    · refine .inl ?_
      unfold isTy
      rw [v_ref (st_app sd)]
      rfl
    · exact .inl rfl
    · exact .inl rfl
  obtain ⟨z, p4, p7, ol⟩ := odd_loop (n := n + 1) (bs := bs) (o0 := some (.lst (ns.map .int))) (o1 := some (.ref 0)) (o2 := o2) (o3 := some (.str rp)) (o6 := some (.int m)) (o8 := o8) _ (h2 ++ t ++ [.dct false []]) o4 o7 tot
  have q4 : evS (cfN GD.defs (n + 3)) t4 [some (.lst (ns.map .int)), some (.ref 0), o2, some (.str rp), o4, some (schP rows bs), some (.int m), o7, o8] (h2 ++ t) = .next [some (.lst (ns.map .int)), some (.ref 0), o2, some (.str rp), p4, some (schP rows bs), some (.int m), p7, o8] (h2 ++ t ++ [.dct false []] ++ z) := by
    rw [t4, s_for, i_seq, eo _ rfl rfl, thn_ok, seq_tup, to_ok, for_fx]
    exact ol
  have q5 : evS (cfN GD.defs (n + 3)) t5 [some (.lst (ns.map .int)), some (.ref 0), o2, some (.str rp), p4, some (schP rows bs), some (.int m), p7, o8] (h2 ++ t ++ [.dct false []] ++ z) = .next [some (.lst (ns.map .int)), some (.ref 0), o2, some (.str rp), p4, some (schP rows bs), some (.int m), p7, o8] (h2 ++ t ++ [.dct false []] ++ z) := by
    have en : ∀ h, cmpS .NotEq (.str rp) (.str rp) h = .ok false h := fun h => by
      rw [ne_str, decide_eq_true rfl]
      rfl
    simp only [t5, s_if, t_cmp, a_pr, a_cons, a_nil, a_var, lk_0, lk_s, thn_ok, er, en, to_ok, Bool.false_eq_true, ↓reduceIte, s_nil]
  have s5 : Spot (h2 ++ t ++ [PO.dct false []] ++ z) (k1 + 1) := by
    have s4' : (h2 ++ t ++ [PO.dct false []])[0]? = some (PO.lst [.int (k1 + 1)]) := s4
    exact st_app s4'
  refine ⟨h2 ++ t ++ [.dct false []] ++ z, k1 + 1, some (.str rp), p4, some (schP rows bs), some (.int m), p7, s5, by omega, by omega, ?_⟩
  rw [bTurn_eq, s_cons, q1, nx_next, s_cons, q2, nx_next, s_cons, q3, nx_next, s_cons, q4, nx_next, s_cons, q5, nx_next, s_nil]
def g1 : CS := .asg (.nm 1) (.lst false (.cons (.cst (.int 0)) .nil))
def g2 : CS := .forS (.nm 2) (.range1 (.bin true .Add (.cst (.int 3)) (.pr true .min2 (.cons (.cst (.int 16)) (.cons (.pr true .len (.cons (.var 0) .nil)) .nil))))) bTurn
theorem f12_body : f12.body = [g1, g2, .ret (.cst (.bl true))] := rfl
theorem min_at (fz : Bool) (i j : Int) (h : PH) : primS fz .min2 [.int i, .int j] h = .ok (.int (if j < i then j else i)) h := rfl
theorem plain : Plain := by
  intro ns hl
  suffices g : Wp Nev (fun v _ => v = .bl true) (callN GD.defs 9 law [.lst (ns.map .int)] []) by
    obtain ⟨v, h', e, rfl⟩ := of_w g
    exact ⟨h', e⟩
  rw [call_eq (d := f12) rfl rfl, f12_body]
  show Wp _ _ (evSs (cfN GD.defs 8) _ [some (.lst (ns.map .int)), none, none, none, none, none, none, none, none] []).fin
  have fr : Rk.fresh false [.int 0] [] = .ok (.ref 0) [.lst [.int 0]] := if_pos (Nat.le_of_ble_eq_true rfl)
  have lz : ((ns.map PV.int).length : Int) = ns.length := by rw [List.length_map]
  have hr : ∀ h, rangeS (.int 0) (.int (3 + (if ((ns.map PV.int).length : Int) < 16 then ((ns.map PV.int).length : Int) else 16))) h = .ok (.fx (rangeL 0 (3 + (if ((ns.map PV.int).length : Int) < 16 then ((ns.map PV.int).length : Int) else 16)))) h := fun h => range_at h ⟨by decide, by decide, by split <;> omega, by split <;> omega⟩
  simp only [g1, g2, s_cons, s_asg, a_lst, a_cons, a_nil, a_cst, Cst.pv, thn_ok, fr, to_ok, nextO, Tg.bind, List.set_cons_succ, List.set_cons_zero, nx_next, s_for, i_rng1, a_bin, a_pr, a_var, lk_0, lk_s, len_lst, min_at, b_add, hr, for_fx]
  rw [w_fin, ws_nx]
  refine ws_forL (I := fun i L h => ∃ (o2 o3 o4 o5 o6 o7 : Option PV) (k : Int), L = [some (.lst (ns.map .int)), some (.ref 0), o2, o3, o4, o5, o6, o7, none] ∧ Spot h k ∧ 0 ≤ k ∧ k ≤ 23 * (i : Int)) _ 0 _ _ ?_ ?_ ?_
  · exact ⟨none, none, none, none, none, none, 0, rfl, rfl, by omega, by omega⟩
  · rintro i x L h ex ⟨o2, o3, o4, o5, o6, o7, k, rfl, sp, k0, k1⟩
    rw [Nat.zero_add] at k1 ⊢
    obtain ⟨rfl, hx⟩ := rangeL_at ex
    have hi : (i : Int) < 20 := by
      have : (0 : Int) + i < 3 + (if ((ns.map PV.int).length : Int) < 16 then ((ns.map PV.int).length : Int) else 16) := hx
      split at this <;> omega
    refine ⟨_, rfl, ?_⟩
    simp only [List.set_cons_succ, List.set_cons_zero]
    obtain ⟨h', k', p3, p4, p5, p6, p7, s', ka, kb, et⟩ := turn_ok (n := 5) (o2 := some (.int (0 + (i : Nat)))) (o3 := o3) (o4 := o4) (o5 := o5) (o6 := o6) (o7 := o7) (o8 := none) hl sp k0 (by omega)
    rw [show (8 : Nat) = 5 + 3 from rfl, et]
    exact ⟨_, _, _, _, _, _, k', rfl, s', by omega, by omega⟩
  · rintro L h ⟨o2, o3, o4, o5, o6, o7, k, rfl, _, _, _⟩
    rfl
end K03

set_option maxRecDepth 100000 in
set_option maxHeartbeats 8000000 in
theorem PySem.Challenge.cw_rootwalk_k03_kinds_and_ties_asked_holds : PySem.Challenge.rw_rootwalk_k03_kinds_and_ties_asked.Holds := by
  exact K03.holds K03.plain
