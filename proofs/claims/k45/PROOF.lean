import PyProof.Rows.All
import Wide.All
import OpenK.AllK
import Wide.FinOn
import HandS.ForMost
import HandS.Exc
import HandS.ExcOwn
import HandS.TryOnly
import HandS.TryMany
import HandS.Walk
import HandS.Zip
import HandS.TupAny
import HandS.TupMul
import HandS.Wide
import HandS.Flow
import HandS.Deep
import HandS.HeadWalk
import HandS.TupLe
import HandS.List
import PyProof.WalksMore
import PyProof.SumWalkG
import HandS.RaiseMore
import HandS.SortInts
import HandS.StrSplit
import HandS.IsInst
import HandS.SetFor
import HandS.More
import HandS.Conv
import KE.GoesMore
import HandS.Style
import PyProof.ReprRoads
import HandS.Defaults
import HandS.WordsExc
import HandS.HeadHook1
import HandS.HeadHook2
import HandS.HeadHook3
import HandS.HeadHook4
import HandS.Codes
import HandS.HeadEnd
import HandS.Ends
import HandS.Text
import PyProof.ReprLen
import HandS.Head0
import HandS.Head1
import HandS.Head2
import PySem.Challenge.RW_harmonicdues_k45_whole_texts_of_rows_lot
set_option Elab.async false
set_option linter.all false
set_option maxRecDepth 100000
/-! A small verified interpreter over the hand layer: values as data, a heap of changeable objects by number. -/
namespace Ev
open PySem PySem.Spec L2
open PyProof.Rows hiding St
/-- a value as data; ref n: the n-th changeable object -/
inductive D where
  | non | bl (b : Bool) | int (i : Int) | str (x : Str) | ty (n : String)
  | tup (xs : List D) | lst (xs : List D) | frl (xs : List D) | dic (kvs : List (Key × D))
  | ref (n : Nat) | fn (i : Nat) | cls (i : Nat)
  deriving Inhabited
/-- a changeable object -/
inductive O where
  | lst (xs : List D) | dic (kvs : List (Key × D)) | ins (c : Nat) (fs : List (Str × D))
  deriving Inhabited
abbrev Hh := List O
/-- an exception that flies: its class, its field -/
structure Ex where
  cls : Nat
  fld : Option D
inductive R (α : Type) where
  | ok (a : α) (h : Hh) | exc (e : Ex) (h : Hh) | stk
def R.bind {α β : Type} (r : R α) (f : α → Hh → R β) : R β := match r with
  | .ok a h => f a h
  | .exc e h => .exc e h
  | .stk => .stk
@[simp] theorem R.bind_ok {α β : Type} (a : α) (h : Hh) (f : α → Hh → R β) : R.bind (.ok a h) f = f a h := (rfl)
@[simp] theorem R.bind_exc {α β : Type} (e : Ex) (h : Hh) (f : α → Hh → R β) : R.bind (.exc e h) f = .exc e h := (rfl)
@[simp] theorem R.bind_stk {α β : Type} (f : α → Hh → R β) : R.bind .stk f = .stk := (rfl)
/-- where the text's defs and classes stand -/
structure Zp where
  K : PySem.W.Frag
  fa : Nat → Addr
  ca : Nat → Addr
/-- where the changeable objects stand; what no value may stand for (a list in the making) -/
structure Mp where
  pl : Nat → Option Addr
  no : Addr → Prop
instance : CoeFun Mp fun _ => Nat → Option Addr := ⟨Mp.pl⟩
def Free (m : Mp) (a : Addr) : Prop := ∀ n, m n ≠ some a
def Out (m : Mp) (a : Addr) : Prop := Free m a ∧ ¬ m.no a
def Mp.ban (m : Mp) (p : Addr) : Mp := ⟨m.pl, fun a => m.no a ∨ a = p⟩
/-- a tuple, a list that is written in the text's own top -/
def WrT (K : PySem.W.Frag) (a : Addr) (xs : List V) : Prop :=
  ∃ (o : Obj) (its : Array Value) (n : Nat), K.lookup a = some o ∧ o.cls = .type "tuple" ∧ o.data = .seq its n ∧ its.size ≤ sizeLine ∧ Vals xs its.toList
def WrL (K : PySem.W.Frag) (a : Addr) (xs : List V) : Prop :=
  ∃ (o : Obj) (its : Array Value) (n : Nat), K.lookup a = some o ∧ o.cls = .type "list" ∧ o.dict = none ∧ o.data = .seq its n ∧ its.size ≤ sizeLine ∧ Vals xs its.toList
def StT (K : PySem.W.Frag) (m : Mp) (H : Hp) (a : Addr) (xs : List V) : Prop := (H a = some (.tup xs) ∧ Out m a) ∨ WrT K a xs
def StL (K : PySem.W.Frag) (m : Mp) (H : Hp) (a : Addr) (xs : List V) : Prop := (Rd H a (.lst xs) ∧ Out m a) ∨ WrL K a xs
theorem StT.sq {K : PySem.W.Frag} {m : Mp} {H : Hp} {a : Addr} {xs : List V} (h : StT K m H a xs) : SqT K H a xs := h.elim (fun q => .inl (.inl q.1)) .inr
theorem StL.sq {K : PySem.W.Frag} {m : Mp} {H : Hp} {a : Addr} {xs : List V} (h : StL K m H a xs) : SqL K H a xs := h.elim (fun q => .inl q.1) .inr
mutual
inductive RV (Z : Zp) (m : Mp) (H : Hp) : D → V → Prop
  | non : RV Z m H .non .non
  | bl (b : Bool) : RV Z m H (.bl b) (.bl b)
  | int (i : Int) : RV Z m H (.int i) (.int i)
  | str (x : Str) : RV Z m H (.str x) (.str x)
  | ty (n : String) : RV Z m H (.ty n) (.ty n)
  | tup {a : Addr} {vs : List V} {ds : List D} : StT Z.K m H a vs → RVs Z m H ds vs → RV Z m H (.tup ds) (.ref a)
  | lst {a : Addr} {vs : List V} {ds : List D} : H a = some (.lst vs) → Out m a → RVs Z m H ds vs → RV Z m H (.lst ds) (.ref a)
  | frl {a : Addr} {vs : List V} {ds : List D} : StL Z.K m H a vs → RVs Z m H ds vs → RV Z m H (.frl ds) (.ref a)
  | dic {a : Addr} {vs : List (Key × V)} {ds : List (Key × D)} : H a = some (.dK vs) → Out m a → RVk Z m H ds vs → RV Z m H (.dic ds) (.ref a)
  | ref {n : Nat} {a : Addr} : m n = some a → RV Z m H (.ref n) (.ref a)
  | fn (i : Nat) : RV Z m H (.fn i) (.ref (Z.fa i))
  | cls (i : Nat) : RV Z m H (.cls i) (.ref (Z.ca i))
inductive RVs (Z : Zp) (m : Mp) (H : Hp) : List D → List V → Prop
  | nil : RVs Z m H [] []
  | cons {d : D} {v : V} {ds : List D} {vs : List V} : RV Z m H d v → RVs Z m H ds vs → RVs Z m H (d :: ds) (v :: vs)
inductive RVk (Z : Zp) (m : Mp) (H : Hp) : List (Key × D) → List (Key × V) → Prop
  | nil : RVk Z m H [] []
  | cons {k : Key} {d : D} {v : V} {ds : List (Key × D)} {vs : List (Key × V)} : RV Z m H d v → RVk Z m H ds vs → RVk Z m H ((k, d) :: ds) ((k, v) :: vs)
end
inductive RVf (Z : Zp) (m : Mp) (H : Hp) : List (Str × D) → List (Str × V) → Prop
  | nil : RVf Z m H [] []
  | cons {k : Str} {d : D} {v : V} {ds : List (Str × D)} {vs : List (Str × V)} : RV Z m H d v → RVf Z m H ds vs → RVf Z m H ((k, d) :: ds) ((k, v) :: vs)
/-- from (m, H) on: the changeable objects stay where they are, the new ones are new; what is not changeable stays -/
structure Ext (m : Mp) (H : Hp) (m' : Mp) (H' : Hp) : Prop where
  up : ∀ n a, m n = some a → m' n = some a
  new : ∀ n a, m' n = some a → m n = some a ∨ H a = none
  keep : ∀ b o, H b = some o → Free m b → H' b = some o
  old : ∀ b o, H b = some o → ∃ o', H' b = some o'
  nu : ∀ a, m.no a → m'.no a
  nn : ∀ a, m'.no a → m.no a ∨ H a = none
theorem Ext.refl {m : Mp} {H : Hp} : Ext m H m H := ⟨fun _ _ h => h, fun _ _ h => .inl h, fun _ _ h _ => h, fun _ o h => ⟨o, h⟩, fun _ h => h, fun _ h => .inl h⟩
theorem Ext.free {m m' : Mp} {H H' : Hp} (x : Ext m H m' H') {a : Addr} {o : HO} (h : H a = some o) (q : Free m a) : Free m' a := fun n e => by
  rcases x.new n a e with z | z
  · exact q n z
  · rw [h] at z; cases z
theorem Ext.out {m m' : Mp} {H H' : Hp} (x : Ext m H m' H') {a : Addr} {o : HO} (h : H a = some o) (q : Out m a) : Out m' a := ⟨x.free h q.1, fun z => (x.nn a z).elim q.2 fun e => by rw [h] at e; cases e⟩
structure RS (Z : Zp) (m : Mp) (h : Hh) (H : Hp) : Prop where
  dom : ∀ n, (∃ a, m n = some a) ↔ n < h.length
  inj : ∀ n n' a, m n = some a → m n' = some a → n = n'
  trk : ∀ n a, m n = some a → ∃ o, H a = some o
  lst : ∀ n a xs, m n = some a → h[n]? = some (.lst xs) → ∃ vs, H a = some (.lst vs) ∧ RVs Z m H xs vs
  dic : ∀ n a kvs, m n = some a → h[n]? = some (.dic kvs) → ∃ vs, H a = some (.dK vs) ∧ RVk Z m H kvs vs
  ins : ∀ n a c fs, m n = some a → h[n]? = some (.ins c fs) → ∃ dx vs, H a = some (.ins (Z.ca c) dx vs) ∧ RVf Z m H fs vs
  nok : ∀ a, m.no a → ∃ o, H a = some o
theorem Ext.trans {m m' m2 : Mp} {H H' H2 : Hp} (a : Ext m H m' H') (b : Ext m' H' m2 H2) : Ext m H m2 H2 where
  up := fun n x h => b.up n x (a.up n x h)
  new := fun n x h => by
    rcases b.new n x h with z | z
    · exact a.new n x z
    · refine .inr ?_
      cases e : H x with
      | none => rfl
      | some o =>
        obtain ⟨o', q⟩ := a.old x o e
        rw [q] at z; cases z
  keep := fun b' o h q => b.keep b' o (a.keep b' o h q) (a.free h q)
  nu := fun a' h => b.nu a' (a.nu a' h)
  nn := fun a' h => by
    rcases b.nn a' h with z | z
    · exact a.nn a' z
    · refine .inr ?_
      cases e : H a' with
      | none => rfl
      | some o =>
        obtain ⟨o', q⟩ := a.old a' o e
        rw [q] at z; cases z
  old := fun b' o h => by
    obtain ⟨o', q⟩ := a.old b' o h
    exact b.old b' o' q
theorem Ext.fresh {m m' : Mp} {H H' : Hp} (x : Ext m H m' H') {p : Addr} (h : H' p = none) : H p = none := by
  cases e : H p with
  | none => rfl
  | some o =>
    obtain ⟨o', q⟩ := x.old p o e
    rw [q] at h; cases h
theorem Rd.ext {m m' : Mp} {H H' : Hp} (x : Ext m H m' H') {a : Addr} {u : HO} (r : Rd H a u) (q : Out m a) : Rd H' a u ∧ Out m' a := by
  rcases r with r | ⟨o, r⟩
  · exact ⟨.inl (x.keep _ _ r q.1), x.out r q⟩
  · exact ⟨.inr ⟨o, x.keep _ _ r q.1⟩, x.out r q⟩
theorem StT.ext {K : PySem.W.Frag} {m m' : Mp} {H H' : Hp} (x : Ext m H m' H') {a : Addr} {xs : List V} (h : StT K m H a xs) : StT K m' H' a xs := h.elim (fun q => .inl ⟨x.keep _ _ q.1 q.2.1, x.out q.1 q.2⟩) .inr
theorem StL.ext {K : PySem.W.Frag} {m m' : Mp} {H H' : Hp} (x : Ext m H m' H') {a : Addr} {xs : List V} (h : StL K m H a xs) : StL K m' H' a xs := h.elim (fun q => .inl (Rd.ext x q.1 q.2)) .inr
section
variable {Z : Zp} {m m' : Mp} {H H' : Hp}
mutual
theorem RV.ext (x : Ext m H m' H') : ∀ {d : D} {v : V}, RV Z m H d v → RV Z m' H' d v
  | _, _, .non => .non
  | _, _, .bl b => .bl b
  | _, _, .int b => .int b
  | _, _, .str b => .str b
  | _, _, .ty b => .ty b
  | _, _, .tup h r => .tup (h.ext x) (RVs.ext x r)
  | _, _, .lst h o r => .lst (x.keep _ _ h o.1) (x.out h o) (RVs.ext x r)
  | _, _, .frl h r => .frl (h.ext x) (RVs.ext x r)
  | _, _, .dic h o r => .dic (x.keep _ _ h o.1) (x.out h o) (RVk.ext x r)
  | _, _, .ref h => .ref (x.up _ _ h)
  | _, _, .fn i => .fn i
  | _, _, .cls i => .cls i
theorem RVs.ext (x : Ext m H m' H') : ∀ {ds : List D} {vs : List V}, RVs Z m H ds vs → RVs Z m' H' ds vs
  | _, _, .nil => .nil
  | _, _, .cons r t => .cons (RV.ext x r) (RVs.ext x t)
theorem RVk.ext (x : Ext m H m' H') : ∀ {ds : List (Key × D)} {vs : List (Key × V)}, RVk Z m H ds vs → RVk Z m' H' ds vs
  | _, _, .nil => .nil
  | _, _, .cons r t => .cons (RV.ext x r) (RVk.ext x t)
end
theorem RVf.ext (x : Ext m H m' H') : ∀ {ds : List (Str × D)} {vs : List (Str × V)}, RVf Z m H ds vs → RVf Z m' H' ds vs
  | _, _, .nil => .nil
  | _, _, .cons r t => .cons (RV.ext x r) (RVf.ext x t)
theorem RVs.length : ∀ {ds : List D} {vs : List V}, RVs Z m H ds vs → ds.length = vs.length
  | _, _, .nil => rfl
  | _, _, .cons _ t => congrArg (· + 1) (RVs.length t)
theorem RVs.get : ∀ {ds : List D} {vs : List V} {i : Nat} {d : D}, RVs Z m H ds vs → ds[i]? = some d → ∃ v, vs[i]? = some v ∧ RV Z m H d v
  | _, _, _, _, .nil, e => by simp at e
  | _, _, 0, _, .cons r _, e => by simp at e; subst e; exact ⟨_, rfl, r⟩
  | _, _, i + 1, d, .cons _ t, e => by
    obtain ⟨v, h1, h2⟩ := RVs.get (i := i) (d := d) t (by simpa using e)
    exact ⟨v, by simpa using h1, h2⟩
theorem RVs.get' : ∀ {ds : List D} {vs : List V} {i : Nat} {v : V}, RVs Z m H ds vs → vs[i]? = some v → ∃ d, ds[i]? = some d ∧ RV Z m H d v
  | _, _, _, _, .nil, e => by simp at e
  | _, _, 0, _, .cons r _, e => by simp at e; subst e; exact ⟨_, rfl, r⟩
  | _, _, i + 1, d, .cons _ t, e => by
    obtain ⟨v, h1, h2⟩ := RVs.get' (i := i) (v := d) t (by simpa using e)
    exact ⟨v, by simpa using h1, h2⟩
theorem RVs.append : ∀ {ds es : List D} {vs ws : List V}, RVs Z m H ds vs → RVs Z m H es ws → RVs Z m H (ds ++ es) (vs ++ ws)
  | _, _, _, _, .nil, s => s
  | _, _, _, _, .cons r t, s => .cons r (RVs.append t s)
theorem RVs.take : ∀ {ds : List D} {vs : List V} (n : Nat), RVs Z m H ds vs → RVs Z m H (ds.take n) (vs.take n)
  | _, _, 0, _ => by simp; exact .nil
  | _, _, _ + 1, .nil => .nil
  | _, _, n + 1, .cons r t => .cons r (RVs.take n t)
theorem RVs.drop : ∀ {ds : List D} {vs : List V} (n : Nat), RVs Z m H ds vs → RVs Z m H (ds.drop n) (vs.drop n)
  | _, _, 0, r => by simpa using r
  | _, _, _ + 1, .nil => .nil
  | _, _, n + 1, .cons _ t => RVs.drop n t
theorem RVs.set {d : D} {v : V} (r : RV Z m H d v) : ∀ {ds : List D} {vs : List V} (i : Nat), RVs Z m H ds vs → RVs Z m H (ds.set i d) (vs.set i v)
  | _, _, _, .nil => .nil
  | _, _, 0, .cons _ t => .cons r t
  | _, _, i + 1, .cons q t => .cons q (RVs.set r i t)
/-- the local names -/
def RSl (Z : Zp) (m : Mp) (H : Hp) (s : List (Option D)) (σ : St) : Prop := s.length = σ.length ∧ ∀ (i : Nat) (d : D), s[i]? = some (some d) → ∃ v, σ[i]? = some (some v) ∧ RV Z m H d v
theorem RSl.ext (x : Ext m H m' H') {s : List (Option D)} {σ : St} (r : RSl Z m H s σ) : RSl Z m' H' s σ := ⟨r.1, fun i d e => by
  obtain ⟨v, h1, h2⟩ := r.2 i d e
  exact ⟨v, h1, h2.ext x⟩⟩
theorem RSl.set {s : List (Option D)} {σ : St} (r : RSl Z m H s σ) {i : Nat} {d : D} {v : V} (q : RV Z m H d v) : RSl Z m H (s.set i (some d)) (σ.set i (some v)) := by
  refine ⟨by simp [r.1], fun j e he => ?_⟩
  by_cases hj : i = j
  · subst hj
    by_cases hl : i < s.length
    · rw [List.getElem?_set_self hl] at he
      have he2 : d = e := Option.some.inj (Option.some.inj he)
      subst he2
      exact ⟨v, List.getElem?_set_self (by rw [← r.1]; exact hl), q⟩
    · rw [List.getElem?_eq_none (by simp; omega)] at he
      cases he
  · rw [List.getElem?_set_ne hj] at he ⊢
    exact r.2 j e he
end
/-! ### new objects -/
section
variable {Z : Zp} {m : Mp} {h : Hh} {H : Hp} {p : Addr} {o : HO}
theorem RS.outN (rs : RS Z m h H) (hp : H p = none) : Out m p := by
  refine ⟨fun n e => ?_, fun e => ?_⟩
  · obtain ⟨o, q⟩ := rs.trk n p e
    rw [hp] at q; cases q
  · obtain ⟨o, q⟩ := rs.nok p e
    rw [hp] at q; cases q
theorem RS.laidX (rs : RS Z m h H) (hp : H p = none) : Ext m H m (upd H p o) where
  up := fun _ _ q => q
  new := fun _ _ q => .inl q
  keep := fun b o' q _ => by rw [upd_ne (ne_of_none q hp)]; exact q
  old := fun b o' q => ⟨o', by rw [upd_ne (ne_of_none q hp)]; exact q⟩
  nu := fun _ h => h
  nn := fun _ h => .inl h
theorem RS.laid (rs : RS Z m h H) (hp : H p = none) : RS Z m h (upd H p o) := by
  have x := rs.laidX (o := o) hp
  have k : ∀ {b : Addr} {u : HO}, H b = some u → (upd H p o) b = some u := fun {b u} q => by rw [upd_ne (ne_of_none q hp)]; exact q
  refine ⟨rs.dom, rs.inj, fun n a e => ?_, fun n a xs e q => ?_, fun n a kvs e q => ?_, fun n a c fs e q => ?_, fun a e => ?_⟩
  · obtain ⟨u, q⟩ := rs.trk n a e
    exact ⟨u, k q⟩
  · obtain ⟨vs, h1, h2⟩ := rs.lst n a xs e q
    exact ⟨vs, k h1, h2.ext x⟩
  · obtain ⟨vs, h1, h2⟩ := rs.dic n a kvs e q
    exact ⟨vs, k h1, h2.ext x⟩
  · obtain ⟨dx, vs, h1, h2⟩ := rs.ins n a c fs e q
    exact ⟨dx, vs, k h1, h2.ext x⟩
  · obtain ⟨u, q⟩ := rs.nok a e
    exact ⟨u, k q⟩
theorem RS.newTup (rs : RS Z m h H) (hp : H p = none) {ds : List D} {vs : List V} (r : RVs Z m H ds vs) : RV Z m (upd H p (.tup vs)) (.tup ds) (.ref p) :=
  .tup (.inl ⟨upd_same, rs.outN hp⟩) (r.ext (rs.laidX hp))
theorem RS.newLst (rs : RS Z m h H) (hp : H p = none) {ds : List D} {vs : List V} (r : RVs Z m H ds vs) : RV Z m (upd H p (.lst vs)) (.lst ds) (.ref p) :=
  .lst upd_same (rs.outN hp) (r.ext (rs.laidX hp))
theorem RS.newDic (rs : RS Z m h H) (hp : H p = none) {ds : List (Key × D)} {vs : List (Key × V)} (r : RVk Z m H ds vs) : RV Z m (upd H p (.dK vs)) (.dic ds) (.ref p) :=
  .dic upd_same (rs.outN hp) (r.ext (rs.laidX hp))
end
/-! ### banned addresses -/
section
variable {Z : Zp} {m m' : Mp} {H H' : Hp}
/-- values go from (m, H) to (m', H') as they are -/
structure Mov (m : Mp) (H : Hp) (m' : Mp) (H' : Hp) : Prop where
  ref : ∀ n a, m n = some a → m' n = some a
  rd : ∀ a o, H a = some o → Out m a → H' a = some o ∧ Out m' a
theorem Mov.st {K : PySem.W.Frag} (x : Mov m H m' H') {a : Addr} {xs : List V} (h : StT K m H a xs) : StT K m' H' a xs := by
  rcases h with ⟨h, q⟩ | h
  · exact .inl ⟨(x.rd _ _ h q).1, (x.rd _ _ h q).2⟩
  · exact .inr h
theorem Mov.sl {K : PySem.W.Frag} (x : Mov m H m' H') {a : Addr} {xs : List V} (h : StL K m H a xs) : StL K m' H' a xs := by
  rcases h with ⟨h | ⟨o, h⟩, q⟩ | h
  · exact .inl ⟨.inl (x.rd _ _ h q).1, (x.rd _ _ h q).2⟩
  · exact .inl ⟨.inr ⟨o, (x.rd _ _ h q).1⟩, (x.rd _ _ h q).2⟩
  · exact .inr h
mutual
theorem RV.mov (x : Mov m H m' H') : ∀ {d : D} {v : V}, RV Z m H d v → RV Z m' H' d v
  | _, _, .non => .non
  | _, _, .bl b => .bl b
  | _, _, .int b => .int b
  | _, _, .str b => .str b
  | _, _, .ty b => .ty b
  | _, _, .tup h r => .tup (x.st h) (RVs.mov x r)
  | _, _, .lst h o r => .lst (x.rd _ _ h o).1 (x.rd _ _ h o).2 (RVs.mov x r)
  | _, _, .frl h r => .frl (x.sl h) (RVs.mov x r)
  | _, _, .dic h o r => .dic (x.rd _ _ h o).1 (x.rd _ _ h o).2 (RVk.mov x r)
  | _, _, .ref h => .ref (x.ref _ _ h)
  | _, _, .fn i => .fn i
  | _, _, .cls i => .cls i
theorem RVs.mov (x : Mov m H m' H') : ∀ {ds : List D} {vs : List V}, RVs Z m H ds vs → RVs Z m' H' ds vs
  | _, _, .nil => .nil
  | _, _, .cons r t => .cons (RV.mov x r) (RVs.mov x t)
theorem RVk.mov (x : Mov m H m' H') : ∀ {ds : List (Key × D)} {vs : List (Key × V)}, RVk Z m H ds vs → RVk Z m' H' ds vs
  | _, _, .nil => .nil
  | _, _, .cons r t => .cons (RV.mov x r) (RVk.mov x t)
end
theorem RVf.mov (x : Mov m H m' H') : ∀ {ds : List (Str × D)} {vs : List (Str × V)}, RVf Z m H ds vs → RVf Z m' H' ds vs
  | _, _, .nil => .nil
  | _, _, .cons r t => .cons (RV.mov x r) (RVf.mov x t)
theorem RSl.mov (x : Mov m H m' H') {s : List (Option D)} {σ : St} (r : RSl Z m H s σ) : RSl Z m' H' s σ := ⟨r.1, fun i d e => by
  obtain ⟨v, h1, h2⟩ := r.2 i d e
  exact ⟨v, h1, h2.mov x⟩⟩
/-- a new object is laid and banned -/
theorem Mov.ban {h : Hh} {p : Addr} {o : HO} (rs : RS Z m h H) (hp : H p = none) : Mov m H (m.ban p) (upd H p o) where
  ref := fun _ _ h => h
  rd := fun a o' h q => ⟨by rw [upd_ne (ne_of_none h hp)]; exact h, q.1, fun z => z.elim q.2 (ne_of_none h hp)⟩
/-- the ban is lifted -/
theorem Mov.unban {p : Addr} : Mov (m.ban p) H m H where
  ref := fun _ _ h => h
  rd := fun a o' h q => ⟨h, q.1, fun z => q.2 (.inl z)⟩
/-- a changeable object more -/
def Mp.add (m : Mp) (n : Nat) (p : Addr) : Mp := ⟨fun k => if k = n then some p else m k, m.no⟩
theorem Mov.add {h : Hh} {p : Addr} (rs : RS Z (m.ban p) h H) : Mov (m.ban p) H (m.add h.length p) H where
  ref := fun n a e => by
    have hn : n < h.length := (rs.dom n).mp ⟨a, e⟩
    show (if n = h.length then some p else m n) = some a
    rw [if_neg (by omega)]
    exact e
  rd := fun a o' e q => ⟨e, fun n z => by
    have z' : (if n = h.length then some p else m n) = some a := z
    split at z'
    · cases z'
      exact q.2 (.inr rfl)
    · exact q.1 n z', fun z => q.2 (.inl z)⟩
theorem RS.mov {h : Hh} (x : Mov m H m' H') (rs : RS Z m h H) (hpl : m'.pl = m.pl) (k : ∀ n a o, m n = some a → H a = some o → H' a = some o) (hno : ∀ a, m'.no a → ∃ o, H' a = some o) : RS Z m' h H' := by
  have hh : ∀ n, m' n = m n := fun n => congrFun hpl n
  refine ⟨fun n => by rw [hh]; exact rs.dom n, fun n n' a e1 e2 => rs.inj n n' a (by rw [← hh]; exact e1) (by rw [← hh]; exact e2), fun n a e => ?_, fun n a xs e q => ?_, fun n a kvs e q => ?_, fun n a c fs e q => ?_, hno⟩
  · rw [hh] at e
    obtain ⟨u, q⟩ := rs.trk n a e
    exact ⟨u, k n a u e q⟩
  · rw [hh] at e
    obtain ⟨vs, h1, h2⟩ := rs.lst n a xs e q
    exact ⟨vs, k n a _ e h1, h2.mov x⟩
  · rw [hh] at e
    obtain ⟨vs, h1, h2⟩ := rs.dic n a kvs e q
    exact ⟨vs, k n a _ e h1, h2.mov x⟩
  · rw [hh] at e
    obtain ⟨dx, vs, h1, h2⟩ := rs.ins n a c fs e q
    exact ⟨dx, vs, k n a _ e h1, h2.mov x⟩
theorem RS.ban {h : Hh} {p : Addr} {o : HO} (rs : RS Z m h H) (hp : H p = none) : RS Z (m.ban p) h (upd H p o) :=
  rs.mov (Mov.ban rs hp) rfl (fun n a o' _ e => by rw [upd_ne (ne_of_none e hp)]; exact e) fun a e => by
    rcases e with e | e
    · obtain ⟨u, q⟩ := rs.nok a e
      exact ⟨u, by rw [upd_ne (ne_of_none q hp)]; exact q⟩
    · subst e
      exact ⟨o, upd_same⟩
theorem RS.unban {h : Hh} {p : Addr} (rs : RS Z (m.ban p) h H) : RS Z m h H :=
  rs.mov Mov.unban rfl (fun _ _ _ _ e => e) fun a e => rs.nok a (.inl e)
end
/-- a new object -/
inductive RO (Z : Zp) (m : Mp) (H : Hp) : O → HO → Prop
  | lst {xs : List D} {vs : List V} : RVs Z m H xs vs → RO Z m H (.lst xs) (.lst vs)
  | dic {xs : List (Key × D)} {vs : List (Key × V)} : RVk Z m H xs vs → RO Z m H (.dic xs) (.dK vs)
  | ins {c : Nat} {fs : List (Str × D)} {dx : Addr} {vs : List (Str × V)} : RVf Z m H fs vs → RO Z m H (.ins c fs) (.ins (Z.ca c) dx vs)
theorem RO.mov {Z : Zp} {m m' : Mp} {H H' : Hp} (x : Mov m H m' H') {o : O} {ho : HO} (r : RO Z m H o ho) : RO Z m' H' o ho := by
  cases r with
  | lst r => exact .lst (r.mov x)
  | dic r => exact .dic (r.mov x)
  | ins r => exact .ins (r.mov x)
theorem RS.add {Z : Zp} {m : Mp} {h : Hh} {H : Hp} {p : Addr} {o : O} {ho : HO} (rs : RS Z (m.ban p) h H) (hf : Free m p) (hp : H p = some ho) (ro : RO Z (m.ban p) H o ho) : RS Z (m.add h.length p) (h ++ [o]) H := by
  have x := Mov.add rs
  have dn : m h.length = none := by
    cases e : m h.length with
    | none => rfl
    | some a => exact absurd ((rs.dom h.length).mp ⟨a, e⟩) (Nat.lt_irrefl _)
  have at_ : ∀ n a, (m.add h.length p) n = some a → (n = h.length ∧ a = p) ∨ (n < h.length ∧ m n = some a) := fun n a e => by
    have e' : (if n = h.length then some p else m n) = some a := e
    split at e'
    · cases e'; exact .inl ⟨‹_›, rfl⟩
    · exact .inr ⟨(rs.dom n).mp ⟨a, e'⟩, e'⟩
  have get : ∀ n, n < h.length → (h ++ [o])[n]? = h[n]? := fun n hn => List.getElem?_append_left hn
  have ro' := ro.mov x
  refine ⟨fun n => ?_, fun n n' a e1 e2 => ?_, fun n a e => ?_, fun n a xs e q => ?_, fun n a kvs e q => ?_, fun n a c fs e q => ?_, fun a e => rs.nok a (.inl e)⟩
  · rw [List.length_append, List.length_singleton]
    constructor
    · rintro ⟨a, e⟩
      rcases at_ n a e with ⟨e1, _⟩ | ⟨e1, _⟩ <;> omega
    · intro hn
      by_cases e : n = h.length
      · exact ⟨p, by show (if n = h.length then some p else m n) = some p; rw [if_pos e]⟩
      · obtain ⟨a, q⟩ := (rs.dom n).mpr (by omega)
        exact ⟨a, by show (if n = h.length then some p else m n) = some a; rw [if_neg e]; exact q⟩
  · rcases at_ n a e1 with ⟨h1, h2⟩ | ⟨h1, h2⟩ <;> rcases at_ n' a e2 with ⟨h3, h4⟩ | ⟨h3, h4⟩
    · omega
    · subst h2; exact absurd h4 (hf n')
    · subst h4; exact absurd h2 (hf n)
    · exact rs.inj n n' a h2 h4
  · rcases at_ n a e with ⟨h1, h2⟩ | ⟨h1, h2⟩
    · subst h2; exact ⟨ho, hp⟩
    · exact rs.trk n a h2
  · rcases at_ n a e with ⟨h1, h2⟩ | ⟨h1, h2⟩
    · subst h1 h2
      rw [List.getElem?_concat_length] at q
      cases q
      cases ro' with
      | lst r => exact ⟨_, hp, r⟩
    · rw [get n h1] at q
      obtain ⟨vs, h3, h4⟩ := rs.lst n a xs h2 q
      exact ⟨vs, h3, h4.mov x⟩
  · rcases at_ n a e with ⟨h1, h2⟩ | ⟨h1, h2⟩
    · subst h1 h2
      rw [List.getElem?_concat_length] at q
      cases q
      cases ro' with
      | dic r => exact ⟨_, hp, r⟩
    · rw [get n h1] at q
      obtain ⟨vs, h3, h4⟩ := rs.dic n a kvs h2 q
      exact ⟨vs, h3, h4.mov x⟩
  · rcases at_ n a e with ⟨h1, h2⟩ | ⟨h1, h2⟩
    · subst h1 h2
      rw [List.getElem?_concat_length] at q
      cases q
      cases ro' with
      | ins r => exact ⟨_, _, hp, r⟩
    · rw [get n h1] at q
      obtain ⟨dx, vs, h3, h4⟩ := rs.ins n a c fs h2 q
      exact ⟨dx, vs, h3, h4.mov x⟩
/-! ### a changeable object is changed -/
section
variable {Z : Zp} {m : Mp} {h : Hh} {H : Hp} {n : Nat} {a : Addr} {o : HO}
theorem RS.putX (rs : RS Z m h H) (hm : m n = some a) : Ext m H m (upd H a o) where
  up := fun _ _ q => q
  new := fun _ _ q => .inl q
  keep := fun b o' q f => by rw [upd_ne fun e => f n (by rw [e]; exact hm)]; exact q
  old := fun b o' q => by
    by_cases e : b = a
    · subst e; exact ⟨o, upd_same⟩
    · exact ⟨o', by rw [upd_ne e]; exact q⟩
  nu := fun _ h => h
  nn := fun _ h => .inl h
theorem RS.putM (rs : RS Z m h H) (hm : m n = some a) : Mov m H m (upd H a o) where
  ref := fun _ _ q => q
  rd := fun b o' q f => ⟨by rw [upd_ne fun e => f.1 n (by rw [e]; exact hm)]; exact q, f⟩
theorem RS.put (rs : RS Z m h H) (hm : m n = some a) {u : O} (ro : RO Z m (upd H a o) u o) : RS Z m (h.set n u) (upd H a o) := by
  have x := rs.putM (o := o) hm
  have hn : n < h.length := (rs.dom n).mp ⟨a, hm⟩
  have ne : ∀ k b, m k = some b → k ≠ n → b ≠ a := fun k b e kn z => kn (rs.inj k n b e (by rw [z]; exact hm))
  refine ⟨fun k => by rw [List.length_set]; exact rs.dom k, rs.inj, fun k b e => ?_, fun k b xs e q => ?_, fun k b kvs e q => ?_, fun k b c fs e q => ?_, fun b e => ?_⟩
  · obtain ⟨w, q⟩ := rs.trk k b e
    exact (rs.putX (o := o) hm).old b w q
  · by_cases hk : k = n
    · subst hk
      rw [List.getElem?_set_self hn] at q
      cases q
      rw [hm] at e; cases e
      cases ro with
      | lst r => exact ⟨_, upd_same, r⟩
    · rw [List.getElem?_set_ne (Ne.symm hk)] at q
      obtain ⟨vs, h1, h2⟩ := rs.lst k b xs e q
      exact ⟨vs, by rw [upd_ne (ne k b e hk)]; exact h1, h2.mov x⟩
  · by_cases hk : k = n
    · subst hk
      rw [List.getElem?_set_self hn] at q
      cases q
      rw [hm] at e; cases e
      cases ro with
      | dic r => exact ⟨_, upd_same, r⟩
    · rw [List.getElem?_set_ne (Ne.symm hk)] at q
      obtain ⟨vs, h1, h2⟩ := rs.dic k b kvs e q
      exact ⟨vs, by rw [upd_ne (ne k b e hk)]; exact h1, h2.mov x⟩
  · by_cases hk : k = n
    · subst hk
      rw [List.getElem?_set_self hn] at q
      cases q
      rw [hm] at e; cases e
      cases ro with
      | ins r => exact ⟨_, _, upd_same, r⟩
    · rw [List.getElem?_set_ne (Ne.symm hk)] at q
      obtain ⟨dx, vs, h1, h2⟩ := rs.ins k b c fs e q
      exact ⟨dx, vs, by rw [upd_ne (ne k b e hk)]; exact h1, h2.mov x⟩
  · obtain ⟨w, q⟩ := rs.nok b e
    exact (rs.putX (o := o) hm).old b w q
end
/-! ### the readings -/
/-- an exception as it lies: its class, its own dict -/
def RX (Z : Zp) (m : Mp) (H : Hp) (e : Ex) (c : Value) (dx : Option Addr) : Prop := c = .ref (Z.ca e.cls) ∧ match e.fld with
  | none => dx = none
  | some d => ∃ a f v, dx = some a ∧ H a = some (.xd [(f, v)]) ∧ RV Z m H d v
/-- what is given back, as data and as it lies -/
structure Rl (α β : Type) where
  r : Zp → Hp → Mp → Hp → α → β → Prop
  back : ∀ Z m H m1 H1 m' H' a b, Ext m H m1 H1 → r Z H1 m' H' a b → r Z H m' H' a b
def GP {α β : Type} (ρ : Rl α β) (Z : Zp) (W : WX) (m : Mp) (σ : St) (H : Hp) (Q : β → Hp → Prop) : R α → Prop
  | .ok a h' => ∀ m' H' b, Ext m H m' H' → RS Z m' h' H' → ρ.r Z H m' H' a b → Q b H'
  | .exc e h' => ∀ m' H' c dx, Ext m H m' H' → RS Z m' h' H' → RX Z m' H' e c dx → W c dx σ H'
  | .stk => False
theorem GP.ext {α β : Type} {ρ : Rl α β} {Z : Zp} {W : WX} {m m' : Mp} {σ : St} {H H' : Hp} {Q : β → Hp → Prop} {r : R α} (x : Ext m H m' H') (p : GP ρ Z W m σ H Q r) : GP ρ Z W m' σ H' Q r := by
  cases r with
  | ok d h => exact fun m2 H2 v y q w => p m2 H2 v (x.trans y) q (ρ.back _ _ _ _ _ _ _ _ _ x w)
  | exc e h => exact fun m2 H2 c dx y => p m2 H2 c dx (x.trans y)
  | stk => exact p
abbrev Sl := List (Option D)
def tG {α β : Type} (ρ : Rl α β) (Z : Zp) (W : WX) (f : Sl → Hh → R α) : St → Hp → (β → Hp → Prop) → Prop := fun σ H Q => ∃ m h s, RS Z m h H ∧ RSl Z m H s σ ∧ GP ρ Z W m σ H Q (f s h)
/-- one part's reading -/
theorem tG_then {α β α' β' : Type} {ρ : Rl α β} {ρ' : Rl α' β'} {Z : Zp} {W : WX} {m : Mp} {h : Hh} {s : Sl} {σ : St} {H : Hp} {f : Sl → Hh → R α} {g : α → Hh → R α'} {Q : β' → Hp → Prop} {Q' : β → Hp → Prop} (rs : RS Z m h H) (rl : RSl Z m H s σ)
    (p : GP ρ' Z W m σ H Q ((f s h).bind g))
    (k : ∀ m1 h1 H1 d v, Ext m H m1 H1 → RS Z m1 h1 H1 → RSl Z m1 H1 s σ → ρ.r Z H m1 H1 d v → GP ρ' Z W m1 σ H1 Q (g d h1) → Q' v H1) : tG ρ Z W f σ H Q' := by
  refine ⟨m, h, s, rs, rl, ?_⟩
  cases e : f s h with
  | ok d h1 =>
    rw [e] at p
    exact fun m1 H1 v x rs1 rv => k m1 h1 H1 d v x rs1 (rl.ext x) rv (GP.ext x p)
  | exc ex h1 =>
    rw [e] at p
    exact p
  | stk =>
    rw [e] at p
    exact p
/-- a value -/
def rhoE : Rl D V := ⟨fun Z _ m' H' d v => RV Z m' H' d v, fun _ _ _ _ _ _ _ _ _ _ h => h⟩
/-- a truth -/
def rhoB : Rl Bool Bool := ⟨fun _ _ _ _ d v => d = v, fun _ _ _ _ _ _ _ _ _ _ h => h⟩
/-- values -/
def rhoL : Rl (List D) (List V) := ⟨fun Z _ m' H' d v => RVs Z m' H' d v, fun _ _ _ _ _ _ _ _ _ _ h => h⟩
/-- what is wanted of a new object -/
def GF (Z : Zp) (W : WX) (m : Mp) (σ : St) (H : Hp) (Q : VK) : R O → Prop
  | .ok o h' => ∀ m' H' p ho, Ext m H m' H' → H p = none → H' p = some ho → Out m' p → RS Z (m'.ban p) h' H' → RO Z (m'.ban p) H' o ho → Q (.ref p) H'
  | .exc e h' => ∀ m' H' c dx, Ext m H m' H' → RS Z m' h' H' → RX Z m' H' e c dx → W c dx σ H'
  | .stk => False
def tFr (Z : Zp) (W : WX) (f : Sl → Hh → R O) : TE := fun σ H Q => ∃ m h s, RS Z m h H ∧ RSl Z m H s σ ∧ GF Z W m σ H Q (f s h)
theorem GF.ext {Z : Zp} {W : WX} {m m' : Mp} {σ : St} {H H' : Hp} {Q : VK} {r : R O} (x : Ext m H m' H') (p : GF Z W m σ H Q r) : GF Z W m' σ H' Q r := by
  cases r with
  | ok d h => exact fun m2 H2 q ho y hq => p m2 H2 q ho (x.trans y) (x.fresh hq)
  | exc e h => exact fun m2 H2 c dx y => p m2 H2 c dx (x.trans y)
  | stk => exact p
theorem tG_thenF {α β : Type} {ρ : Rl α β} {Z : Zp} {W : WX} {m : Mp} {h : Hh} {s : Sl} {σ : St} {H : Hp} {f : Sl → Hh → R α} {g : α → Hh → R O} {Q : VK} {Q' : β → Hp → Prop} (rs : RS Z m h H) (rl : RSl Z m H s σ)
    (p : GF Z W m σ H Q ((f s h).bind g))
    (k : ∀ m1 h1 H1 d v, Ext m H m1 H1 → RS Z m1 h1 H1 → RSl Z m1 H1 s σ → ρ.r Z H m1 H1 d v → GF Z W m1 σ H1 Q (g d h1) → Q' v H1) : tG ρ Z W f σ H Q' := by
  refine ⟨m, h, s, rs, rl, ?_⟩
  cases e : f s h with
  | ok d h1 =>
    rw [e] at p
    exact fun m1 H1 v x rs1 rv => k m1 h1 H1 d v x rs1 (rl.ext x) rv (GF.ext x p)
  | exc ex h1 =>
    rw [e] at p
    exact p
  | stk =>
    rw [e] at p
    exact p
/-- a list is laid here -/
theorem GF.laid {Z : Zp} {W : WX} {m : Mp} {σ : St} {H : Hp} {h : Hh} {Q : VK} {o : O} {ho : HO} (p : GF Z W m σ H Q (.ok o h)) (rs : RS Z m h H) {q : Addr} (hq : H q = none) (ro : RO Z m H o ho) : Q (.ref q) (upd H q ho) :=
  p m _ q ho (rs.laidX hq) hq upd_same (rs.outN hq) (rs.ban hq) (ro.mov (Mov.ban rs hq))
abbrev EF := Sl → Hh → R D
abbrev tE (Z : Zp) (W : WX) (f : EF) : TE := tG rhoE Z W f
abbrev tTt (Z : Zp) (W : WX) (f : Sl → Hh → R Bool) : TT := tG rhoB Z W f
abbrev tLs (Z : Zp) (W : WX) (f : Sl → Hh → R (List D)) : TA := tG rhoL Z W f
theorem _root_.L2.PE.imp {X : Cx} {e : Expr} {t t' : TE} (h : PE X e t) (i : ∀ σ H Q, t' σ H Q → t σ H Q) : PE X e t' := ⟨fun pins s σ H Q I q => h.run pins s σ H Q I (i σ H Q q)⟩
theorem _root_.L2.PT.imp {X : Cx} {e : Expr} {t t' : TT} (h : PT X e t) (i : ∀ σ H Q, t' σ H Q → t σ H Q) : PT X e t' := ⟨fun pins s σ H Q I q => h.run pins s σ H Q I (i σ H Q q)⟩
theorem _root_.L2.PW.imp {X : Cx} {e : Expr} {t t' : TT} (h : PW X e t) (i : ∀ σ H Q, t' σ H Q → t σ H Q) : PW X e t' := ⟨fun wh pins s σ H Q I q => h.run wh pins s σ H Q I (i σ H Q q)⟩
theorem _root_.L2.PA.imp {X : Cx} {e : List Expr} {t t' : TA} (h : PA X e t) (i : ∀ σ H Q, t' σ H Q → t σ H Q) : PA X e t' := ⟨fun pos pins s σ H Q I q => h.run pos pins s σ H Q I (i σ H Q q)⟩
theorem _root_.L2.PS.imp {X : Cx} {e : Stmt} {t t' : TS} (h : PS X e t) (i : ∀ D σ H, t' D σ H → t D σ H) : PS X e t' := ⟨fun pins s σ H D I q => h.run pins s σ H D I (i D σ H q)⟩
theorem _root_.L2.PSs.imp {X : Cx} {e : List Stmt} {t t' : TS} (h : PSs X e t) (i : ∀ D σ H, t' D σ H → t D σ H) : PSs X e t' := ⟨fun pins s σ H D I q => h.run pins s σ H D I (i D σ H q)⟩
def opt {α : Type} (o : Option α) (h : Hh) : R α := match o with
  | some d => .ok d h
  | none => .stk
@[simp] theorem opt_some {α : Type} (d : α) (h : Hh) : opt (some d) h = .ok d h := (rfl)
@[simp] theorem opt_none {α : Type} (h : Hh) : opt (none : Option α) h = .stk := (rfl)
theorem GP.opt {α β : Type} {ρ : Rl α β} {Z : Zp} {W : WX} {m : Mp} {σ : St} {H : Hp} {h : Hh} {Q : β → Hp → Prop} {o : Option α} (p : GP ρ Z W m σ H Q (opt o h)) : ∃ a, o = some a ∧ ∀ m' H' b, Ext m H m' H' → RS Z m' h H' → ρ.r Z H m' H' a b → Q b H' := by
  cases o with
  | none => exact p.elim
  | some a => exact ⟨a, rfl, p⟩
/-- give back here -/
theorem GP.fin {Z : Zp} {W : WX} {m : Mp} {σ : St} {H : Hp} {h : Hh} {Q : VK} {d : D} {v : V} (p : GP rhoE Z W m σ H Q (.ok d h)) (rs : RS Z m h H) (r : RV Z m H d v) : Q v H := p m H v Ext.refl rs r
/-- a new object as a value that never changes -/
def purE (f : Sl → Hh → R O) : EF := fun s h => (f s h).bind fun o h1 => match o with
  | .lst xs => .ok (.lst xs) h1
  | .dic kvs => .ok (.dic kvs) h1
  | .ins _ _ => .stk
/-- a new object as a changeable one -/
def newE (f : Sl → Hh → R O) : EF := fun s h => (f s h).bind fun o h1 => .ok (.ref h1.length) (h1 ++ [o])
theorem e_pur {X : Cx} {Z : Zp} {W : WX} {e : Expr} {f : Sl → Hh → R O} (he : PE X e (tFr Z W f)) : PE X e (tE Z W (purE f)) := he.imp fun σ H Q ⟨m, h, s, rs, rl, p⟩ => by
  refine ⟨m, h, s, rs, rl, ?_⟩
  unfold purE at p
  cases e : f s h with
  | ok o h1 =>
    rw [e] at p
    intro m' H' q ho x hq hq' hf rs' ro
    have rs2 := rs'.unban
    have out : Out m' q := hf
    cases ro with
    | lst r => exact p m' H' _ x rs2 (.lst hq' out (r.mov Mov.unban))
    | dic r => exact p m' H' _ x rs2 (.dic hq' out (r.mov Mov.unban))
    | ins r => exact p.elim
  | exc ex h1 => rw [e] at p; exact p
  | stk => rw [e] at p; exact p
theorem e_new {X : Cx} {Z : Zp} {W : WX} {e : Expr} {f : Sl → Hh → R O} (he : PE X e (tFr Z W f)) : PE X e (tE Z W (newE f)) := he.imp fun σ H Q ⟨m, h, s, rs, rl, p⟩ => by
  refine ⟨m, h, s, rs, rl, ?_⟩
  unfold newE at p
  cases e : f s h with
  | ok o h1 =>
    rw [e] at p
    intro m' H' q ho x hq hq' hf rs' ro
    have dm : ∀ n a, m' n = some a → n < h1.length := fun n a z => (rs'.dom n).mp ⟨a, z⟩
    refine p (m'.add h1.length q) H' _ ⟨fun n a z => ?_, fun n a z => ?_, x.keep, x.old, x.nu, x.nn⟩ (rs'.add hf.1 hq' ro) (.ref ?_)
    · have z' := x.up n a z
      show (if n = h1.length then some q else m' n) = some a
      have := dm n a z'
      rw [if_neg (by omega)]
      exact z'
    · have z' : (if n = h1.length then some q else m' n) = some a := z
      split at z'
      · cases z'; exact .inr hq
      · exact x.new n a z'
    · show (if h1.length = h1.length then some q else m' h1.length) = some q
      rw [if_pos rfl]
  | exc ex h1 => rw [e] at p; exact p
  | stk => rw [e] at p; exact p
end Ev
set_option maxRecDepth 100000
namespace Ev
open PySem PySem.Spec L2
open PyProof.Rows hiding St
def lofD (h : Hh) : D → Option (List D)
  | .lst xs => some xs
  | .ref n => match h[n]? with
    | some (.lst xs) => some xs
    | _ => none
  | _ => none
theorem lof_ok {Z : Zp} {m : Mp} {h : Hh} {H : Hp} {d : D} {v : V} {xs : List D} (rs : RS Z m h H) (r : RV Z m H d v) (e : lofD h d = some xs) : ∃ a vs, v = .ref a ∧ H a = some (.lst vs) ∧ RVs Z m H xs vs := by
  cases r with
  | lst h1 h2 h3 => cases e; exact ⟨_, _, rfl, h1, h3⟩
  | ref hm =>
    rename_i n a
    unfold lofD at e
    simp only at e
    split at e
    · rename_i ys q
      cases e
      obtain ⟨vs, h1, h2⟩ := rs.lst _ _ _ hm q
      exact ⟨a, vs, rfl, h1, h2⟩
    · cases e
  | _ => cases e
/-- int products let -/
def mulOk (i j : Int) : Prop := CMul i j ∨ CMulW i j
instance (i j : Int) : Decidable (mulOk i j) := by unfold mulOk CMul CMulW; exact inferInstance
def divOk (i j : Int) : Prop := j ≠ 0 ∧ j.natAbs.log2 < 9000
instance (i j : Int) : Decidable (divOk i j) := by unfold divOk; exact inferInstance
def powOk (i j : Int) : Prop := CPow i j
instance (i j : Int) : Decidable (powOk i j) := by unfold powOk CPow; exact inferInstance
inductive BO where | add | sub | mul | fdiv | mod | pow
def BO.op : BO → Operator
  | .add => .Add | .sub => .Sub | .mul => .Mult | .fdiv => .FloorDiv | .mod => .Mod | .pow => .Pow
def lim (n : Nat) : Prop := n ≤ sizeLine
instance (n : Nat) : Decidable (lim n) := by unfold lim; exact inferInstance
def gd (c : Prop) [Decidable c] (d : D) : Option D := if c then some d else none
theorem gd_some {c : Prop} [Decidable c] {d z : D} (h : gd c d = some z) : c ∧ d = z := by
  unfold gd at h; split at h
  · exact ⟨‹c›, Option.some.inj h⟩
  · cases h
@[simp] theorem gd_pos {c : Prop} [Decidable c] {d : D} (h : c) : gd c d = some d := if_pos h
def addL (h : Hh) (x y : D) : Option D := match lofD h x, lofD h y with
  | some xs, some ys => gd (lim (xs.length + ys.length)) (.lst (xs ++ ys))
  | _, _ => none
def addD (h : Hh) : D → D → Option D
  | .int i, .int j => some (.int (i + j))
  | .str i, .str j => gd (lim (i.length + j.length)) (.str (i ++ j))
  | .tup xs, .tup ys => gd (lim (xs.length + ys.length)) (.tup (xs ++ ys))
  | .lst xs, y => addL h (.lst xs) y
  | .ref n, y => addL h (.ref n) y
  | _, _ => none
def subD : D → D → Option D
  | .int i, .int j => some (.int (i - j))
  | _, _ => none
def repL (h : Hh) (x : D) (k : Int) : Option D := match lofD h x with
  | some xs => gd (-(2 ^ 63) ≤ k ∧ k < 2 ^ 63 ∧ lim (xs.length * k.toNat)) (.lst (List.replicate k.toNat xs).flatten)
  | none => none
def mulD (h : Hh) : D → D → Option D
  | .int i, .int j => gd (mulOk i j) (.int (i * j))
  | .tup xs, .int k => gd (xs ≠ [] ∧ 2 ≤ k ∧ k ≤ 1000 ∧ xs.length ≤ 1000) (.tup (List.replicate k.toNat xs).flatten)
  | .lst xs, .int k => repL h (.lst xs) k
  | .ref n, .int k => repL h (.ref n) k
  | _, _ => none
def fdivD : D → D → Option D
  | .int i, .int j => gd (divOk i j) (.int (i.fdiv j))
  | _, _ => none
def modD : D → D → Option D
  | .int i, .int j => gd (j ≠ 0) (.int (i.fmod j))
  | _, _ => none
def powD : D → D → Option D
  | .int i, .int j => gd (powOk i j) (.int (i ^ j.toNat))
  | _, _ => none
def binD (op : BO) (h : Hh) (x y : D) : Option D := match op with
  | .add => addD h x y
  | .sub => subD x y
  | .mul => mulD h x y
  | .fdiv => fdivD x y
  | .mod => modD x y
  | .pow => powD x y
/-- what is wanted of a pure result -/
def PQ (Z : Zp) (m : Mp) (h : Hh) (H : Hp) (z : D) (Q : VK) : Prop := ∀ m' H' v, Ext m H m' H' → RS Z m' h H' → RV Z m' H' z v → Q v H'
theorem PQ.here {Z : Zp} {m : Mp} {h : Hh} {H : Hp} {z : D} {v : V} {Q : VK} (q : PQ Z m h H z Q) (rs : RS Z m h H) (r : RV Z m H z v) : Q v H := q m H v Ext.refl rs r
theorem PQ.tup {Z : Zp} {m : Mp} {h : Hh} {H : Hp} {ds : List D} {vs : List V} {Q : VK} (q : PQ Z m h H (.tup ds) Q) (rs : RS Z m h H) (r : RVs Z m H ds vs) {p : Addr} (hp : H p = none) : Q (.ref p) (upd H p (.tup vs)) :=
  q m _ _ (rs.laidX hp) (rs.laid hp) (rs.newTup hp r)
theorem PQ.lst {Z : Zp} {m : Mp} {h : Hh} {H : Hp} {ds : List D} {vs : List V} {Q : VK} (q : PQ Z m h H (.lst ds) Q) (rs : RS Z m h H) (r : RVs Z m H ds vs) {p : Addr} (hp : H p = none) : Q (.ref p) (upd H p (.lst vs)) :=
  q m _ _ (rs.laidX hp) (rs.laid hp) (rs.newLst hp r)
def r2Of (Z : Zp) (f : Hh → D → D → Option D) : R2 := fun x y H Q => ∃ m h d e z, RS Z m h H ∧ RV Z m H d x ∧ RV Z m H e y ∧ f h d e = some z ∧ PQ Z m h H z Q
theorem rep_rvs {Z : Zp} {m : Mp} {H : Hp} {ds : List D} {vs : List V} (r : RVs Z m H ds vs) : ∀ k : Nat, RVs Z m H (List.replicate k ds).flatten (List.replicate k vs).flatten
  | 0 => .nil
  | k + 1 => by
    rw [List.replicate_succ, List.replicate_succ, List.flatten_cons, List.flatten_cons]
    exact r.append (rep_rvs r k)
section
variable {X : Cx} {Z : Zp} (hK : Z.K = X.K)
theorem RVs.nil_iff {m : Mp} {H : Hp} {ds : List D} {vs : List V} (r : RVs Z m H ds vs) : ds = [] ↔ vs = [] := by
  cases r <;> simp
theorem addL_ok {pins : List (Addr × Obj)} {s : Shared} {σ : St} {H : Hp} {x y : V} {v u : Value} {Q : VK} {m : Mp} {h : Hh} {z : D} (I : Inv X pins σ H s) (rx : RelV x v) (ry : RelV y u) (rs : RS Z m h H) (q : PQ Z m h H z Q)
    {d e : D} (rd : RV Z m H d x) (re : RV Z m H e y) (hz : addL h d e = some z) : wpAny (model X.prog X.w) X.A (binaryOp .Add v u) (EP X pins σ Q) X.xe s := by
  unfold addL at hz
  split at hz
  · rename_i xs ys e1 e2
    obtain ⟨hl, rfl⟩ := gd_some hz
    obtain ⟨a, vs, rfl, h1, h2⟩ := lof_ok rs rd e1
    obtain ⟨b, ws, rfl, h3, h4⟩ := lof_ok rs re e2
    refine op_cat pins s σ H _ _ v u Q I rx ry ⟨a, b, vs, ws, rfl, rfl, h1, h3, ?_, fun p hp => q.lst rs (h2.append h4) hp⟩
    rw [← h2.length, ← h4.length]; exact hl
  · cases hz
theorem repL_ok {pins : List (Addr × Obj)} {s : Shared} {σ : St} {H : Hp} {x : V} {v u : Value} {Q : VK} {m : Mp} {h : Hh} {z : D} (I : Inv X pins σ H s) (rx : RelV x v) {k : Int} (ry : RelV (.int k) u) (rs : RS Z m h H) (q : PQ Z m h H z Q)
    {d : D} (rd : RV Z m H d x) (hz : repL h d k = some z) : wpAny (model X.prog X.w) X.A (binaryOp .Mult v u) (EP X pins σ Q) X.xe s := by
  unfold repL at hz
  split at hz
  · rename_i xs e1
    obtain ⟨hl, rfl⟩ := gd_some hz
    obtain ⟨a, vs, rfl, h1, h2⟩ := lof_ok rs rd e1
    refine op_rep pins s σ H _ _ v u Q I rx ry ⟨a, _, vs, rfl, rfl, h1, hl.1, hl.2.1, ?_, fun p hp => q.lst rs (rep_rvs h2 _) hp⟩
    rw [← h2.length]; exact hl.2.2
  · cases hz
include hK in
theorem add_ok : OpR X (binaryOp .Add) (r2Of Z addD) := by
  intro pins s σ H x y v u Q I rx ry ⟨m, h, d, e, z, rs, rd, re, hz, q⟩
  unfold addD at hz
  split at hz
  · cases hz; cases rd; cases re
    exact op_add pins s σ H _ _ v u Q I rx ry ⟨_, _, rfl, rfl, q.here rs (.int _)⟩
  · obtain ⟨hl, rfl⟩ := gd_some hz
    cases rd; cases re
    exact op_add_str pins s σ H _ _ v u Q I rx ry ⟨_, _, rfl, rfl, hl, q.here rs (.str _)⟩
  · obtain ⟨hl, rfl⟩ := gd_some hz
    cases rd with
    | tup st1 r1 => cases re with
      | tup st2 r2 =>
        refine op_catA pins s σ H _ _ v u Q I rx ry ⟨_, _, _, _, rfl, rfl, hK ▸ st1.sq, hK ▸ st2.sq, ?_, fun e => ?_, fun e1 e2 => ?_, fun e1 e2 p hp => ?_⟩
        · rw [← r1.length, ← r2.length]; exact hl
        · have := r1.nil_iff.mpr e
          subst this
          exact q.here rs (.tup st2 r2)
        · have := r2.nil_iff.mpr e2
          subst this
          rw [List.append_nil] at q
          exact q.here rs (.tup st1 r1)
        · exact q.tup rs (r1.append r2) hp
  · exact addL_ok I rx ry rs q rd re hz
  · exact addL_ok I rx ry rs q rd re hz
  · cases hz
theorem sub_ok : OpR X (binaryOp .Sub) (r2Of Z fun _ => subD) := by
  intro pins s σ H x y v u Q I rx ry ⟨m, h, d, e, z, rs, rd, re, hz, q⟩
  change subD d e = some z at hz
  unfold subD at hz
  split at hz
  · cases hz; cases rd; cases re
    exact op_sub pins s σ H _ _ v u Q I rx ry ⟨_, _, rfl, rfl, q.here rs (.int _)⟩
  · cases hz
include hK in
theorem mul_ok : OpR X (binaryOp .Mult) (r2Of Z mulD) := by
  intro pins s σ H x y v u Q I rx ry ⟨m, h, d, e, z, rs, rd, re, hz, q⟩
  unfold mulD at hz
  split at hz
  · obtain ⟨hl, rfl⟩ := gd_some hz
    cases rd; cases re
    rcases hl with hl | hl
    · exact op_mul pins s σ H _ _ v u Q I rx ry ⟨_, _, rfl, rfl, hl, q.here rs (.int _)⟩
    · exact op_mulW pins s σ H _ _ v u Q I rx ry ⟨_, _, rfl, rfl, hl, q.here rs (.int _)⟩
  · obtain ⟨hl, rfl⟩ := gd_some hz
    cases rd with
    | tup st1 r1 =>
      cases re
      refine op_repT pins s σ H _ _ v u Q I rx ry ⟨_, _, _, rfl, rfl, hK ▸ st1.sq, fun e => hl.1 (r1.nil_iff.mpr e), hl.2.1, hl.2.2.1, ?_, fun p hp => q.tup rs (rep_rvs r1 _) hp⟩
      rw [← r1.length]; exact hl.2.2.2
  · cases re
    exact repL_ok I rx ry rs q rd hz
  · cases re
    exact repL_ok I rx ry rs q rd hz
  · cases hz
theorem fdiv_ok : OpR X (binaryOp .FloorDiv) (r2Of Z fun _ => fdivD) := by
  intro pins s σ H x y v u Q I rx ry ⟨m, h, d, e, z, rs, rd, re, hz, q⟩
  change fdivD d e = some z at hz
  unfold fdivD at hz
  split at hz
  · obtain ⟨hl, rfl⟩ := gd_some hz
    cases rd; cases re
    exact (opI (C := divOk) (g := fun i j => i.fdiv j) fun i j _ _ _ _ _ hc q => floordiv_int hc.1 q (.inl (PyProof.noPylong_of_log2 hc.2))) pins s σ H _ _ v u Q I rx ry ⟨_, _, rfl, rfl, hl, q.here rs (.int _)⟩
  · cases hz
theorem mod_ok : OpR X (binaryOp .Mod) (r2Of Z fun _ => modD) := by
  intro pins s σ H x y v u Q I rx ry ⟨m, h, d, e, z, rs, rd, re, hz, q⟩
  change modD d e = some z at hz
  unfold modD at hz
  split at hz
  · obtain ⟨hl, rfl⟩ := gd_some hz
    cases rd; cases re
    exact op_modN pins s σ H _ _ v u Q I rx ry ⟨_, _, rfl, rfl, hl, q.here rs (.int _)⟩
  · cases hz
theorem pow_ok : OpR X (binaryOp .Pow) (r2Of Z fun _ => powD) := by
  intro pins s σ H x y v u Q I rx ry ⟨m, h, d, e, z, rs, rd, re, hz, q⟩
  change powD d e = some z at hz
  unfold powD at hz
  split at hz
  · obtain ⟨hl, rfl⟩ := gd_some hz
    cases rd; cases re
    exact op_pow pins s σ H _ _ v u Q I rx ry ⟨_, _, rfl, rfl, hl, q.here rs (.int _)⟩
  · cases hz
include hK in
theorem bin_ok (op : BO) : OpR X (binaryOp op.op) (r2Of Z (binD op)) := by
  cases op with
  | add => exact add_ok hK
  | sub => exact sub_ok
  | mul => exact mul_ok hK
  | fdiv => exact fdiv_ok
  | mod => exact mod_ok
  | pow => exact pow_ok
/-! ### comparisons -/
mutual
def pyD : D → Option PyData
  | .non => some .none
  | .bl b => some (.bool b)
  | .int i => some (.int i)
  | .str x => some (.str x)
  | .tup xs => (pyDs xs).map .tuple
  | .lst xs => (pyDs xs).map .list
  | _ => none
def pyDs : List D → Option (List PyData)
  | [] => some []
  | x :: xs => match pyD x, pyDs xs with
    | some a, some b => some (a :: b)
    | _, _ => none
end
/-- a changeable list by its items -/
def pyH (h : Hh) (d : D) : Option PyData := match d with
  | .ref n => match h[n]? with
    | some (.lst xs) => (pyDs xs).map .list
    | _ => none
  | d => pyD d
mutual
theorem py_dp {m : Mp} {H : Hp} : ∀ {d : D} {v : V} {p : PyData}, RV Z m H d v → pyD d = some p → Dp Z.K H v p
  | _, _, _, .non, e => by cases e; exact .non
  | _, _, _, .bl b, e => by cases e; exact .bl b
  | _, _, _, .int b, e => by cases e; exact .int b
  | _, _, _, .str b, e => by cases e; exact .str b
  | _, _, _, .ty b, e => by cases e
  | _, _, _, .tup h r, e => by
    unfold pyD at e
    obtain ⟨q, e1, e2⟩ := Option.map_eq_some_iff.mp e
    subst e2
    exact .tup h.sq (py_dps r e1)
  | _, _, _, .lst h o r, e => by
    unfold pyD at e
    obtain ⟨q, e1, e2⟩ := Option.map_eq_some_iff.mp e
    subst e2
    exact .lst (SqL.of h) (py_dps r e1)
  | _, _, _, .frl _ _, e => by cases e
  | _, _, _, .dic _ _ _, e => by cases e
  | _, _, _, .ref _, e => by cases e
  | _, _, _, .fn _, e => by cases e
  | _, _, _, .cls _, e => by cases e
theorem py_dps {m : Mp} {H : Hp} : ∀ {ds : List D} {vs : List V} {ps : List PyData}, RVs Z m H ds vs → pyDs ds = some ps → DpAll Z.K H vs ps
  | _, _, _, .nil, e => by cases e; exact .nil
  | _, _, _, .cons r t, e => by
    unfold pyDs at e
    split at e
    · rename_i a b e1 e2
      cases e
      exact .cons (py_dp r e1) (py_dps t e2)
    · cases e
end
theorem pyH_dp {m : Mp} {h : Hh} {H : Hp} {d : D} {v : V} {p : PyData} (rs : RS Z m h H) (r : RV Z m H d v) (e : pyH h d = some p) : Dp Z.K H v p := by
  unfold pyH at e
  split at e
  · rename_i n
    split at e
    · rename_i xs q
      obtain ⟨ps, e1, e2⟩ := Option.map_eq_some_iff.mp e
      subst e2
      cases r with
      | ref hm =>
        obtain ⟨vs, h1, h2⟩ := rs.lst _ _ _ hm q
        exact .lst (SqL.of h1) (py_dps h2 e1)
    · cases e
  · exact py_dp r e
/-- == as Python has it -/
def eqD (h : Hh) (x y : D) : Option Bool := match pyH h x, pyH h y with
  | some a, some b => if SeqAt.shaped a = true ∧ SeqAt.shaped b = true then some (PyData.eqv a b) else none
  | _, _ => none
def inSeq (x : PyData) (ys : List PyData) : Bool := ys.any fun z => PyData.eqv z x
/-- x in y -/
def inD (h : Hh) (x y : D) : Option Bool := match y with
  | .str j => match x with
    | .str i => some (!(Builtin.Str.occurrences j i 0 j.length 1).isEmpty)
    | _ => none
  | y => match pyD x, pyH h y with
    | some a, some (.list bs) => if SeqAt.shaped a = true ∧ SeqAt.shaped (.list bs) = true then some (inSeq a bs) else none
    | some a, some (.tuple bs) => if SeqAt.shaped a = true ∧ SeqAt.shaped (.tuple bs) = true then some (inSeq a bs) else none
    | _, _ => none
inductive CO where | eq | ne | lt | le | gt | ge | is_ | isn | in_ | nin
def CO.op : CO → CmpOp
  | .eq => .Eq | .ne => .NotEq | .lt => .Lt | .le => .LtE | .gt => .Gt | .ge => .GtE | .is_ => .Is | .isn => .IsNot | .in_ => .In | .nin => .NotIn
def ltD : D → D → Option Bool
  | .int i, .int j => some (decide (i < j))
  | .str i, .str j => some (decide (i.cps.toList < j.cps.toList))
  | _, _ => none
def leD : D → D → Option Bool
  | .int i, .int j => some (decide (i ≤ j))
  | _, _ => none
def isD : D → D → Option Bool
  | .non, .non => some true
  | .bl a, .bl b => some (decide (a = b))
  | _, .non => some false
  | _, _ => none
def cmpB (op : CO) (h : Hh) (x y : D) : Option Bool := match op with
  | .eq => eqD h x y
  | .ne => (eqD h x y).map not
  | .lt => ltD x y
  | .le => leD x y
  | .gt => ltD y x
  | .ge => leD y x
  | .is_ => isD x y
  | .isn => (isD x y).map not
  | .in_ => inD h x y
  | .nin => (inD h x y).map not
def cmpD (op : CO) (h : Hh) (x y : D) : Option D := (cmpB op h x y).map .bl
/-- a comparison's rule -/
def rCmp (Z : Zp) (f : Hh → D → D → Option Bool) : R2 := fun x y H Q => ∃ m h d e b, RS Z m h H ∧ RV Z m H d x ∧ RV Z m H e y ∧ f h d e = some b ∧ Q (.bl b) H
theorem rCmp_of {f : Hh → D → D → Option Bool} {x y : V} {H : Hp} {Q : VK} (q : r2Of Z (fun h x y => (f h x y).map .bl) x y H Q) : rCmp Z f x y H Q := by
  obtain ⟨m, h, d, e, z, rs, rd, re, hz, q⟩ := q
  obtain ⟨b, e1, e2⟩ := Option.map_eq_some_iff.mp hz
  subst e2
  exact ⟨m, h, d, e, b, rs, rd, re, e1, q.here rs (.bl b)⟩
theorem eqD_some {m : Mp} {h : Hh} {H : Hp} {d e : D} {x y : V} {b : Bool} (rs : RS Z m h H) (rd : RV Z m H d x) (re : RV Z m H e y) (hz : eqD h d e = some b) :
    ∃ p q, Dp Z.K H x p ∧ Dp Z.K H y q ∧ SeqAt.shaped p = true ∧ SeqAt.shaped q = true ∧ b = PyData.eqv p q := by
  unfold eqD at hz
  split at hz
  · rename_i a c e1 e2
    split at hz
    · rename_i hs
      cases hz
      exact ⟨a, c, pyH_dp rs rd e1, pyH_dp rs re e2, hs.1, hs.2, rfl⟩
    · cases hz
  · cases hz
include hK in
theorem eq_ok (hu : X.A.units + 64 < cLine) : OpR X (compareOp .Eq) (rCmp Z eqD) := by
  intro pins s σ H x y v u Q I rx ry ⟨m, h, d, e, b, rs, rd, re, hz, q⟩
  obtain ⟨p, r, h1, h2, h3, h4, rfl⟩ := eqD_some rs rd re hz
  exact op_eqD hu pins s σ H x y v u Q I rx ry ⟨p, r, hK ▸ h1, hK ▸ h2, h3, h4, q⟩
include hK in
theorem ne_ok (hu : X.A.units + 64 < cLine) : OpR X (compareOp .NotEq) (rCmp Z fun h x y => (eqD h x y).map not) := by
  intro pins s σ H x y v u Q I rx ry ⟨m, h, d, e, b, rs, rd, re, hz, q⟩
  obtain ⟨b', e1, e2⟩ := Option.map_eq_some_iff.mp hz
  obtain ⟨p, r, h1, h2, h3, h4, rfl⟩ := eqD_some rs rd re e1
  subst e2
  exact op_neD hu pins s σ H x y v u Q I rx ry ⟨p, r, hK ▸ h1, hK ▸ h2, h3, h4, q⟩
theorem lt_ok : OpR X (compareOp .Lt) (rCmp Z fun _ => ltD) := by
  intro pins s σ H x y v u Q I rx ry ⟨m, h, d, e, b, rs, rd, re, hz, q⟩
  change ltD d e = some b at hz
  unfold ltD at hz
  split at hz
  · cases hz; cases rd; cases re
    exact op_lt pins s σ H _ _ v u Q I rx ry ⟨_, _, rfl, rfl, q⟩
  · cases hz; cases rd; cases re
    exact op_lt_str pins s σ H _ _ v u Q I rx ry ⟨_, _, rfl, rfl, q⟩
  · cases hz
theorem gt_ok : OpR X (compareOp .Gt) (rCmp Z fun _ x y => ltD y x) := by
  intro pins s σ H x y v u Q I rx ry ⟨m, h, d, e, b, rs, rd, re, hz, q⟩
  change ltD e d = some b at hz
  unfold ltD at hz
  split at hz
  · cases hz; cases rd; cases re
    exact op_gt pins s σ H _ _ v u Q I rx ry ⟨_, _, rfl, rfl, q⟩
  · cases hz; cases rd; cases re
    exact op_gt_str pins s σ H _ _ v u Q I rx ry ⟨_, _, rfl, rfl, q⟩
  · cases hz
theorem le_ok : OpR X (compareOp .LtE) (rCmp Z fun _ => leD) := by
  intro pins s σ H x y v u Q I rx ry ⟨m, h, d, e, b, rs, rd, re, hz, q⟩
  change leD d e = some b at hz
  unfold leD at hz
  split at hz
  · cases hz; cases rd; cases re
    exact op_le pins s σ H _ _ v u Q I rx ry ⟨_, _, rfl, rfl, q⟩
  · cases hz
theorem ge_ok : OpR X (compareOp .GtE) (rCmp Z fun _ x y => leD y x) := by
  intro pins s σ H x y v u Q I rx ry ⟨m, h, d, e, b, rs, rd, re, hz, q⟩
  change leD e d = some b at hz
  unfold leD at hz
  split at hz
  · cases hz; cases rd; cases re
    exact op_ge pins s σ H _ _ v u Q I rx ry ⟨_, _, rfl, rfl, q⟩
  · cases hz
end
end Ev
set_option maxRecDepth 100000
namespace Ev
open PySem PySem.Spec L2
open PyProof.Rows hiding St
section
variable {X : Cx} {Z : Zp} (hK : Z.K = X.K)
theorem in_str_some {h : Hh} {x : D} {j : Str} {b : Bool} (e : inD h x (.str j) = some b) : ∃ i, x = .str i ∧ b = !(Builtin.Str.occurrences j i 0 j.length 1).isEmpty := by
  unfold inD at e
  simp only at e
  split at e
  · exact ⟨_, rfl, (Option.some.inj e).symm⟩
  · cases e
theorem in_seq_some {m : Mp} {h : Hh} {H : Hp} {d e : D} {x y : V} {b : Bool} (rs : RS Z m h H) (rd : RV Z m H d x) (re : RV Z m H e y) (hz : inD h d e = some b) :
    (∃ i j, x = .str i ∧ y = .str j ∧ b = !(Builtin.Str.occurrences j i 0 j.length 1).isEmpty) ∨
    ∃ p qs, Dp Z.K H x p ∧ (Dp Z.K H y (.list qs) ∧ SeqAt.shaped (.list qs) = true ∨ Dp Z.K H y (.tuple qs) ∧ SeqAt.shaped (.tuple qs) = true) ∧ SeqAt.shaped p = true ∧ b = inSeq p qs := by
  unfold inD at hz
  split at hz
  · split at hz
    · cases hz; cases rd; cases re
      exact .inl ⟨_, _, rfl, rfl, rfl⟩
    · cases hz
  · split at hz
    · rename_i e1 e2
      split at hz
      · rename_i hs
        cases hz
        exact .inr ⟨_, _, py_dp rd e1, .inl ⟨pyH_dp rs re e2, hs.2⟩, hs.1, rfl⟩
      · cases hz
    · rename_i e1 e2
      split at hz
      · rename_i hs
        cases hz
        exact .inr ⟨_, _, py_dp rd e1, .inr ⟨pyH_dp rs re e2, hs.2⟩, hs.1, rfl⟩
      · cases hz
    · cases hz
theorem canAllT {qs : List PyData} (h : SeqAt.shaped (.tuple qs) = true) : PyData.canLayAll0 qs = true := SeqAt.canLay_of_shaped h
include hK in
theorem in_ok (hu : X.A.units + 65 < cLine) : OpR X (compareOp .In) (rCmp Z inD) := by
  intro pins s σ H x y v u Q I rx ry ⟨m, h, d, e, b, rs, rd, re, hz, q⟩
  rcases in_seq_some rs rd re hz with ⟨i, j, rfl, rfl, rfl⟩ | ⟨p, qs, h1, h2, h3, rfl⟩
  · exact op_in_str pins s σ H _ _ v u Q I rx ry ⟨_, _, rfl, rfl, q⟩
  · rw [hK] at h1 h2
    obtain ⟨as, r1⟩ := Dp.reads I p x v h1 rx
    rcases h2 with ⟨h2, h4⟩ | ⟨h2, h4⟩
    · obtain ⟨bs, r2⟩ := Dp.reads I (.list qs) y u h2 ry
      exact SeqAt.in_list_reads r2 r1 (SeqAt.canLay_of_shaped h4) (SeqAt.canLay_of_shaped h3) (room_in_shaped h3 hu) ⟨.bl _, H, I, rfl, q⟩
    · obtain ⟨bs, r2⟩ := Dp.reads I (.tuple qs) y u h2 ry
      exact SeqAt.in_tuple_reads r2 r1 (canAllT h4) (SeqAt.canLay_of_shaped h3) (room_in_shaped h3 hu) ⟨.bl _, H, I, rfl, q⟩
include hK in
theorem nin_ok (hu : X.A.units + 65 < cLine) : OpR X (compareOp .NotIn) (rCmp Z fun h x y => (inD h x y).map not) := by
  intro pins s σ H x y v u Q I rx ry ⟨m, h, d, e, b, rs, rd, re, hz, q⟩
  obtain ⟨b', e1, e2⟩ := Option.map_eq_some_iff.mp hz
  subst e2
  rcases in_seq_some rs rd re e1 with ⟨i, j, rfl, rfl, rfl⟩ | ⟨p, qs, h1, h2, h3, rfl⟩
  · exact op_notIn_str pins s σ H _ _ v u Q I rx ry ⟨_, _, rfl, rfl, q⟩
  · rw [hK] at h1 h2
    obtain ⟨as, r1⟩ := Dp.reads I p x v h1 rx
    rcases h2 with ⟨h2, h4⟩ | ⟨h2, h4⟩
    · obtain ⟨bs, r2⟩ := Dp.reads I (.list qs) y u h2 ry
      exact SeqAt.notIn_list_reads r2 r1 (SeqAt.canLay_of_shaped h4) (SeqAt.canLay_of_shaped h3) (room_in_shaped h3 hu) ⟨.bl _, H, I, rfl, q⟩
    · obtain ⟨bs, r2⟩ := Dp.reads I (.tuple qs) y u h2 ry
      exact SeqAt.notIn_tuple_reads r2 r1 (canAllT h4) (SeqAt.canLay_of_shaped h3) (room_in_shaped h3 hu) ⟨.bl _, H, I, rfl, q⟩
theorem isD_some {m : Mp} {H : Hp} {d e : D} {x y : V} {b : Bool} (rd : RV Z m H d x) (re : RV Z m H e y) (hz : isD d e = some b) : (y = .non ∧ b = decide (x = .non)) ∨ ∃ i j, x = .bl i ∧ y = .bl j ∧ b = decide (i = j) := by
  unfold isD at hz
  split at hz
  · cases hz; cases rd; cases re; exact .inl ⟨rfl, rfl⟩
  · cases hz; cases rd; cases re; exact .inr ⟨_, _, rfl, rfl, rfl⟩
  · rename_i hn
    cases hz; cases re
    refine .inl ⟨rfl, ?_⟩
    have : x ≠ .non := fun e => by
      subst e
      cases rd
      exact hn rfl
    simp [this]
  · cases hz
theorem is_ok : OpR X (compareOp .Is) (rCmp Z fun _ => isD) := by
  intro pins s σ H x y v u Q I rx ry ⟨m, h, d, e, b, rs, rd, re, hz, q⟩
  rcases isD_some rd re hz with ⟨rfl, rfl⟩ | ⟨i, j, rfl, rfl, rfl⟩
  · exact op_isN pins s σ H _ _ v u Q I rx ry ⟨rfl, q⟩
  · exact op_is_bl pins s σ H _ _ v u Q I rx ry ⟨_, _, rfl, rfl, q⟩
theorem isn_ok : OpR X (compareOp .IsNot) (rCmp Z fun _ x y => (isD x y).map not) := by
  intro pins s σ H x y v u Q I rx ry ⟨m, h, d, e, b, rs, rd, re, hz, q⟩
  obtain ⟨b', e1, e2⟩ := Option.map_eq_some_iff.mp hz
  subst e2
  rcases isD_some rd re e1 with ⟨rfl, rfl⟩ | ⟨i, j, rfl, rfl, rfl⟩
  · exact op_notN pins s σ H _ _ v u Q I rx ry ⟨rfl, q⟩
  · exact op_isnot_bl pins s σ H _ _ v u Q I rx ry ⟨_, _, rfl, rfl, q⟩
include hK in
theorem cmp_ok (hu : X.A.units + 65 < cLine) (op : CO) : OpR X (compareOp op.op) (rCmp Z (cmpB op)) := by
  have hu2 : X.A.units + 64 < cLine := by omega
  cases op with
  | eq => exact eq_ok hK hu2
  | ne => exact ne_ok hK hu2
  | lt => exact lt_ok
  | le => exact le_ok
  | gt => exact gt_ok
  | ge => exact ge_ok
  | is_ => exact is_ok
  | isn => exact isn_ok
  | in_ => exact in_ok hK hu
  | nin => exact nin_ok hK hu
/-! ### index, slice -/
/-- the items of a tuple or list -/
def sofD (h : Hh) : D → Option (List D)
  | .tup xs => some xs
  | d => lofD h d
theorem sof_ok {m : Mp} {h : Hh} {H : Hp} {d : D} {v : V} {xs : List D} (rs : RS Z m h H) (r : RV Z m H d v) (e : sofD h d = some xs) : ∃ a vs, v = .ref a ∧ (SqT Z.K H a vs ∨ H a = some (.lst vs)) ∧ RVs Z m H xs vs := by
  unfold sofD at e
  split at e
  · cases e
    cases r with
    | tup st r1 => exact ⟨_, _, rfl, .inl st.sq, r1⟩
  · obtain ⟨a, vs, h1, h2, h3⟩ := lof_ok rs r e
    exact ⟨a, vs, h1, .inr h2, h3⟩
def ixD (h : Hh) (x y : D) : Option D := match x, y with
  | .str z, .int i => if lim z.length then (atI z.cps.toList i).map fun c => .str ⟨#[c]⟩ else none
  | x, .int i => match sofD h x with
    | some xs => atI xs i
    | none => none
  | _, _ => none
theorem atI_rvs {m : Mp} {H : Hp} {ds : List D} {vs : List V} {i : Int} {z : D} (r : RVs Z m H ds vs) (e : atI ds i = some z) : ∃ v, atI vs i = some v ∧ RV Z m H z v := by
  unfold atI at e ⊢
  rw [← r.length]
  cases q : ixN ds.length i with
  | none => rw [q] at e; cases e
  | some j => rw [q] at e; exact r.get e
include hK in
theorem ix_ok : IxR X (r2Of Z ixD) := by
  intro value slice pins s σ H x y v u Q I rx ry ⟨m, h, d, e, z, rs, rd, re, hz, q⟩ hs
  unfold ixD at hz
  split at hz
  · split at hz
    · rename_i hl
      obtain ⟨c, e1, e2⟩ := Option.map_eq_some_iff.mp hz
      subst e2
      cases rd; cases re
      exact ix_str value slice pins s σ H _ _ v u Q I rx ry ⟨_, _, c, rfl, rfl, hl, e1, q.here rs (.str _)⟩ hs
    · cases hz
  · split at hz
    · rename_i xs e1
      obtain ⟨a, vs, rfl, h1, h2⟩ := sof_ok rs rd e1
      obtain ⟨w, h3, h4⟩ := atI_rvs h2 hz
      cases re
      rcases h1 with h1 | h1
      · exact ix_tup value slice pins s σ H _ _ v u Q I rx ry ⟨a, vs, _, w, rfl, rfl, hK ▸ h1, h3, q.here rs h4⟩ hs
      · exact ix_list value slice pins s σ H _ _ v u Q I rx ry ⟨a, vs, _, w, rfl, rfl, SqL.of h1, h3, q.here rs h4⟩ hs
    · cases hz
  · cases hz
def cutD (xs : List D) (lo hi : Option Int) : List D := (xs.drop (HT.sIx xs.length 0 lo)).take (HT.sIx xs.length xs.length hi - HT.sIx xs.length 0 lo)
theorem cut_rvs {m : Mp} {H : Hp} {ds : List D} {vs : List V} {lo hi : Option Int} (r : RVs Z m H ds vs) : RVs Z m H (cutD ds lo hi) (cutV vs lo hi) := by
  unfold cutD cutV
  rw [r.length]
  exact (r.drop _).take _
def slD (h : Hh) (x : D) (lo hi : Option Int) : Option D := match x with
  | .str z => gd (lim z.length) (.str (cutS z lo hi))
  | .tup xs => some (.tup (cutD xs lo hi))
  | .frl xs => some (.lst (cutD xs lo hi))
  | x => (lofD h x).map fun xs => .lst (cutD xs lo hi)
include hK in
theorem sl_ok : SlR X (fun x lo hi H Q => ∃ m h d z, RS Z m h H ∧ RV Z m H d x ∧ slD h d lo hi = some z ∧ PQ Z m h H z Q) := by
  intro pins s σ H x v vl vu lo hi sl Q I rx hs pl pu ⟨m, h, d, z, rs, rd, hz, q⟩
  unfold slD at hz
  split at hz
  · obtain ⟨hl, rfl⟩ := gd_some hz
    cases rd
    exact sl_str pins s σ H _ v vl vu lo hi sl Q I rx hs pl pu ⟨_, rfl, hl, q.here rs (.str _)⟩
  · rename_i xs
    cases hz
    cases rd with
    | tup st r1 =>
      rename_i a vs
      refine sl_tupA pins s σ H _ v vl vu lo hi sl Q I rx hs pl pu ⟨_, vs, rfl, hK ▸ st.sq, fun e => ?_, fun e p hp => ?_⟩
      · refine q.here rs ?_
        have : cutD xs lo hi = xs := by
          unfold cutD
          rw [r1.length, e.1, e.2, List.drop_zero, Nat.sub_zero, ← r1.length, List.take_length]
        rw [this]
        exact .tup st r1
      · exact q.tup rs (cut_rvs r1) hp
  · cases hz
    cases rd with
    | frl st r1 => exact sl_list pins s σ H _ v vl vu lo hi sl Q I rx hs pl pu ⟨_, _, rfl, hK ▸ st.sq, fun p hp => q.lst rs (cut_rvs r1) hp⟩
  · obtain ⟨xs, e1, e2⟩ := Option.map_eq_some_iff.mp hz
    subst e2
    obtain ⟨a, vs, rfl, h1, h2⟩ := lof_ok rs rd e1
    exact sl_list pins s σ H _ v vl vu lo hi sl Q I rx hs pl pu ⟨a, vs, rfl, SqL.of h1, fun p hp => q.lst rs (cut_rvs h2) hp⟩
/-! ### truth, len -/
def truD (h : Hh) (x : D) : Option Bool := match x with
  | .non => some false
  | .bl b => some b
  | .int i => some (i != 0)
  | .str y => if lim y.length then some ((y.length : Int) != 0) else none
  | .dic kvs => some (!kvs.isEmpty)
  | .ref n => match h[n]? with
    | some (.lst xs) => some (!xs.isEmpty)
    | some (.dic kvs) => some (!kvs.isEmpty)
    | _ => none
  | x => (sofD h x).map fun xs => !xs.isEmpty
theorem RVs.isEmpty {m : Mp} {H : Hp} {ds : List D} {vs : List V} (r : RVs Z m H ds vs) : ds.isEmpty = vs.isEmpty := by cases r <;> rfl
theorem RVk.isEmpty {m : Mp} {H : Hp} {ds : List (Key × D)} {vs : List (Key × V)} (r : RVk Z m H ds vs) : ds.isEmpty = vs.isEmpty := by cases r <;> rfl
theorem tru_some {m : Mp} {h : Hh} {H : Hp} {d : D} {x : V} {b : Bool} (rs : RS Z m h H) (rd : RV Z m H d x) (hz : truD h d = some b) : TruV Z.K x H b := by
  unfold truD at hz
  split at hz
  · cases hz; cases rd; rfl
  · cases hz; cases rd; rfl
  · cases hz; cases rd; rfl
  · split at hz
    · cases hz; cases rd; exact ⟨‹_›, rfl⟩
    · cases hz
  · cases hz
    cases rd with
    | dic h1 h2 h3 => exact .inr (.inr ⟨_, h1, by rw [h3.isEmpty]⟩)
  · cases rd with
    | ref hm =>
      split at hz
      · rename_i q
        cases hz
        obtain ⟨vs, h1, h2⟩ := rs.lst _ _ _ hm q
        exact .inl ⟨vs, SqL.of h1, by rw [h2.isEmpty]⟩
      · rename_i q
        cases hz
        obtain ⟨vs, h1, h2⟩ := rs.dic _ _ _ hm q
        exact .inr (.inr ⟨vs, h1, by rw [h2.isEmpty]⟩)
      · cases hz
  · obtain ⟨xs, e1, e2⟩ := Option.map_eq_some_iff.mp hz
    subst e2
    obtain ⟨a, vs, rfl, h1, h2⟩ := sof_ok rs rd e1
    rcases h1 with h1 | h1
    · exact .inr (.inl ⟨vs, h1, by rw [h2.isEmpty]⟩)
    · exact .inl ⟨vs, SqL.of h1, by rw [h2.isEmpty]⟩
end
end Ev
set_option maxRecDepth 100000
namespace Ev
open PySem PySem.Spec L2
open PyProof.Rows hiding St
/-! ### not starred -/
def noStar : Expr → Bool
  | .Starred _ _ => false
  | _ => true
def allNoStar : List Expr → Bool
  | [] => true
  | e :: es => noStar e && allNoStar es
theorem star_one {e : Expr} {es : List Expr} {env : Env} (h : noStar e = true) : starEach (e :: es) env = (false, eval e env) :: starEach es env := by
  cases e <;> first | rfl | cases h
theorem star_all {env : Env} {pos : Pos} : ∀ {es : List Expr}, allNoStar es = true → (backTo pos (starEach es env)).any (·.1) = false
  | [], _ => rfl
  | e :: es, h => by
    obtain ⟨h1, h2⟩ := Bool.and_eq_true_iff.mp (show (noStar e && allNoStar es) = true from h)
    rw [star_one h1]
    show (false || (backTo pos (starEach es env)).any (·.1)) = false
    rw [star_all h2, Bool.or_false]
theorem star_all2 {env : Env} {pos : Pos} : ∀ {es : List Expr}, allNoStar es = true → (backTo pos (starEach es env)).all (fun x => !x.1) = true
  | [], _ => rfl
  | e :: es, h => by
    obtain ⟨h1, h2⟩ := Bool.and_eq_true_iff.mp (show (noStar e && allNoStar es) = true from h)
    rw [star_one h1]
    show ((!false) && (backTo pos (starEach es env)).all (fun x => !x.1)) = true
    rw [star_all2 h2] <;> rfl
theorem len_star {env : Env} {pos : Pos} : ∀ {es : List Expr}, (backTo pos (starEach es env)).length = es.length
  | [] => rfl
  | e :: es => by
    have : (backTo pos (starEach (e :: es) env)).length = (backTo pos (starEach es env)).length + 1 := by
      cases e <;> rfl
    rw [this, len_star]; rfl
/-- no super().x -/
def noSuper : Expr → Bool
  | .Call (.Name id _) [] [] _ => id != ("super" : Str)
  | _ => true
theorem base_of {o : Expr} {f : Str} {env : Env} {whole : Sem Value} (h : noSuper o = true) : attributeBase o f env whole = whole := by
  unfold attributeBase
  split
  · rename_i id p pos
    have h1 : (id != ("super" : Str)) = true := h
    rw [if_pos (by rw [h1]; simp)]
  · rfl
section
variable {X : Cx} {Z : Zp} {W : WX}
/-! ### leaves -/
theorem e_c {e : Expr} {d : D} {v : V} (h : PE X e (tC v)) (r : ∀ m H, RV Z m H d v) : PE X e (tE Z W fun _ h => .ok d h) := h.imp fun σ H Q ⟨m, h, s, rs, rl, p⟩ => GP.fin p rs (r m H)
def varE (i : Nat) : EF := fun s h => match s[i]? with
  | some (some d) => .ok d h
  | _ => .stk
theorem e_v {i : Nat} {e : Expr} (h : PE X e (tVar i)) : PE X e (tE Z W (varE i)) := h.imp fun σ H Q ⟨m, h, s, rs, rl, p⟩ => by
  unfold varE at p
  split at p
  · rename_i d e
    obtain ⟨v, h1, h2⟩ := rl.2 i d e
    exact ⟨v, h1, GP.fin p rs h2⟩
  · exact p.elim
/-! ### lists of arguments -/
abbrev LF := Sl → Hh → R (List D)
def nilL : LF := fun _ h => .ok [] h
def consL (f : EF) (g : LF) : LF := fun s h => (f s h).bind fun d h1 => (g s h1).bind fun ds h2 => .ok (d :: ds) h2
theorem a_nil : PA X [] (tLs Z W nilL) := pa_nil.imp fun σ H Q ⟨m, h, s, rs, rl, p⟩ => p m H [] Ext.refl rs .nil
theorem a_cons {e : Expr} {es : List Expr} {f : EF} {g : LF} (hs : noStar e = true) (ha : PE X e (tE Z W f)) (hr : PA X es (tLs Z W g)) : PA X (e :: es) (tLs Z W (consL f g)) :=
  (pa_cons ha hr (star_one hs)).imp fun σ H Q ⟨m, h, s, rs, rl, p⟩ => tG_then rs rl p fun m1 h1 H1 d v x1 rs1 rl1 r1 p1 => tG_then rs1 rl1 p1 fun m2 h2 H2 ds vs x2 rs2 rl2 r2 p2 => p2 m2 H2 _ Ext.refl rs2 (.cons (RV.ext x2 r1) r2)
/-! ### operators -/
def tupE (g : LF) : EF := fun s h => (g s h).bind fun ds h1 => opt (gd (lim ds.length) (.tup ds)) h1
theorem e_tup {es : List Expr} {g : LF} {k : Nat} {pos : Pos} (h : PA X es (tLs Z W g)) : PE X (.Tuple es k pos) (tE Z W (tupE g)) := (pe_tup h).imp fun σ H Q ⟨m, h, s, rs, rl, p⟩ => by
  refine tG_then rs rl p fun m1 h1 H1 ds vs x1 rs1 rl1 r1 p1 => ?_
  obtain ⟨z, e, q⟩ := GP.opt p1
  obtain ⟨hl, rfl⟩ := gd_some e
  exact ⟨by rw [← RVs.length r1]; exact hl, fun p hp => q m1 _ _ (rs1.laidX hp) (rs1.laid hp) (rs1.newTup hp r1)⟩
def binE (op : BO) (f g : EF) : EF := fun s h => (f s h).bind fun x h1 => (g s h1).bind fun y h2 => opt (binD op h2 x y) h2
theorem e_bin (hK : Z.K = X.K) {op : BO} {a b : Expr} {f g : EF} {pos : Pos} (ha : PE X a (tE Z W f)) (hb : PE X b (tE Z W g)) : PE X (.BinOp a op.op b pos) (tE Z W (binE op f g)) :=
  (pe_op (bin_ok hK op) ha hb).imp fun σ H Q ⟨m, h, s, rs, rl, p⟩ => tG_then rs rl p fun m1 h1 H1 d v x1 rs1 rl1 r1 p1 => tG_then rs1 rl1 p1 fun m2 h2 H2 e u x2 rs2 rl2 r2 p2 => by
    obtain ⟨z, ez, q⟩ := GP.opt p2
    exact ⟨m2, h2, d, e, z, rs2, RV.ext x2 r1, r2, ez, q⟩
def negE (f : EF) : EF := fun s h => (f s h).bind fun x h1 => match x with
  | .int i => .ok (.int (-i)) h1
  | _ => .stk
theorem e_neg {a : Expr} {f : EF} {pos : Pos} (ha : PE X a (tE Z W f)) : PE X (.UnaryOp .USub a pos) (tE Z W (negE f)) :=
  (pe_un un_neg ha).imp fun σ H Q ⟨m, h, s, rs, rl, p⟩ => tG_then rs rl p fun m1 h1 H1 d v x1 rs1 rl1 r1 p1 => by
    split at p1
    · cases r1
      exact ⟨_, rfl, GP.fin p1 rs1 (.int _)⟩
    · exact p1.elim
def cmpE (op : CO) (f g : EF) : Sl → Hh → R Bool := fun s h => (f s h).bind fun x h1 => (g s h1).bind fun y h2 => opt (cmpB op h2 x y) h2
def boolE (f : Sl → Hh → R Bool) : EF := fun s h => (f s h).bind fun b h1 => .ok (.bl b) h1
theorem mark_of {op : CO} {b : Expr} (h : ∀ es k p, b ≠ .Set es k p) : behindInMarks op.op b = false := by
  cases b <;> first | rfl | exact absurd rfl (h _ _ _)
def noSet : Expr → Bool
  | .Set _ _ _ => false
  | _ => true
theorem noSet_ne {b : Expr} (h : noSet b = true) : ∀ es k p, b ≠ .Set es k p := fun es k p e => by subst e; cases h
def boolD (f : Sl → Hh → R Bool) : EF := fun s h => (f s h).bind fun b h1 => .ok (.bl b) h1
theorem cmp_fin {op : CO} {f g : EF} {σ : St} {H : Hp} {m : Mp} {h : Hh} {s : Sl} (rs : RS Z m h H) (rl : RSl Z m H s σ) {α β : Type} {ρ : Rl α β} {Q : β → Hp → Prop} {k : Bool → Hh → R α} {Q' : VK}
    (p : GP ρ Z W m σ H Q ((cmpE op f g s h).bind k))
    (fin : ∀ m1 h1 H1 b, Ext m H m1 H1 → RS Z m1 h1 H1 → RSl Z m1 H1 s σ → GP ρ Z W m1 σ H1 Q (k b h1) → Q' (.bl b) H1) : tOp (rCmp Z (cmpB op)) (tE Z W f) (tE Z W g) σ H Q' := by
  have p' : GP ρ Z W m σ H Q ((f s h).bind fun x h1 => (g s h1).bind fun y h2 => (opt (cmpB op h2 x y) h2).bind k) := by
    unfold cmpE at p
    cases e1 : f s h with
    | ok x h1 =>
      rw [e1] at p
      cases e2 : g s h1 with
      | ok y h2 =>
        simp only [R.bind_ok, e2] at p ⊢
        exact p
      | exc e h => simp only [R.bind_ok, R.bind_exc, e2] at p ⊢; exact p
      | stk => simp only [R.bind_ok, R.bind_stk, e2] at p ⊢; exact p
    | exc e h => rw [e1] at p; exact p
    | stk => rw [e1] at p; exact p
  refine tG_then rs rl p' fun m1 h1 H1 d v x1 rs1 rl1 r1 p1 => tG_then rs1 rl1 p1 fun m2 h2 H2 e u x2 rs2 rl2 r2 p2 => ?_
  cases ez : cmpB op h2 d e with
  | none => rw [ez] at p2; exact p2.elim
  | some b =>
    rw [ez] at p2
    exact ⟨m2, h2, d, e, b, rs2, RV.ext x2 r1, r2, ez, fin m2 h2 H2 b (x1.trans x2) rs2 rl2 (p2)⟩
theorem e_cmp (hK : Z.K = X.K) (hu : X.A.units + 65 < cLine) {op : CO} {a b : Expr} {f g : EF} {pos : Pos} (hs : noSet b = true) (ha : PE X a (tE Z W f)) (hb : PE X b (tE Z W g)) :
    PE X (.Compare a [op.op] [b] pos) (tE Z W (boolD (cmpE op f g))) :=
  (pe_cmpR (cmp_ok hK hu op) ha hb (mark_of (noSet_ne hs))).imp fun σ H Q ⟨m, h, s, rs, rl, p⟩ =>
    cmp_fin rs rl p fun m1 h1 H1 b x1 rs1 rl1 p1 => GP.fin p1 rs1 (.bl b)
theorem R.bind_pure {α : Type} (r : R α) : (r.bind fun a h => .ok a h) = r := by cases r <;> rfl
theorem t_cmp (hK : Z.K = X.K) (hu : X.A.units + 65 < cLine) {op : CO} {a b : Expr} {f g : EF} {pos : Pos} (hs : noSet b = true) (ha : PE X a (tE Z W f)) (hb : PE X b (tE Z W g)) :
    PT X (.Compare a [op.op] [b] pos) (tTt Z W (cmpE op f g)) :=
  (pt_cmpR (cmp_ok hK hu op) ha hb (mark_of (noSet_ne hs))).imp fun σ H Q ⟨m, h, s, rs, rl, p⟩ => by
    rw [← R.bind_pure (cmpE op f g s h)] at p
    exact cmp_fin rs rl p fun m1 h1 H1 b x1 rs1 rl1 p1 => ⟨b, rfl, p1 m1 H1 b Ext.refl rs1 rfl⟩
/-! ### chains -/
def chnE (o o2 : CO) (f g k : EF) : Sl → Hh → R Bool := fun s h => (f s h).bind fun x h1 => (g s h1).bind fun y h2 => (opt (cmpB o h2 x y) h2).bind fun b h2 => if b = true then (k s h2).bind fun w h3 => opt (cmpB o2 h3 y w) h3 else .ok false h2
theorem noMarks {o o2 : CO} {b c : Expr} (hs : noSet c = true) : lastMarks [o.op, o2.op] [b, c] = false := mark_of (noSet_ne hs)
theorem chn_fin {o o2 : CO} {f g k : EF} {σ : St} {H : Hp} {m : Mp} {h : Hh} {s : Sl} (rs : RS Z m h H) (rl : RSl Z m H s σ) {Q : Bool → Hp → Prop} (p : GP rhoB Z W m σ H Q (chnE o o2 f g k s h)) :
    tChain (rCmp Z (cmpB o)) (rCmp Z (cmpB o2)) (tE Z W f) (tE Z W g) (tE Z W k) σ H (fun v H' => ∃ b, v = .bl b ∧ Q b H') := by
  unfold chnE at p
  refine tG_then rs rl p fun m1 h1 H1 d v x1 rs1 rl1 r1 p1 => tG_then rs1 rl1 p1 fun m2 h2 H2 e u x2 rs2 rl2 r2 p2 => ?_
  cases ez : cmpB o h2 d e with
  | none => rw [ez] at p2; exact p2.elim
  | some b =>
    rw [ez] at p2
    refine ⟨m2, h2, d, e, b, rs2, RV.ext x2 r1, r2, ez, b, rfl, ?_⟩
    cases b with
    | true =>
      refine iteT ?_
      have p3 : GP rhoB Z W m2 σ H2 Q ((k s h2).bind fun w h3 => opt (cmpB o2 h3 e w) h3) := p2
      refine tG_then rs2 rl2 p3 fun m3 h3 H3 w u3 x3 rs3 rl3 r3 p4 => ?_
      obtain ⟨b2, e2, q⟩ := GP.opt p4
      exact ⟨m3, h3, e, w, b2, rs3, RV.ext x3 r2, r3, e2, b2, rfl, q m3 H3 b2 Ext.refl rs3 rfl⟩
    | false => exact iteF ⟨false, rfl, p2 m2 H2 false Ext.refl rs2 rfl⟩
theorem t_chn (hK : Z.K = X.K) (hu : X.A.units + 65 < cLine) {o o2 : CO} {a b c : Expr} {f g k : EF} {pos : Pos} (hs : noSet c = true) (ha : PE X a (tE Z W f)) (hb : PE X b (tE Z W g)) (hc : PE X c (tE Z W k)) :
    PT X (.Compare a [o.op, o2.op] [b, c] pos) (tTt Z W (chnE o o2 f g k)) :=
  (pt_chain (cmp_ok hK hu o) (cmp_ok hK hu o2) ha hb hc (noMarks hs)).imp fun σ H Q ⟨m, h, s, rs, rl, p⟩ => chn_fin rs rl p
theorem GP.toB {m : Mp} {σ : St} {H : Hp} {Q : VK} {r : R Bool} (p : GP rhoE Z W m σ H Q (r.bind fun b h1 => .ok (.bl b) h1)) : GP rhoB Z W m σ H (fun b H1 => Q (.bl b) H1) r := by
  cases r with
  | ok b h =>
    intro m' H' b' x y e
    have e' : b = b' := e
    subst e'
    exact p m' H' (.bl b) x y (.bl b)
  | exc e h => exact p
  | stk => exact p
theorem tChain_mono {r r' : R2} {ta tb tc : TE} {σ : St} {H : Hp} {Q Q' : VK} (h : tChain r r' ta tb tc σ H Q) (e : Q = Q') : tChain r r' ta tb tc σ H Q' := e ▸ h
theorem chn_finE {o o2 : CO} {f g k : EF} {σ : St} {H : Hp} {m : Mp} {h : Hh} {s : Sl} (rs : RS Z m h H) (rl : RSl Z m H s σ) {Q : VK} (p : GP rhoB Z W m σ H (fun b H1 => Q (.bl b) H1) (chnE o o2 f g k s h)) :
    tChain (rCmp Z (cmpB o)) (rCmp Z (cmpB o2)) (tE Z W f) (tE Z W g) (tE Z W k) σ H Q := by
  unfold chnE at p
  refine tG_then rs rl p fun m1 h1 H1 d v x1 rs1 rl1 r1 p1 => tG_then rs1 rl1 p1 fun m2 h2 H2 e u x2 rs2 rl2 r2 p2 => ?_
  cases ez : cmpB o h2 d e with
  | none => rw [ez] at p2; exact p2.elim
  | some b =>
    rw [ez] at p2
    refine ⟨m2, h2, d, e, b, rs2, RV.ext x2 r1, r2, ez, b, rfl, ?_⟩
    cases b with
    | true =>
      refine iteT ?_
      have p3 : GP rhoB Z W m2 σ H2 (fun b H1 => Q (.bl b) H1) ((k s h2).bind fun w h3 => opt (cmpB o2 h3 e w) h3) := p2
      refine tG_then rs2 rl2 p3 fun m3 h3 H3 w u3 x3 rs3 rl3 r3 p4 => ?_
      obtain ⟨b2, e2, q⟩ := GP.opt p4
      exact ⟨m3, h3, e, w, b2, rs3, RV.ext x3 r2, r3, e2, q m3 H3 b2 Ext.refl rs3 rfl⟩
    | false => exact iteF (p2 m2 H2 false Ext.refl rs2 rfl)
theorem e_chn (hK : Z.K = X.K) (hu : X.A.units + 65 < cLine) {o o2 : CO} {a b c : Expr} {f g k : EF} {pos : Pos} (hs : noSet c = true) (ha : PE X a (tE Z W f)) (hb : PE X b (tE Z W g)) (hc : PE X c (tE Z W k)) :
    PE X (.Compare a [o.op, o2.op] [b, c] pos) (tE Z W (boolD (chnE o o2 f g k))) :=
  (pe_chain (cmp_ok hK hu o) (cmp_ok hK hu o2) ha hb hc (noMarks hs)).imp fun σ H Q ⟨m, h, s, rs, rl, p⟩ => chn_finE rs rl (GP.toB p)
/-! ### truth -/
def truE (f : EF) : Sl → Hh → R Bool := fun s h => (f s h).bind fun x h1 => opt (truD h1 x) h1
def plainTest : Expr → Bool
  | .UnaryOp .Not _ _ => false
  | .BoolOp _ _ _ => false
  | .IfExp _ _ _ _ => false
  | .Compare _ _ _ _ => false
  | _ => true
theorem plain_of {a : Expr} {env : Env} (h : plainTest a = true) : ∀ whole, isTrue a env whole = (do let v ← whole; standAt a.pos; holding [v] (truthy v)) := by
  intro whole
  cases a <;> first | rfl | (cases h; done) | skip
  rename_i op x p
  cases op <;> first | rfl | cases h
theorem t_e (hK : Z.K = X.K) {a : Expr} {f : EF} (hp : plainTest a = true) (ha : PE X a (tE Z W f)) : PT X a (tTt Z W (truE f)) :=
  (pt_truth ha (plain_of hp)).imp fun σ H Q ⟨m, h, s, rs, rl, p⟩ => tG_then rs rl p fun m1 h1 H1 d v x1 rs1 rl1 r1 p1 => by
    obtain ⟨b, e, q⟩ := GP.opt p1
    exact ⟨b, hK ▸ tru_some rs1 r1 e, q m1 H1 b Ext.refl rs1 rfl⟩
abbrev BF := Sl → Hh → R Bool
def notB (f : BF) : BF := fun s h => (f s h).bind fun b h1 => .ok (!b) h1
def andB (f g : BF) : BF := fun s h => (f s h).bind fun b h1 => if b = true then g s h1 else .ok false h1
def orB (f g : BF) : BF := fun s h => (f s h).bind fun b h1 => if b = true then .ok true h1 else g s h1
theorem t_not {a : Expr} {f : BF} {pos : Pos} (ha : PT X a (tTt Z W f)) : PT X (.UnaryOp .Not a pos) (tTt Z W (notB f)) :=
  (pt_not ha).imp fun σ H Q ⟨m, h, s, rs, rl, p⟩ => tG_then rs rl p fun m1 h1 H1 b b' x1 rs1 rl1 r1 p1 => by
    have e : b = b' := r1
    subst e
    exact p1 m1 H1 _ Ext.refl rs1 rfl
theorem andB_read {f g : BF} {σ : St} {H : Hp} {Q : Bool → Hp → Prop} {m : Mp} {h : Hh} {s : Sl} (rs : RS Z m h H) (rl : RSl Z m H s σ) (p : GP rhoB Z W m σ H Q (andB f g s h)) : tAnd (tTt Z W f) (tTt Z W g) σ H Q :=
  tG_then rs rl p fun m1 h1 H1 b b' x1 rs1 rl1 r1 p1 => by
    have e : b = b' := r1
    subst e
    cases b with
    | true => exact iteT ⟨m1, h1, s, rs1, rl1, p1⟩
    | false => exact iteF (p1 m1 H1 false Ext.refl rs1 rfl)
theorem orB_read {f g : BF} {σ : St} {H : Hp} {Q : Bool → Hp → Prop} {m : Mp} {h : Hh} {s : Sl} (rs : RS Z m h H) (rl : RSl Z m H s σ) (p : GP rhoB Z W m σ H Q (orB f g s h)) : tOr (tTt Z W f) (tTt Z W g) σ H Q :=
  tG_then rs rl p fun m1 h1 H1 b b' x1 rs1 rl1 r1 p1 => by
    have e : b = b' := r1
    subst e
    cases b with
    | true => exact iteT (p1 m1 H1 true Ext.refl rs1 rfl)
    | false => exact iteF ⟨m1, h1, s, rs1, rl1, p1⟩
theorem w_and {a b : Expr} {rest : List Expr} {f g : BF} {pos : Pos} (ha : PT X a (tTt Z W f)) (hb : PW X (.BoolOp .And (b :: rest) pos) (tTt Z W g)) : PW X (.BoolOp .And (a :: b :: rest) pos) (tTt Z W (andB f g)) :=
  (pw_and ha hb).imp fun σ H Q ⟨m, h, s, rs, rl, p⟩ => andB_read rs rl p
theorem w_or {a b : Expr} {rest : List Expr} {f g : BF} {pos : Pos} (ha : PT X a (tTt Z W f)) (hb : PW X (.BoolOp .Or (b :: rest) pos) (tTt Z W g)) : PW X (.BoolOp .Or (a :: b :: rest) pos) (tTt Z W (orB f g)) :=
  (pw_or ha hb).imp fun σ H Q ⟨m, h, s, rs, rl, p⟩ => orB_read rs rl p
/-! ### and, or as values; not as a value -/
def andE (f g : EF) : EF := fun s h => (f s h).bind fun x h1 => (opt (truD h1 x) h1).bind fun b h1 => if b = true then g s h1 else .ok x h1
def orE (f g : EF) : EF := fun s h => (f s h).bind fun x h1 => (opt (truD h1 x) h1).bind fun b h1 => if b = true then .ok x h1 else g s h1
theorem v_and (hK : Z.K = X.K) {a b : Expr} {rest : List Expr} {f g : EF} {pos : Pos} (ha : PE X a (tE Z W f)) (hb : PE X (.BoolOp .And (b :: rest) pos) (tE Z W g)) : PE X (.BoolOp .And (a :: b :: rest) pos) (tE Z W (andE f g)) :=
  (pe_andT ha hb).imp fun σ H Q ⟨m, h, s, rs, rl, p⟩ => tG_then rs rl p fun m1 h1 H1 d v x1 rs1 rl1 r1 p1 => by
    cases e : truD h1 d with
    | none => rw [e] at p1; exact p1.elim
    | some b =>
      rw [e] at p1
      refine ⟨b, hK ▸ tru_some rs1 r1 e, ?_⟩
      cases b with
      | true => exact iteT ⟨m1, h1, s, rs1, rl1, p1⟩
      | false => exact iteF (GP.fin p1 rs1 r1)
theorem v_or (hK : Z.K = X.K) {a b : Expr} {rest : List Expr} {f g : EF} {pos : Pos} (ha : PE X a (tE Z W f)) (hb : PE X (.BoolOp .Or (b :: rest) pos) (tE Z W g)) : PE X (.BoolOp .Or (a :: b :: rest) pos) (tE Z W (orE f g)) :=
  (pe_orT ha hb).imp fun σ H Q ⟨m, h, s, rs, rl, p⟩ => tG_then rs rl p fun m1 h1 H1 d v x1 rs1 rl1 r1 p1 => by
    cases e : truD h1 d with
    | none => rw [e] at p1; exact p1.elim
    | some b =>
      rw [e] at p1
      refine ⟨b, hK ▸ tru_some rs1 r1 e, ?_⟩
      cases b with
      | true => exact iteT (GP.fin p1 rs1 r1)
      | false => exact iteF ⟨m1, h1, s, rs1, rl1, p1⟩
def iteE (t : BF) (f g : EF) : EF := fun s h => (t s h).bind fun b h1 => if b = true then f s h1 else g s h1
theorem e_ite {c a b : Expr} {t : BF} {f g : EF} {pos : Pos} (hc : PT X c (tTt Z W t)) (ha : PE X a (tE Z W f)) (hb : PE X b (tE Z W g)) : PE X (.IfExp c a b pos) (tE Z W (iteE t f g)) :=
  (pe_ifExp hc ha hb).imp fun σ H Q ⟨m, h, s, rs, rl, p⟩ => tG_then rs rl p fun m1 h1 H1 b b' x1 rs1 rl1 r1 p1 => by
    have e : b = b' := r1
    subst e
    cases b with
    | true => exact iteT ⟨m1, h1, s, rs1, rl1, p1⟩
    | false => exact iteF ⟨m1, h1, s, rs1, rl1, p1⟩
/-! ### subscripts -/
def noSlice : Expr → Bool
  | .Slice _ _ _ _ => false
  | _ => true
theorem plainIx_of {b : Expr} (h : noSlice b = true) : PlainIx b := by
  intro o i
  cases b <;> first | rfl | cases h
def ixE (f g : EF) : EF := fun s h => (f s h).bind fun x h1 => (g s h1).bind fun y h2 => opt (ixD h2 x y) h2
theorem e_ix (hK : Z.K = X.K) {a b : Expr} {f g : EF} {pos : Pos} (hs : noSlice b = true) (ha : PE X a (tE Z W f)) (hb : PE X b (tE Z W g)) : PE X (.Subscript a b pos) (tE Z W (ixE f g)) :=
  (pe_ix (ix_ok hK) ha hb (plainIx_of hs)).imp fun σ H Q ⟨m, h, s, rs, rl, p⟩ => tG_then rs rl p fun m1 h1 H1 d v x1 rs1 rl1 r1 p1 => tG_then rs1 rl1 p1 fun m2 h2 H2 e u x2 rs2 rl2 r2 p2 => by
    obtain ⟨z, ez, q⟩ := GP.opt p2
    exact ⟨m2, h2, d, e, z, rs2, RV.ext x2 r1, r2, ez, q⟩
/-- a slice's part -/
def rhoO : Rl (Option Int) (Option Int) := ⟨fun _ _ _ _ d v => d = v, fun _ _ _ _ _ _ _ _ _ _ h => h⟩
abbrev OF := Sl → Hh → R (Option Int)
abbrev tOi (Z : Zp) (W : WX) (f : OF) : TO := tG rhoO Z W f
def noO : OF := fun _ h => .ok none h
def soO (f : EF) : OF := fun s h => (f s h).bind fun x h1 => match x with
  | .int i => .ok (some i) h1
  | _ => .stk
theorem _root_.L2.PO.imp {X : Cx} {e : Option Expr} {t t' : TO} (h : PO X e t) (i : ∀ σ H Q, t' σ H Q → t σ H Q) : PO X e t' := ⟨fun pins s σ H Q I q => h.run pins s σ H Q I (i σ H Q q)⟩
theorem o_no : PO X none (tOi Z W noO) := po_none.imp fun σ H Q ⟨m, h, s, rs, rl, p⟩ => p m H none Ext.refl rs rfl
theorem o_so {a : Expr} {f : EF} (ha : PE X a (tE Z W f)) : PO X (some a) (tOi Z W (soO f)) := (po_some ha).imp fun σ H Q ⟨m, h, s, rs, rl, p⟩ => tG_then rs rl p fun m1 h1 H1 d v x1 rs1 rl1 r1 p1 => by
  split at p1
  · cases r1
    exact ⟨_, rfl, p1 m1 H1 _ Ext.refl rs1 rfl⟩
  · exact p1.elim
def slE (f : EF) (lo hi : OF) : EF := fun s h => (f s h).bind fun x h1 => (lo s h1).bind fun l h2 => (hi s h2).bind fun u h3 => opt (slD h3 x l u) h3
theorem e_sl (hK : Z.K = X.K) {a : Expr} {lo hi : Option Expr} {f : EF} {g k : OF} {pos p2 : Pos} (ha : PE X a (tE Z W f)) (hl : PO X lo (tOi Z W g)) (hh : PO X hi (tOi Z W k)) : PE X (.Subscript a (.Slice lo hi none p2) pos) (tE Z W (slE f g k)) :=
  (pe_slice (sl_ok hK) ha hl hh).imp fun σ H Q ⟨m, h, s, rs, rl, p⟩ => tG_then rs rl p fun m1 h1 H1 d v x1 rs1 rl1 r1 p1 => tG_then rs1 rl1 p1 fun m2 h2 H2 l l' x2 rs2 rl2 r2 p2 => by
    have e : l = l' := r2
    subst e
    refine tG_then rs2 rl2 p2 fun m3 h3 H3 u u' x3 rs3 rl3 r3 p3 => ?_
    have e : u = u' := r3
    subst e
    obtain ⟨z, ez, q⟩ := GP.opt p3
    exact ⟨m3, h3, d, z, rs3, RV.ext (x2.trans x3) r1, ez, q⟩
end
end Ev
set_option maxRecDepth 100000
namespace Ev
open PySem PySem.Spec L2
open PyProof.Rows hiding St
/-! ### sum of a tuple of ints -/
section
variable {prog : Program} {w : World} {A : Around} {E : Value → Shared → Prop} {s : Shared} {l : Addr}
theorem sum_tup_raw {Q : Value → Shared → Prop} {its : List Value} {ns : List Int} (hh : A.handled = none) (ht : IsTup s.heap l its.toArray) (hi : IntsAre its ns)
    (k : ∀ h' tk t', (∀ b o, s.heap.get? b = some o → h'.get? b = some o) → Q (.int ns.sum t') { s with heap := h', toks := tk }) : wpAny (model prog w) A (call (.builtin "sum") [.ref l]) Q E s := by
  obtain ⟨xs, e⟩ := hi.allInts.items
  have hn : numsOf (intItems xs).toList = ns := by rw [← e]; exact hi.numsOf
  rw [nums_intItems] at hn
  rw [e] at ht
  have tl : s.heap.IsTuple l (intItems xs) := ht
  have hlt : l < s.heap.objs.size := by obtain ⟨_, q, _⟩ := tl; exact Heap.lt_size q
  refine call_sum_walkG (wpAny_pyIter_tuple tl ?_)
  refine ⟨_, _, _, _, _, _, numAt xs, rfl, Walks.tuple (A := A.in1) hh s.heap.objs.size l (Nat.ne_of_lt hlt) (intItems xs), ⟨⟨_, Heap.get?_push_size _ rfl, rfl, rfl⟩, tl.push _⟩, fun b hb => ?_, fun _ _ => intItems_at, fun h' tk t' hk => ?_⟩
  · show b < (s.heap.push _).objs.size
    rw [Heap.size_push]
    rcases List.mem_cons.mp hb with q | hb
    · subst q; exact Nat.lt_succ_self _
    · cases List.mem_singleton.mp hb; exact Nat.lt_succ_of_lt hlt
  · have q := k h' tk t' fun b o e => hk b o (fun z => absurd (Heap.lt_size e) ((List.mem_singleton.mp z) ▸ Nat.lt_irrefl _)) (Heap.get?_push_of_some _ e)
    rw [show (intItems xs).size = xs.size by simp [intItems], preSum_eq, List.take_of_length_le (by simp), hn]
    exact q
end
section
variable {X : Cx}
def rSumT (K : PySem.W.Frag) : List V → Hp → VK → Prop := fun vs H Q => ∃ (a : Addr) (ns : List Int), vs = [V.ref a] ∧ SqT K H a (ns.map V.int) ∧ Q (.int ns.sum) H
theorem cr_sumT (hc : X.calm = true) : CallR X (.builtin "sum") (rSumT X.K) := by
  intro pins s σ H vs us Q I r ⟨a, ns, e, hs, q⟩
  subst e
  obtain ⟨its, rv, hl, _⟩ := I.tuple hs
  rw [Vals.ref1 r]
  exact sum_tup_raw (I.ok.hd hc) hl rv.ints fun h' tk t' hk => ⟨.int _, H, I.kept hk, ⟨_, rfl⟩, q⟩
end
end Ev
set_option maxRecDepth 100000
namespace Ev
open PySem PySem.Spec L2
open PyProof.Rows hiding St
def asI : D → Option Int | .int i => some i | _ => none
def asB : D → Option Bool | .bl i => some i | _ => none
def asS : D → Option Str | .str i => some i | _ => none
def asAll {α : Type} (f : D → Option α) : List D → Option (List α)
  | [] => some []
  | d :: ds => match f d, asAll f ds with
    | some a, some as => some (a :: as)
    | _, _ => none
section
variable {X : Cx} {Z : Zp} {W : WX}
theorem asAll_vals {α : Type} {f : D → Option α} {g : α → V} (hf : ∀ m H d v a, RV Z m H d v → f d = some a → v = g a) {m : Mp} {H : Hp} : ∀ {ds : List D} {vs : List V} {as : List α}, RVs Z m H ds vs → asAll f ds = some as → vs = as.map g
  | _, _, _, .nil, e => by cases e; rfl
  | _, _, _, .cons r t, e => by
    unfold asAll at e
    split at e
    · rename_i a as e1 e2
      cases e
      rw [hf _ _ _ _ _ r e1, asAll_vals hf t e2]; rfl
    · cases e
theorem asI_v (m : Mp) (H : Hp) (d : D) (v : V) (a : Int) (r : RV Z m H d v) (e : asI d = some a) : v = .int a := by
  cases r <;> first | (cases e; rfl) | cases e
theorem asB_v (m : Mp) (H : Hp) (d : D) (v : V) (a : Bool) (r : RV Z m H d v) (e : asB d = some a) : v = .bl a := by
  cases r <;> first | (cases e; rfl) | cases e
theorem asS_v (m : Mp) (H : Hp) (d : D) (v : V) (a : Str) (r : RV Z m H d v) (e : asS d = some a) : v = .str a := by
  cases r <;> first | (cases e; rfl) | cases e
theorem rvs_map {α : Type} {f : α → D} {g : α → V} {m : Mp} {H : Hp} (hf : ∀ a, RV Z m H (f a) (g a)) : ∀ as : List α, RVs Z m H (as.map f) (as.map g)
  | [] => .nil
  | a :: as => .cons (hf a) (rvs_map hf as)
/-! ### built-in functions whose result is pure -/
inductive Bf where | len | abs | min2 | max2 | minL | maxL | all | any | sum | int | str | tuple
def Bf.name : Bf → String
  | .len => "len" | .abs => "abs" | .min2 => "min" | .max2 => "max" | .minL => "min" | .maxL => "max" | .all => "all" | .any => "any" | .sum => "sum" | .int => "int" | .str => "str" | .tuple => "tuple"
def Bf.val : Bf → Value
  | .int => .type "int" | .str => .type "str" | .tuple => .type "tuple"
  | b => .builtin b.name
def minI : Int → List Int → Int
  | a, [] => a
  | a, b :: r => minI (if b < a then b else a) r
def maxI : Int → List Int → Int
  | a, [] => a
  | a, b :: r => maxI (if a < b then b else a) r
theorem minI_spec : ∀ (r : List Int) (a : Int), minI a r ∈ a :: r ∧ ∀ y, y ∈ a :: r → minI a r ≤ y
  | [], a => by
    refine ⟨List.mem_cons_self, fun y hy => ?_⟩
    cases hy with
    | head => exact Int.le_refl _
    | tail _ h => cases h
  | b :: r, a => by
    have ih := minI_spec r (if b < a then b else a)
    show minI (if b < a then b else a) r ∈ a :: b :: r ∧ ∀ y, y ∈ a :: b :: r → minI (if b < a then b else a) r ≤ y
    generalize hm : minI (if b < a then b else a) r = m at ih
    refine ⟨?_, fun y hy => ?_⟩
    · have h1 := ih.1
      split at h1
      · exact List.mem_cons_of_mem _ h1
      · rcases List.mem_cons.mp h1 with e | h1
        · rw [e]; exact List.mem_cons_self
        · exact List.mem_cons_of_mem _ (List.mem_cons_of_mem _ h1)
    · have h0 := ih.2 _ List.mem_cons_self
      rcases List.mem_cons.mp hy with e | hy
      · subst e; split at h0 <;> omega
      · rcases List.mem_cons.mp hy with e | hy
        · subst e; split at h0 <;> omega
        · exact ih.2 y (List.mem_cons_of_mem _ hy)
theorem maxI_spec : ∀ (r : List Int) (a : Int), maxI a r ∈ a :: r ∧ ∀ y, y ∈ a :: r → y ≤ maxI a r
  | [], a => by
    refine ⟨List.mem_cons_self, fun y hy => ?_⟩
    cases hy with
    | head => exact Int.le_refl _
    | tail _ h => cases h
  | b :: r, a => by
    have ih := maxI_spec r (if a < b then b else a)
    show maxI (if a < b then b else a) r ∈ a :: b :: r ∧ ∀ y, y ∈ a :: b :: r → y ≤ maxI (if a < b then b else a) r
    generalize hm : maxI (if a < b then b else a) r = m at ih
    refine ⟨?_, fun y hy => ?_⟩
    · have h1 := ih.1
      split at h1
      · exact List.mem_cons_of_mem _ h1
      · rcases List.mem_cons.mp h1 with e | h1
        · rw [e]; exact List.mem_cons_self
        · exact List.mem_cons_of_mem _ (List.mem_cons_of_mem _ h1)
    · have h0 := ih.2 _ List.mem_cons_self
      rcases List.mem_cons.mp hy with e | hy
      · subst e; split at h0 <;> omega
      · rcases List.mem_cons.mp hy with e | hy
        · subst e; split at h0 <;> omega
        · exact ih.2 y (List.mem_cons_of_mem _ hy)
def intsOf (h : Hh) (d : D) : Option (List Int) := match lofD h d with
  | some xs => asAll asI xs
  | none => none
def intsOfT (h : Hh) (d : D) : Option (List Int) := match d with
  | .tup xs => asAll asI xs
  | d => intsOf h d
def boolsOf (h : Hh) (d : D) : Option (List Bool) := match lofD h d with
  | some xs => asAll asB xs
  | none => none
def strsOf (h : Hh) (d : D) : Option (List Str) := match sofD h d with
  | some xs => asAll asS xs
  | none => none
theorem intsOf_ok {m : Mp} {h : Hh} {H : Hp} {d : D} {v : V} {ns : List Int} (rs : RS Z m h H) (r : RV Z m H d v) (e : intsOf h d = some ns) : ∃ a, v = .ref a ∧ H a = some (.lst (ns.map V.int)) := by
  unfold intsOf at e
  split at e
  · rename_i xs e1
    obtain ⟨a, vs, h1, h2, h3⟩ := lof_ok rs r e1
    have := asAll_vals asI_v h3 e
    subst this
    exact ⟨a, h1, h2⟩
  · cases e
theorem boolsOf_ok {m : Mp} {h : Hh} {H : Hp} {d : D} {v : V} {ns : List Bool} (rs : RS Z m h H) (r : RV Z m H d v) (e : boolsOf h d = some ns) : ∃ a, v = .ref a ∧ H a = some (.lst (ns.map V.bl)) := by
  unfold boolsOf at e
  split at e
  · rename_i xs e1
    obtain ⟨a, vs, h1, h2, h3⟩ := lof_ok rs r e1
    have := asAll_vals asB_v h3 e
    subst this
    exact ⟨a, h1, h2⟩
  · cases e
theorem strsOf_ok {m : Mp} {h : Hh} {H : Hp} {d : D} {v : V} {ns : List Str} (rs : RS Z m h H) (r : RV Z m H d v) (e : strsOf h d = some ns) : ∃ a, v = .ref a ∧ (SqT Z.K H a (ns.map V.str) ∨ H a = some (.lst (ns.map V.str))) := by
  unfold strsOf at e
  split at e
  · rename_i xs e1
    obtain ⟨a, vs, h1, h2, h3⟩ := sof_ok rs r e1
    have := asAll_vals asS_v h3 e
    subst this
    exact ⟨a, h1, h2⟩
  · cases e
def lenD (h : Hh) (x : D) : Option D := match x with
  | .str z => gd (lim z.length) (.int z.length)
  | x => (sofD h x).map fun xs => .int xs.length
def intD : D → Option D
  | .int i => some (.int i)
  | .bl b => some (.int (if b then 1 else 0))
  | .str a => match PySem.intText? a with
    | some n => gd (a.length ≤ 640) (.int n)
    | none => none
  | _ => none
def strD : D → Option D
  | .int i => gd (i.natAbs.log2 < 1920) (.str (toString i))
  | .str a => some (.str a)
  | _ => none
def tupleD (h : Hh) (x : D) : Option D := (sofD h x).map .tup
def bltD (b : Bf) (h : Hh) (ds : List D) : Option D := match b, ds with
  | .len, [x] => lenD h x
  | .abs, [.int i] => some (.int (if i < 0 then -i else i))
  | .min2, [.int i, .int j] => some (.int (if j < i then j else i))
  | .max2, [.int i, .int j] => some (.int (if j > i then j else i))
  | .minL, [x] => match intsOf h x with
    | some (a :: r) => some (.int (minI a r))
    | _ => none
  | .maxL, [x] => match intsOf h x with
    | some (a :: r) => some (.int (maxI a r))
    | _ => none
  | .all, [x] => (boolsOf h x).map fun bs => .bl (bs.all id)
  | .any, [x] => (boolsOf h x).map fun bs => .bl (bs.any id)
  | .sum, [x] => (intsOfT h x).map fun bs => .int bs.sum
  | .int, [x] => intD x
  | .str, [x] => strD x
  | .tuple, [x] => tupleD h x
  | _, _ => none
def rCl (Z : Zp) (f : Hh → List D → Option D) : List V → Hp → VK → Prop := fun vs H Q => ∃ m h ds z, RS Z m h H ∧ RVs Z m H ds vs ∧ f h ds = some z ∧ PQ Z m h H z Q
theorem rvs1 {m : Mp} {H : Hp} {d : D} {vs : List V} (r : RVs Z m H [d] vs) : ∃ v, vs = [v] ∧ RV Z m H d v := by
  cases r with
  | cons r t => cases t; exact ⟨_, rfl, r⟩
theorem rvs2 {m : Mp} {H : Hp} {d e : D} {vs : List V} (r : RVs Z m H [d, e] vs) : ∃ v w, vs = [v, w] ∧ RV Z m H d v ∧ RV Z m H e w := by
  cases r with
  | cons r t =>
    obtain ⟨w, e, r2⟩ := rvs1 t
    subst e
    exact ⟨_, w, rfl, r, r2⟩
theorem blt_ok (hK : Z.K = X.K) (hc : X.calm = true) (b : Bf) : CallR X b.val (rCl Z (bltD b)) := by
  intro pins s σ H vs us Q I r ⟨m, h, ds, z, rs, rd, hz, q⟩
  unfold bltD at hz
  split at hz
  · -- len
    rename_i x
    obtain ⟨v, rfl, r1⟩ := rvs1 rd
    unfold lenD at hz
    split at hz
    · obtain ⟨hl, rfl⟩ := gd_some hz
      cases r1
      exact call_len pins s σ H _ us Q I r ⟨_, _, rfl, ⟨hl, rfl⟩, q.here rs (.int _)⟩
    · obtain ⟨xs, e1, e2⟩ := Option.map_eq_some_iff.mp hz
      subst e2
      obtain ⟨a, ws, rfl, h1, h2⟩ := sof_ok rs r1 e1
      rw [h2.length] at q
      rcases h1 with h1 | h1
      · exact call_len pins s σ H _ us Q I r ⟨_, _, rfl, .inr ⟨ws, hK ▸ h1, rfl⟩, q.here rs (.int _)⟩
      · exact call_len pins s σ H _ us Q I r ⟨_, _, rfl, .inl ⟨ws, SqL.of h1, rfl⟩, q.here rs (.int _)⟩
  · cases hz
    obtain ⟨v, rfl, r1⟩ := rvs1 rd
    cases r1
    exact call_abs pins s σ H _ us Q I r ⟨_, rfl, q.here rs (.int _)⟩
  · cases hz
    obtain ⟨v, w, rfl, r1, r2⟩ := rvs2 rd
    cases r1; cases r2
    exact call_min2 hc pins s σ H _ us Q I r ⟨_, _, rfl, q.here rs (.int _)⟩
  · cases hz
    obtain ⟨v, w, rfl, r1, r2⟩ := rvs2 rd
    cases r1; cases r2
    exact call_max2 hc pins s σ H _ us Q I r ⟨_, _, rfl, q.here rs (.int _)⟩
  · obtain ⟨v, rfl, r1⟩ := rvs1 rd
    split at hz
    · rename_i a r' e1
      cases hz
      obtain ⟨p, rfl, h1⟩ := intsOf_ok rs r1 e1
      refine cr_min hc pins s σ H _ us Q I r ⟨p, _, rfl, SqL.of h1, by simp, fun mm hm hle => ?_⟩
      have sp := minI_spec r' a
      have : mm = minI a r' := Int.le_antisymm (hle _ sp.1) (sp.2 _ hm)
      rw [this]
      exact q.here rs (.int _)
    · cases hz
  · obtain ⟨v, rfl, r1⟩ := rvs1 rd
    split at hz
    · rename_i a r' e1
      cases hz
      obtain ⟨p, rfl, h1⟩ := intsOf_ok rs r1 e1
      refine cr_max hc pins s σ H _ us Q I r ⟨p, _, rfl, SqL.of h1, by simp, fun mm hm hle => ?_⟩
      have sp := maxI_spec r' a
      have : mm = maxI a r' := Int.le_antisymm (sp.2 _ hm) (hle _ sp.1)
      rw [this]
      exact q.here rs (.int _)
    · cases hz
  · obtain ⟨v, rfl, r1⟩ := rvs1 rd
    obtain ⟨bs, e1, e2⟩ := Option.map_eq_some_iff.mp hz
    subst e2
    obtain ⟨p, rfl, h1⟩ := boolsOf_ok rs r1 e1
    exact cr_all hc pins s σ H _ us Q I r ⟨p, bs, rfl, SqL.of h1, q.here rs (.bl _)⟩
  · obtain ⟨v, rfl, r1⟩ := rvs1 rd
    obtain ⟨bs, e1, e2⟩ := Option.map_eq_some_iff.mp hz
    subst e2
    obtain ⟨p, rfl, h1⟩ := boolsOf_ok rs r1 e1
    exact cr_any hc pins s σ H _ us Q I r ⟨p, bs, rfl, SqL.of h1, q.here rs (.bl _)⟩
  · obtain ⟨v, rfl, r1⟩ := rvs1 rd
    obtain ⟨bs, e1, e2⟩ := Option.map_eq_some_iff.mp hz
    subst e2
    unfold intsOfT at e1
    split at e1
    · cases r1 with
      | tup st r2 =>
        have ev := asAll_vals (g := V.int) asI_v r2 e1
        subst ev
        exact cr_sumT hc pins s σ H _ us Q I r ⟨_, bs, rfl, hK ▸ st.sq, q.here rs (.int _)⟩
    · obtain ⟨p, rfl, h1⟩ := intsOf_ok rs r1 e1
      exact cr_sum hc pins s σ H _ us Q I r ⟨p, bs, rfl, SqL.of h1, q.here rs (.int _)⟩
  · obtain ⟨v, rfl, r1⟩ := rvs1 rd
    unfold intD at hz
    split at hz
    · cases hz; cases r1
      exact call_int1 pins s σ H _ us Q I r (.inl ⟨_, rfl, q.here rs (.int _)⟩)
    · cases hz; cases r1
      exact call_int1 pins s σ H _ us Q I r (.inr ⟨_, rfl, q.here rs (.int _)⟩)
    · split at hz
      · rename_i n e1
        obtain ⟨hl, rfl⟩ := gd_some hz
        cases r1
        exact call_int_str pins s σ H _ us Q I r ⟨_, n, rfl, e1, hl, q.here rs (.int _)⟩
      · cases hz
    · cases hz
  · obtain ⟨v, rfl, r1⟩ := rvs1 rd
    unfold strD at hz
    split at hz
    · obtain ⟨hl, rfl⟩ := gd_some hz
      cases r1
      exact call_str_int pins s σ H _ us Q I r ⟨_, rfl, hl, q.here rs (.str _)⟩
    · cases hz; cases r1
      exact SkE.call_str_str pins s σ H _ us Q I r ⟨_, rfl, q.here rs (.str _)⟩
    · cases hz
  · obtain ⟨v, rfl, r1⟩ := rvs1 rd
    obtain ⟨xs, e1, e2⟩ := Option.map_eq_some_iff.mp hz
    subst e2
    unfold sofD at e1
    split at e1
    · cases e1
      cases r1 with
      | tup st r2 => exact call_tuple_of pins s σ H _ us Q I r ⟨_, _, rfl, .inr ⟨hK ▸ st.sq, q.here rs (.tup st r2)⟩⟩
    · obtain ⟨a, ws, rfl, h1, h2⟩ := lof_ok rs r1 e1
      exact call_tuple_of pins s σ H _ us Q I r ⟨_, _, rfl, .inl ⟨SqL.of h1, fun p hp => q.tup rs h2 hp⟩⟩
  · cases hz
end
end Ev
set_option maxRecDepth 100000
namespace Ev
open PySem PySem.Spec L2
open PyProof.Rows hiding St
abbrev Cl := Nat → List D → Hh → R D
/-- what a def (number i of the text) promises: what cl tells -/
def spD (Z : Zp) (cl : Cl) (i : Nat) : Sp := fun vs H Q E => ∃ m h ds, RS Z m h H ∧ RVs Z m H ds vs ∧ GP rhoE Z (fun c d _ H' => E c d H') m [] H Q (cl i ds h)
section
variable {X : Cx} {Z : Zp} {W : WX}
theorem GP.shift {m : Mp} {σ : St} {H : Hp} {Q : VK} {r : R D} (p : GP rhoE Z W m σ H Q r) : GP rhoE Z (fun c d _ H' => W c d σ H') m [] H Q r := by
  cases r <;> exact p
/-! ### built-in functions -/
def bltE (b : Bf) (g : LF) : EF := fun s h => (g s h).bind fun ds h1 => opt (bltD b h1 ds) h1
theorem blt_read {b : Bf} {g : LF} {σ : St} {H : Hp} {Q : VK} (q : tE Z W (bltE b g) σ H Q) : tCB (rCl Z (bltD b)) (tLs Z W g) σ H Q := by
  obtain ⟨m, h, s, rs, rl, p⟩ := q
  refine tG_then rs rl p fun m1 h1 H1 ds vs x1 rs1 rl1 r1 p1 => ?_
  obtain ⟨z, ez, q⟩ := GP.opt p1
  exact ⟨m1, h1, ds, z, rs1, r1, ez, q⟩
theorem e_blt (hK : Z.K = X.K) (hc : X.calm = true) (b : Bf) {x : Str} {e : Expr} {es : List Expr} {p pos : Pos} {g : LF} (hg : Gl X x) (hm : X.mg x = none) (hv : bootBuiltins x = some b.val) (hn : x ≠ "__name__") (hdb : (x == ("__debug__" : Str)) = false)
    (hs : allNoStar (e :: es) = true) (ha : PA X (e :: es) (tLs Z W g)) : PE X (.Call (.Name x p) (e :: es) [] pos) (tE Z W (bltE b g)) := by
  obtain ⟨h1, h2⟩ := Bool.and_eq_true_iff.mp (show (noStar e && allNoStar es) = true from hs)
  have ok := blt_ok (Z := Z) hK hc b
  cases b <;> first
    | exact (pe_callB ok hg hm hv ha hn hdb (star_one h1) (star_all h2)).imp fun σ H Q q => blt_read q
    | exact (pe_callTy ok hg hm hv ha hn hdb (star_one h1) (star_all h2)).imp fun σ H Q q => blt_read q
/-! ### defs of the text -/
def callE (cl : Cl) (i : Nat) (g : LF) : EF := fun s h => (g s h).bind fun ds h1 => cl i ds h1
variable {cl : Cl} {i k : Nat} {f : Addr} {fd : FuncData} {ps : List Str}
theorem e_call {x : Str} {e : Expr} {es : List Expr} {p pos : Pos} {g : LF} (F : FnOk X.prog X.w X.K X.mg X.base (L2.CX X.prog X.w) k f fd ps (spD Z cl i)) (hr : Room k X.A) (hg : Gl X x) (hm : X.mg x = some (.ref f)) (hk : PySem.W.keepIn X.K (.ref f) = true) (hb : Binds X.K fd ps [])
    (tk : Takes X W) (hdb : (x == ("__debug__" : Str)) = false) (hs : allNoStar (e :: es) = true) (ha : PA X (e :: es) (tLs Z W g)) : PE X (.Call (.Name x p) (e :: es) [] pos) (tE Z W (callE cl i g)) := by
  obtain ⟨h1, h2⟩ := Bool.and_eq_true_iff.mp (show (noStar e && allNoStar es) = true from hs)
  exact (pe_callS F hr hg hm hk hb (fun σ => passAt tk σ) ha hdb (star_one h1) (star_all h2)).imp fun σ H Q ⟨m, h, s, rs, rl, p⟩ =>
    tG_then rs rl p fun m1 h1 H1 ds vs x1 rs1 rl1 r1 p1 => ⟨m1, h1, ds, rs1, r1, GP.shift p1⟩
theorem e_call0 {x : Str} {p pos : Pos} (F : FnOk X.prog X.w X.K X.mg X.base (L2.CX X.prog X.w) k f fd ps (spD Z cl i)) (hr : Room k X.A) (hg : Gl X x) (hm : X.mg x = some (.ref f)) (hk : PySem.W.keepIn X.K (.ref f) = true) (hb : Binds X.K fd ps [])
    (tk : Takes X W) (hdb : (x == ("__debug__" : Str)) = false) : PE X (.Call (.Name x p) [] [] pos) (tE Z W (callE cl i nilL)) := by
  refine ⟨fun pins s σ H Q I ⟨m, h, sl, rs, rl, p⟩ => ?_⟩
  refine wpAny_Call_Name_kw (ld_glob I hg hm ?_ hdb)
  exact PySem.W.callWith_K0 I.kIn hk (run_fnS (us := []) (E := WE W) F hr hb (passAt tk σ) I .nil ⟨m, h, [], rs, .nil, GP.shift p⟩)
/-! ### methods of own classes -/
/-- a call o.m(..) on one line -/
theorem eval_mcall {o : Expr} {mn : Str} {apos pos : Pos} {es : List Expr} {env : Env} (hb : noSuper o = true) (hs : allNoStar es = true) (hl : (apos.endLine == pos.line) = true) (hn : es.length < 30) :
    eval (.Call (.Attribute o mn apos) es [] pos) env = (do
      let ov ← eval o env
      standAt apos.atName
      let (f, first) ← holding [ov] (getMethod ov mn (plainOf o env))
      callWith pos f first (backTo pos (starEach es env)) (backToKw pos (keywordEach [] env))) := by
  have hf : methodCallForm (es.length + ([] : List Keyword).length) (backTo pos (starEach es env)) (backToKw pos (keywordEach [] env)) = true := by
    unfold methodCallForm
    rw [star_all2 hs]
    show (true && (true && decide (es.length + 0 + 0 < 30))) = true
    simp; omega
  rw [eval, base_of hb]
  congr 1
  funext ov
  congr 1
  funext _
  exact mcall_line hf hl
/-- what the text's classes are: their methods' numbers, their __init__, the fields that may be read -/
structure Tb where
  mt : Nat → Str → Option Nat
  ini : Nat → Option Nat
  att : Nat → Str → Bool
/-- what is true of a class that has such a method -/
structure MthOk (X : Cx) (Z : Zp) (cl : Cl) (k : Nat) (c : Nat) (mn : Str) (i : Nat) : Prop where
  cls : Cls X.K (Z.ca c)
  run : ∃ f fd ps, Meth X.K (Z.ca c) mn f ∧ Binds X.K fd ps [] ∧ FnOk X.prog X.w X.K X.mg X.base (L2.CX X.prog X.w) k f fd ps (spD Z cl i)
def mthE (T : Tb) (cl : Cl) (mn : Str) (fo : EF) (g : LF) : EF := fun s h => (fo s h).bind fun x h1 => match x with
  | .ref n => match h1[n]? with
    | some (.ins c fs) => match T.mt c mn, fs.lookup mn with
      | some i, none => (g s h1).bind fun ds h2 => cl i (.ref n :: ds) h2
      | _, _ => .stk
    | _ => .stk
  | _ => .stk
theorem RVf.lookup {m : Mp} {H : Hp} {fs : List (Str × D)} {vs : List (Str × V)} (r : RVf Z m H fs vs) (x : Str) : (fs.lookup x = none → vs.lookup x = none) ∧ ∀ d, fs.lookup x = some d → ∃ v, vs.lookup x = some v ∧ RV Z m H d v := by
  induction r with
  | nil => exact ⟨fun _ => rfl, fun d e => by cases e⟩
  | @cons k d v ds vs r t ih =>
    cases q : x == k with
    | true =>
      have l1 : ((k, d) :: ds).lookup x = some d := by unfold List.lookup; rw [q]
      have l2 : ((k, v) :: vs).lookup x = some v := by unfold List.lookup; rw [q]
      refine ⟨fun e => (by rw [l1] at e; cases e), fun d' e => ?_⟩
      rw [l1] at e
      cases e
      exact ⟨v, l2, r⟩
    | false =>
      have l1 : ((k, d) :: ds).lookup x = ds.lookup x := by conv => lhs; unfold List.lookup; rw [q]
      have l2 : ((k, v) :: vs).lookup x = vs.lookup x := by conv => lhs; unfold List.lookup; rw [q]
      rw [l1, l2]
      exact ih
theorem e_mth {T : Tb} {o : Expr} {mn : Str} {apos pos : Pos} {es : List Expr} {fo : EF} {g : LF} (M : ∀ c i, T.mt c mn = some i → MthOk X Z cl k c mn i) (hr : Room k X.A) (tk : Takes X W) (hb : noSuper o = true) (hs : allNoStar es = true)
    (hl : (apos.endLine == pos.line) = true) (hn : es.length < 30) (hg0 : es = [] → g = nilL) (ho : PE X o (tE Z W fo)) (ha : PA X es (tLs Z W g)) : PE X (.Call (.Attribute o mn apos) es [] pos) (tE Z W (mthE T cl mn fo g)) := by
  refine ⟨fun pins s σ H Q I ⟨m, h, sl, rs, rl, p⟩ => ?_⟩
  refine PySem.W.methodCall_KW (pl := plainOf o X.env) ?_ (eval_mcall hb hs hl hn)
  have ho' : tE Z W fo σ H fun x H1 => ∃ n c dx fs i a m1 h1, x = .ref a ∧ H1 a = some (.ins (Z.ca c) dx fs) ∧ T.mt c mn = some i ∧ fs.lookup mn = none ∧ m1 n = some a ∧ RS Z m1 h1 H1 ∧ RSl Z m1 H1 sl σ ∧ GP rhoE Z W m1 σ H1 Q ((g sl h1).bind fun ds h2 => cl i (.ref n :: ds) h2) := by
    refine tG_then rs rl p fun m1 h1 H1 d v x1 rs1 rl1 r1 p1 => ?_
    split at p1
    · rename_i n
      split at p1
      · rename_i c fs e
        split at p1
        · rename_i i e1 e2
          cases r1 with
          | ref hm =>
            obtain ⟨dx, vs, h3, h4⟩ := rs1.ins _ _ _ _ hm e
            exact ⟨n, c, dx, vs, i, _, m1, h1, rfl, h3, e1, (h4.lookup mn).1 e2, hm, rs1, rl1, p1⟩
        · exact p1.elim
      · exact p1.elim
    · exact p1.elim
  refine thn (ho.run pins s σ H _ I ho') fun u s1 ⟨x, H1, I1, rx, n, c, dx, fs, i, a, m1, h1, ex, ea, ei, el, hm, rs1, rl1, p1⟩ => ?_
  subst ex
  obtain rfl : u = Value.ref a := rx
  obtain ⟨f, fd, ps, hM, hB, hF⟩ := (M c i ei).run
  refine getmeth_ok I1 ea (M c i ei).cls hM el ?_
  cases es with
  | nil =>
    have hg := hg0 rfl
    subst hg
    exact PySem.W.callWith_K0 (first := [.ref a]) I1.kIn hM.kp (run_fnS (us := [.ref a]) (vs := [.ref a]) (E := WE W) hF hr hB (passAt tk σ) I1 (.cons rfl .nil) ⟨m1, h1, [.ref n], rs1, .cons (.ref hm) .nil, GP.shift p1⟩)
  | cons e es =>
    obtain ⟨hs1, hs2⟩ := Bool.and_eq_true_iff.mp (show (noStar e && allNoStar es) = true from hs)
    refine PySem.W.callWith_K (first := [.ref a]) (h₀ := X.base) I.ok.mod.kin hM.kp (thn (ha.run pos pins s1 σ H1 (fun vs H2 => ∃ m2 h2 ds, Ext m1 H1 m2 H2 ∧ RS Z m2 h2 H2 ∧ RVs Z m2 H2 ds vs ∧ GP rhoE Z W m2 σ H2 Q (cl i (.ref n :: ds) h2)) I1 (tG_then rs1 rl1 p1 fun m2 h2 H2 ds vs x2 rs2 rl2 r2 p2 => ⟨m2, h2, ds, x2, rs2, r2, p2⟩)) fun us s2 ⟨vs, H2, I2, r2, m2, h2, ds, x2, rs2, rd, p2⟩ => ⟨I2.kIn, ?_⟩) (star_one hs1) (star_all hs2)
    exact run_fnS (us := .ref a :: us) (vs := .ref a :: vs) (E := WE W) hF hr hB (passAt tk σ) I2 (.cons rfl r2) ⟨m2, h2, .ref n :: ds, rs2, .cons (.ref (x2.up _ _ hm)) rd, GP.shift p2⟩
/-! ### fields -/
def attE (T : Tb) (f : Str) (fo : EF) : EF := fun s h => (fo s h).bind fun x h1 => match x with
  | .ref n => match h1[n]? with
    | some (.ins c fs) => match T.att c f, fs.lookup f with
      | true, some d => .ok d h1
      | _, _ => .stk
    | _ => .stk
  | _ => .stk
theorem e_att {T : Tb} {o : Expr} {f : Str} {pos : Pos} {fo : EF} (M : ∀ c, T.att c f = true → Cls X.K (Z.ca c) ∧ NoAttr X.K (Z.ca c) f) (hb : noSuper o = true) (ho : PE X o (tE Z W fo)) : PE X (.Attribute o f pos) (tE Z W (attE T f fo)) :=
  (pe_fld ho (base_of hb)).imp fun σ H Q ⟨m, h, s, rs, rl, p⟩ => by
    refine tG_then rs rl p fun m1 h1 H1 d v x1 rs1 rl1 r1 p1 => ?_
    split at p1
    · rename_i n
      split at p1
      · rename_i c fs e
        split at p1
        · rename_i d e1 e2
          cases r1 with
          | ref hm =>
            obtain ⟨dx, vs, h3, h4⟩ := rs1.ins _ _ _ _ hm e
            obtain ⟨v, h5, h6⟩ := (h4.lookup f).2 _ e2
            exact ⟨_, _, dx, vs, v, rfl, h3, (M c e1).1, (M c e1).2, h5, GP.fin p1 rs1 h6⟩
        · exact p1.elim
      · exact p1.elim
    · exact p1.elim
/-! ### a new instance -/
theorem run_makeS {C f : Addr} {sp : Sp} {E : St → XK} {pins : List (Addr × Obj)} {σ : St} {H : Hp} {s : Shared} {Q : VK} {us : List Value} {vs : List V} {CX : CXT} (M : Mk X.K C f) (F : FnOk X.prog X.w X.K X.mg X.base CX k f fd ps sp) (hr : Room (k + 1) X.A) (hb : Binds X.K fd ps [])
    (hx : PassesAt CX X σ (E σ)) (I : Inv X pins σ H s) (r : Vals vs us)
    (h : ∀ x dx, H x = none → H dx = none → dx ≠ x → sp (.ref x :: vs) (upd (upd H dx (.own x)) x (.ins C dx [])) (fun v H2 => v = .non ∧ Q (.ref x) H2) (E σ)) :
    wpAny (model X.prog X.w) X.A (call (.ref C) us) (EP X pins σ Q) X.xe s := by
  have hq := h (s.heap.objs.size + 1) s.heap.objs.size (I.hok.fresh (Nat.le_succ _)) (I.hok.fresh (Nat.le_refl _)) (Nat.ne_of_lt (Nat.lt_succ_self _))
  have I2 := Inv.made (C := C) I
  have r2 : Vals (V.ref (s.heap.objs.size + 1) :: vs) (Value.ref (s.heap.objs.size + 1) :: us) := .cons rfl r
  have hl : ((Value.ref (s.heap.objs.size + 1) :: us) ++ []).length = ps.length := by
    rw [List.append_nil, ← r2.length]
    exact F.len _ _ _ _ hq
  have hbb := hb { s with heap := _ } (Value.ref (s.heap.objs.size + 1) :: us) I2.kIn hl
  rw [List.append_nil] at hbb
  refine wpAny_call (make_map (f := f) I.kIn M.makes M.init (beq_iff_eq.mp M.fn) (codeAny_mono (F.run _ X.stack _ _ ⟨Value.ref (s.heap.objs.size + 1) :: us, []⟩ (Value.ref (s.heap.objs.size + 1) :: us) _ _ (E σ) (hr.make C us [])
    (I2.env0.make C us []) hbb r2 hq) fun r s' hq' => ?_))
  cases r with
  | error e => exact hx pins _ _ e s' I2 hq'
  | ok fl =>
    cases fl with
    | ret u =>
      obtain ⟨v, H', I3, rv, ev, q3⟩ := I2.after hq'
      subst ev
      exact ⟨rv, ⟨V.ref (s.heap.objs.size + 1), H', I3, rfl, q3⟩⟩
    | next => exact False.elim hq'
    | brk => exact False.elim hq'
    | cont => exact False.elim hq'
def mkE (cl : Cl) (c i : Nat) (g : LF) : EF := fun s h => (g s h).bind fun ds h1 => (cl i (.ref h1.length :: ds) (h1 ++ [.ins c []])).bind fun v h2 => match v with
  | .non => .ok (.ref h1.length) h2
  | _ => .stk
theorem mk_read {c : Nat} {m : Mp} {σ : St} {H : Hp} {h : Hh} {Q : VK} {ds : List D} {vs : List V} (rs : RS Z m h H) (r : RVs Z m H ds vs)
    (p : GP rhoE Z W m σ H Q ((cl i (.ref h.length :: ds) (h ++ [.ins c []])).bind fun v h2 => match v with
      | .non => .ok (.ref h.length) h2
      | _ => .stk)) (x dx : Addr) (hx : H x = none) (hd : H dx = none) (ne : dx ≠ x) :
    spD Z cl i (.ref x :: vs) (upd (upd H dx (.own x)) x (.ins (Z.ca c) dx [])) (fun v H2 => v = .non ∧ Q (.ref x) H2) (WE W σ) := by
  have hx2 : (upd H dx (.own x)) x = none := by rw [upd_ne (Ne.symm ne)]; exact hx
  have rs1 := rs.laid (o := .own x) hd
  have x1 := rs.laidX (o := .own x) hd
  have rs2 := rs1.ban (o := .ins (Z.ca c) dx []) hx2
  have mv := Mov.ban (o := .ins (Z.ca c) dx []) rs1 hx2
  have rs3 := rs2.add (o := .ins c []) (rs1.outN hx2).1 upd_same (.ins .nil)
  have mv2 := Mov.add rs2
  have at_ : (m.add h.length x) h.length = some x := by show (if h.length = h.length then some x else m h.length) = some x; rw [if_pos rfl]
  have dm : ∀ n a, m n = some a → n < h.length := fun n a z => (rs.dom n).mp ⟨a, z⟩
  have ext : Ext m H (m.add h.length x) (upd (upd H dx (.own x)) x (.ins (Z.ca c) dx [])) := by
    refine ⟨fun n a z => ?_, fun n a z => ?_, fun b o e _ => ?_, fun b o e => ?_, fun _ h => h, fun _ h => .inl h⟩
    · have := dm n a z
      show (if n = h.length then some x else m n) = some a
      rw [if_neg (by omega)]
      exact z
    · have z' : (if n = h.length then some x else m n) = some a := z
      split at z'
      · cases z'; exact .inr hx
      · exact .inl z'
    · rw [upd_ne (ne_of_none e hx), upd_ne (ne_of_none e hd)]; exact e
    · exact ⟨o, by rw [upd_ne (ne_of_none e hx), upd_ne (ne_of_none e hd)]; exact e⟩
  refine ⟨m.add h.length x, h ++ [.ins c []], .ref h.length :: ds, rs3, .cons (.ref at_) (((r.ext x1).mov mv).mov mv2), ?_⟩
  cases e : cl i (.ref h.length :: ds) (h ++ [.ins c []]) with
  | ok v h2 =>
    rw [e] at p
    intro m' H' v' y rs' r'
    cases r' <;> first
      | exact ⟨rfl, p m' H' (.ref x) (ext.trans y) rs' (.ref (y.up _ _ at_))⟩
      | exact p.elim
  | exc ex h2 =>
    rw [e] at p
    exact fun m' H' c dx y => p m' H' c dx (ext.trans y)
  | stk => rw [e] at p; exact p
theorem e_mk {c : Nat} {x : Str} {e : Expr} {es : List Expr} {p pos : Pos} {g : LF} (M : Mk X.K (Z.ca c) f) (F : FnOk X.prog X.w X.K X.mg X.base (L2.CX X.prog X.w) k f fd ps (spD Z cl i)) (hr : Room (k + 1) X.A) (hg : Gl X x) (hm : X.mg x = some (.ref (Z.ca c))) (hb : Binds X.K fd ps [])
    (tk : Takes X W) (hdb : (x == ("__debug__" : Str)) = false) (hs : allNoStar (e :: es) = true) (ha : PA X (e :: es) (tLs Z W g)) : PE X (.Call (.Name x p) (e :: es) [] pos) (tE Z W (mkE cl c i g)) := by
  obtain ⟨h1, h2⟩ := Bool.and_eq_true_iff.mp (show (noStar e && allNoStar es) = true from hs)
  refine ⟨fun pins s σ H Q I ⟨m, h, sl, rs, rl, q⟩ => ?_⟩
  refine wpAny_Call_Name_kw (ld_glob I hg hm ?_ hdb)
  refine PySem.W.callWith_K (h₀ := X.base) I.ok.mod.kin M.kp (thn (ha.run pos pins s σ H _ I (tG_then (Q' := fun vs H1 => ∀ x dx, H1 x = none → H1 dx = none → dx ≠ x → spD Z cl i (.ref x :: vs) (upd (upd H1 dx (.own x)) x (.ins (Z.ca c) dx [])) (fun v H2 => v = .non ∧ Q (.ref x) H2) (WE W σ)) rs rl q fun m1 h1 H1 ds vs x1 rs1 rl1 r1 p1 => mk_read rs1 r1 p1)) fun us s1 ⟨vs, H1, I1, r, q⟩ => ⟨I1.kIn, ?_⟩) (star_one h1) (star_all h2)
  exact run_makeS M F hr hb (passAt tk σ) I1 r q
theorem e_mk0 {c : Nat} {x : Str} {p pos : Pos} (M : Mk X.K (Z.ca c) f) (F : FnOk X.prog X.w X.K X.mg X.base (L2.CX X.prog X.w) k f fd ps (spD Z cl i)) (hr : Room (k + 1) X.A) (hg : Gl X x) (hm : X.mg x = some (.ref (Z.ca c))) (hb : Binds X.K fd ps [])
    (tk : Takes X W) (hdb : (x == ("__debug__" : Str)) = false) : PE X (.Call (.Name x p) [] [] pos) (tE Z W (mkE cl c i nilL)) := by
  refine ⟨fun pins s σ H Q I ⟨m, h, sl, rs, rl, q⟩ => ?_⟩
  refine wpAny_Call_Name_kw (ld_glob I hg hm ?_ hdb)
  exact PySem.W.callWith_K0 I.kIn M.kp (run_makeS (us := []) M F hr hb (passAt tk σ) I .nil (mk_read rs .nil q))
end
end Ev
set_option maxRecDepth 100000
namespace Ev
open PySem PySem.Spec L2
open PyProof.Rows hiding St
section
variable {X : Cx} {Z : Zp} {W : WX}
/-! ### methods of built-in types -/
inductive Bm where | append | extend | pop | popAt | index | count | remove | insert | join | starts
def Bm.T : Bm → String
  | .join => "str" | .starts => "str" | _ => "list"
def Bm.nm : Bm → Str
  | .append => Str.ofString "append" | .extend => Str.ofString "extend" | .pop => Str.ofString "pop" | .popAt => Str.ofString "pop" | .index => Str.ofString "index" | .count => Str.ofString "count" | .remove => Str.ofString "remove" | .insert => Str.ofString "insert"
  | .join => Str.ofString "join" | .starts => Str.ofString "startswith"
def Bm.id : Bm → String
  | .append => "list.append" | .extend => "list.extend" | .pop => "list.pop" | .popAt => "list.pop" | .index => "list.index" | .count => "list.count" | .remove => "list.remove" | .insert => "list.insert"
  | .join => "str.join" | .starts => "str.startswith"
theorem bm_attrs : ∀ b : Bm, PlainAttrs b.T
  | .append => PySem.F.plainAttrs_list | .extend => PySem.F.plainAttrs_list | .pop => PySem.F.plainAttrs_list | .popAt => PySem.F.plainAttrs_list | .index => PySem.F.plainAttrs_list | .count => PySem.F.plainAttrs_list | .remove => PySem.F.plainAttrs_list | .insert => PySem.F.plainAttrs_list
  | .join => PySem.F.plainAttrs_str | .starts => PySem.F.plainAttrs_str
theorem bm_slot : ∀ b : Bm, Slot b.T b.nm b.id
  | .append => PySem.F.slot_list_append | .extend => PySem.F.slot_list_extend | .pop => PySem.F.slot_list_pop | .popAt => PySem.F.slot_list_pop | .index => PySem.F.slot_list_index | .count => PySem.F.slot_list_count | .remove => PySem.F.slot_list_remove | .insert => PySem.F.slot_list_insert
  | .join => PySem.F.slot_str_join | .starts => PySem.F.slot_str_startswith
theorem bm_type : ∀ b : Bm, typeOf (.builtin b.id) = pure (.type "method_descriptor")
  | .append => PySem.F.type_list_append | .extend => PySem.F.type_list_extend | .pop => PySem.F.type_list_pop | .popAt => PySem.F.type_list_pop | .index => PySem.F.type_list_index | .count => PySem.F.type_list_count | .remove => PySem.F.type_list_remove | .insert => PySem.F.type_list_insert
  | .join => PySem.F.type_str_join | .starts => PySem.F.type_str_startswith
def tyB (b : Bm) (h : Hh) (x : D) : Bool := match b.T with
  | "str" => (asS x).isSome
  | _ => (lofD h x).isSome
theorem tyB_ok (b : Bm) {m : Mp} {h : Hh} {H : Hp} {d : D} {v : V} (rs : RS Z m h H) (r : RV Z m H d v) (e : tyB b h d = true) : tyV Z.K b.T v H := by
  have ls : (lofD h d).isSome = true → tyV Z.K "list" v H := fun e => by
    obtain ⟨xs, e1⟩ := Option.isSome_iff_exists.mp e
    obtain ⟨a, vs, rfl, h1, _⟩ := lof_ok rs r e1
    exact .inl ⟨rfl, vs, SqL.of h1⟩
  have ss : (asS d).isSome = true → tyV Z.K "str" v H := fun e => by
    cases r <;> first | exact rfl | cases e
  cases b <;> first | exact ls e | exact ss e
/-- the place of the first item that equals y -/
def findI (y : V) : List V → Nat → Option Nat
  | [], _ => none
  | z :: r, j => if eqV z y = true then some j else findI y r (j + 1)
def flatD : D → Option V
  | .non => some .non
  | .bl b => some (.bl b)
  | .int i => some (.int i)
  | .str x => some (.str x)
  | _ => none
theorem flatD_v (m : Mp) (H : Hp) (d : D) (v : V) (a : V) (r : RV Z m H d v) (e : flatD d = some a) : v = a := by
  cases r <;> first | (cases e; rfl) | cases e
theorem flatD_flat {d : D} {a : V} (e : flatD d = some a) : flatV a = true := by
  cases d <;> first | (cases e; rfl) | cases e
theorem asAll_flat : ∀ {ds : List D} {vs : List V}, asAll flatD ds = some vs → vs.all flatV = true
  | [], _, e => by cases e; rfl
  | d :: ds, _, e => by
    unfold asAll at e
    split at e
    · rename_i a as e1 e2
      cases e
      rw [List.all_cons, flatD_flat e1, asAll_flat e2]; rfl
    · cases e
theorem findI_spec {y : V} : ∀ {vs : List V} {k j : Nat}, findI y vs k = some j → ∃ z, k ≤ j ∧ vs[j - k]? = some z ∧ eqV z y = true ∧ ∀ (m : Nat) (z' : V), m < j - k → vs[m]? = some z' → eqV z' y = false
  | [], _, _, e => by cases e
  | z :: r, k, j, e => by
    unfold findI at e
    split at e
    · rename_i hz
      cases e
      exact ⟨z, Nat.le_refl _, by simp, hz, fun m z' hm => by omega⟩
    · rename_i hz
      obtain ⟨w, h1, h2, h3, h4⟩ := findI_spec e
      have e1 : j - k = (j - (k + 1)) + 1 := by omega
      refine ⟨w, by omega, by rw [e1]; exact h2, h3, fun m z' hm hz' => ?_⟩
      cases m with
      | zero =>
        have : z = z' := Option.some.inj hz'
        subst this
        cases q : eqV z y with
        | true => exact absurd q hz
        | false => rfl
      | succ m => exact h4 m z' (by omega) hz'
def putR (h : Hh) (n : Nat) (o : O) (d : D) : R D := .ok d (h.set n o)
def glue (a : Str) (ys : List Str) : Option D := gd ((ys.map (·.length)).sum + ys.length * a.length ≤ 16777216) (.str (Txt.join a ys))
/-- a changeable list -/
def refL (h : Hh) : D → Option (Nat × List D)
  | .ref n => match h[n]? with
    | some (.lst xs) => some (n, xs)
    | _ => none
  | _ => none
theorem refL_ok {m : Mp} {h : Hh} {H : Hp} {d : D} {v : V} {n : Nat} {xs : List D} (rs : RS Z m h H) (r : RV Z m H d v) (e : refL h d = some (n, xs)) : ∃ a vs, v = .ref a ∧ m n = some a ∧ h[n]? = some (.lst xs) ∧ H a = some (.lst vs) ∧ RVs Z m H xs vs := by
  unfold refL at e
  split at e
  · split at e
    · rename_i q
      cases e
      cases r with
      | ref hm =>
        obtain ⟨vs, h1, h2⟩ := rs.lst _ _ _ hm q
        exact ⟨_, vs, rfl, hm, q, h1, h2⟩
    · cases e
  · cases e
def meD (b : Bm) (h : Hh) (x : D) (ds : List D) : R D := match b, ds with
  | .append, [y] => match refL h x with
    | some (n, xs) => if xs.length < sizeLine then .ok .non (h.set n (.lst (xs ++ [y]))) else .stk
    | none => .stk
  | .extend, [y] => match refL h x, lofD h y with
    | some (n, xs), some ys => if xs.length + ys.length ≤ sizeLine then .ok .non (h.set n (.lst (xs ++ ys))) else .stk
    | _, _ => .stk
  | .pop, [] => match refL h x with
    | some (n, xs) => match xs[xs.length - 1]? with
      | some y => .ok y (h.set n (.lst xs.dropLast))
      | none => .stk
    | none => .stk
  | .popAt, [.int i] => match refL h x with
    | some (n, xs) => match (if -(2 ^ 63) ≤ i ∧ i < 2 ^ 63 then seqIndex? i xs.length else none) with
      | some k => match xs[k]? with
        | some y => .ok y (h.set n (.lst (xs.eraseIdx k)))
        | none => .stk
      | none => .stk
    | none => .stk
  | .index, [y] => match lofD h x, flatD y with
    | some xs, some v => match asAll flatD xs with
      | some vs => match findI v vs 0 with
        | some j => .ok (.int (j : Nat)) h
        | none => .stk
      | none => .stk
    | _, _ => .stk
  | .count, [.int k] => match intsOf h x with
    | some ns => .ok (.int (ns.count k : Nat)) h
    | none => .stk
  | .remove, [.int k] => match refL h x with
    | some (n, xs) => match asAll asI xs with
      | some ns => match ns.findIdx? (· == k) with
        | some j => .ok .non (h.set n (.lst ((ns.eraseIdx j).map .int)))
        | none => .stk
      | none => .stk
    | none => .stk
  | .insert, [.int i, y] => match refL h x with
    | some (n, xs) => if xs.length < sizeLine ∧ 0 ≤ i ∧ i < 2 ^ 63 then .ok .non (h.set n (.lst (xs.take i.toNat ++ [y] ++ xs.drop i.toNat))) else .stk
    | none => .stk
  | .join, [y] => match x, strsOf h y with
    | .str a, some ys => opt (glue a ys) h
    | _, _ => .stk
  | .starts, [.str b] => match x with
    | .str a => .ok (.bl (Txt.startswith a b)) h
    | _ => .stk
  | _, _ => .stk
/-- what is wanted of a result with a heap -/
def MQ (Z : Zp) (m : Mp) (H : Hp) (Q : VK) : R D → Prop
  | .ok d h' => ∀ m' H' v, Ext m H m' H' → RS Z m' h' H' → RV Z m' H' d v → Q v H'
  | _ => False
def rMt (Z : Zp) (f : Hh → D → List D → R D) : V → List V → Hp → VK → Prop := fun x vs H Q => ∃ m h d ds, RS Z m h H ∧ RV Z m H d x ∧ RVs Z m H ds vs ∧ MQ Z m H Q (f h d ds)
theorem MQ.put {m : Mp} {h : Hh} {H : Hp} {Q : VK} {n : Nat} {a : Addr} {u : O} {o : HO} {d : D} {v : V} (q : MQ Z m H Q (.ok d (h.set n u))) (rs : RS Z m h H) (hm : m n = some a) (ro : RO Z m H u o) (r : RV Z m H d v) : Q v (upd H a o) :=
  q m _ v (rs.putX hm) (rs.put hm (ro.mov (rs.putM hm))) (r.mov (rs.putM hm))
theorem RVs.dropLast {m : Mp} {H : Hp} {ds : List D} {vs : List V} (r : RVs Z m H ds vs) : RVs Z m H ds.dropLast vs.dropLast := by
  rw [List.dropLast_eq_take, List.dropLast_eq_take, ← r.length]
  exact r.take _
theorem RVs.erase {m : Mp} {H : Hp} {ds : List D} {vs : List V} (r : RVs Z m H ds vs) (k : Nat) : RVs Z m H (ds.eraseIdx k) (vs.eraseIdx k) := by
  rw [List.eraseIdx_eq_take_drop_succ, List.eraseIdx_eq_take_drop_succ]
  exact (r.take _).append (r.drop _)
theorem rvs0 {m : Mp} {H : Hp} {vs : List V} (r : RVs Z m H [] vs) : vs = [] := by cases r; rfl
theorem me_ok (hK : Z.K = X.K) (b : Bm) : MtR X b.id (rMt Z (meD b)) := by
  intro pins s σ H x xs v us Q I rx rxs ⟨m, h, d, ds, rs, rd, rds, q⟩
  unfold meD at q
  split at q
  · obtain ⟨y, rfl, r1⟩ := rvs1 rds
    split at q
    · rename_i n ys e
      split at q
      · rename_i hl
        obtain ⟨a, vs, rfl, hm, hg, h1, h2⟩ := refL_ok rs rd e
        exact mt_append pins s σ H _ _ v us Q I rx rxs ⟨a, vs, y, rfl, rfl, h1, by rw [← h2.length]; exact hl, q.put rs hm (.lst (h2.append (.cons r1 .nil))) .non⟩
      · exact q.elim
    · exact q.elim
  · obtain ⟨y, rfl, r1⟩ := rvs1 rds
    split at q
    · rename_i n ys zs e e2
      split at q
      · rename_i hl
        obtain ⟨a, vs, rfl, hm, hg, h1, h2⟩ := refL_ok rs rd e
        obtain ⟨b', ws, rfl, h3, h4⟩ := lof_ok rs r1 e2
        exact mt_extend pins s σ H _ _ v us Q I rx rxs ⟨a, b', vs, ws, rfl, rfl, h1, h3, by rw [← h2.length, ← h4.length]; exact hl, q.put rs hm (.lst (h2.append h4)) .non⟩
      · exact q.elim
    · exact q.elim
  · have := rvs0 rds
    subst this
    split at q
    · rename_i n ys e
      split at q
      · rename_i y hy
        obtain ⟨a, vs, rfl, hm, hg, h1, h2⟩ := refL_ok rs rd e
        obtain ⟨w, h3, h4⟩ := h2.get hy
        exact mt_pop pins s σ H _ _ v us Q I rx rxs ⟨a, vs, w, rfl, rfl, h1, by rw [← h2.length]; exact h3, q.put rs hm (.lst h2.dropLast) h4⟩
      · exact q.elim
    · exact q.elim
  · obtain ⟨y, rfl, r1⟩ := rvs1 rds
    cases r1
    split at q
    · rename_i n ys e
      split at q
      · rename_i k hk
        split at q
        · rename_i y hy
          obtain ⟨a, vs, rfl, hm, hg, h1, h2⟩ := refL_ok rs rd e
          obtain ⟨w, h3, h4⟩ := h2.get hy
          split at hk
          · rename_i hb
            exact mt_popAt pins s σ H _ _ v us Q I rx rxs ⟨a, vs, _, k, w, rfl, rfl, h1, hb.1, hb.2, by rw [← h2.length]; exact hk, h3, q.put rs hm (.lst (h2.erase k)) h4⟩
          · cases hk
        · exact q.elim
      · exact q.elim
    · exact q.elim
  · obtain ⟨y, rfl, r1⟩ := rvs1 rds
    split at q
    · rename_i ys w e e2
      split at q
      · rename_i vs e3
        split at q
        · rename_i j e4
          obtain ⟨a, ws, rfl, h1, h2⟩ := lof_ok rs rd e
          have e5 := asAll_vals (g := fun z => z) flatD_v h2 e3
          rw [List.map_id'] at e5
          subst e5
          have e6 := flatD_v _ _ _ _ _ r1 e2
          subst e6
          obtain ⟨z, h3, h4, h5, h6⟩ := findI_spec e4
          exact mt_index pins s σ H _ _ v us Q I rx rxs ⟨a, _, _, j, z, rfl, rfl, SqL.of h1, flatD_flat e2, asAll_flat e3, h4, h5, h6, q m H _ Ext.refl rs (.int _)⟩
        · exact q.elim
      · exact q.elim
    · exact q.elim
  · obtain ⟨y, rfl, r1⟩ := rvs1 rds
    cases r1
    split at q
    · rename_i ns e
      obtain ⟨a, rfl, h1⟩ := intsOf_ok rs rd e
      exact mt_lcount pins s σ H _ _ v us Q I rx rxs ⟨a, ns, _, rfl, rfl, SqL.of h1, q m H _ Ext.refl rs (.int _)⟩
    · exact q.elim
  · obtain ⟨y, rfl, r1⟩ := rvs1 rds
    cases r1
    split at q
    · rename_i n ys e
      split at q
      · rename_i ns e2
        split at q
        · rename_i k _ j e3
          obtain ⟨a, vs, rfl, hm, hg, h1, h2⟩ := refL_ok rs rd e
          have e5 := asAll_vals asI_v h2 e2
          subst e5
          obtain ⟨hj, h3, h4⟩ := List.findIdx?_eq_some_iff_getElem.mp e3
          refine mt_remove pins s σ H _ _ v us Q I rx rxs ⟨a, ns, _, j, rfl, rfl, h1, ?_, fun mm hmm e6 => ?_, q.put rs hm (.lst (rvs_map (fun i => .int i) _)) .non⟩
          · rw [List.getElem?_eq_getElem hj]
            exact congrArg some (beq_iff_eq.mp h3)
          · have hmj : mm < ns.length := by omega
            rw [List.getElem?_eq_getElem hmj] at e6
            have := h4 mm hmm
            rw [Option.some.inj e6] at this
            simp at this
        · exact q.elim
      · exact q.elim
    · exact q.elim
  · obtain ⟨y, w, rfl, r1, r2⟩ := rvs2 rds
    cases r1
    split at q
    · rename_i n ys e
      split at q
      · rename_i hl
        obtain ⟨a, vs, rfl, hm, hg, h1, h2⟩ := refL_ok rs rd e
        exact mt_insert pins s σ H _ _ v us Q I rx rxs ⟨a, vs, _, w, rfl, rfl, h1, by rw [← h2.length]; exact hl.1, hl.2.1, hl.2.2, q.put rs hm (.lst (((h2.take _).append (.cons r2 .nil)).append (h2.drop _))) .non⟩
      · exact q.elim
    · exact q.elim
  · obtain ⟨y, rfl, r1⟩ := rvs1 rds
    split at q
    · rename_i a ys e
      cases rd
      cases e2 : glue a ys with
      | none => rw [e2] at q; exact q.elim
      | some z =>
        rw [e2] at q
        obtain ⟨hl, rfl⟩ := gd_some e2
        obtain ⟨p, rfl, h1⟩ := strsOf_ok rs r1 e
        exact mt_join pins s σ H _ _ v us Q I rx rxs ⟨a, p, ys, rfl, rfl, h1.elim (fun z => .inr (hK ▸ z)) (fun z => .inl (SqL.of z)), hl, q m H _ Ext.refl rs (.str _)⟩
    · exact q.elim
  · obtain ⟨y, rfl, r1⟩ := rvs1 rds
    cases r1
    split at q
    · cases rd
      exact mt_startswith pins s σ H _ _ v us Q I rx rxs ⟨_, _, rfl, rfl, q m H _ Ext.refl rs (.bl _)⟩
    · exact q.elim
  · exact q.elim
theorem MQ.of {m : Mp} {σ : St} {H : Hp} {Q : VK} {r : R D} (hx : ∀ e h, r ≠ .exc e h) (p : GP rhoE Z W m σ H Q r) : MQ Z m H Q r := by
  cases r with
  | ok d h => exact p
  | exc e h => exact absurd rfl (hx e h)
  | stk => exact p
def noX {α : Type} : R α → R α
  | .exc _ _ => .stk
  | r => r
theorem MQ.noX {m : Mp} {σ : St} {H : Hp} {Q : VK} {r : R D} (p : GP rhoE Z W m σ H Q (noX r)) : MQ Z m H Q r := by
  cases r <;> exact p
def bmE (b : Bm) (fo : EF) (g : LF) : EF := fun s h => (fo s h).bind fun x h1 => if tyB b h1 x = true then (g s h1).bind fun ds h2 => noX (meD b h2 x ds) else .stk
theorem few_of {es : List Expr} {pos : Pos} {env : Env} (hs : allNoStar es = true) (hn : es.length < 30) : ((backTo pos (starEach es env)).all (fun x => !x.1) && (backToKw pos (keywordEach [] env)).all (fun x => x.1.isSome)
      && decide (es.length + ([] : List Keyword).length + (if ([] : List Keyword).isEmpty then 0 else 1) < 30)) = true := by
  rw [star_all2 hs]
  show (true && true && decide (es.length + 0 + 0 < 30)) = true
  simp; omega
theorem e_bm (hK : Z.K = X.K) (b : Bm) {o e : Expr} {es : List Expr} {mn : Str} {apos pos : Pos} {fo : EF} {g : LF} (hm : mn = b.nm) (hb : noSuper o = true) (hs : allNoStar (e :: es) = true) (hl : (apos.endLine == pos.line) = true) (hn : (e :: es).length < 30)
    (ho : PE X o (tE Z W fo)) (ha : PA X (e :: es) (tLs Z W g)) : PE X (.Call (.Attribute o mn apos) (e :: es) [] pos) (tE Z W (bmE b fo g)) := by
  subst hm
  obtain ⟨h1, h2⟩ := Bool.and_eq_true_iff.mp (show (noStar e && allNoStar es) = true from hs)
  refine (pe_bm (bm_attrs b) (bm_slot b) (bm_type b) (me_ok (Z := Z) hK b) ho ha (base_of hb) (few_of hs hn) hl (star_one h1) (star_all h2)).imp fun σ H Q ⟨m, h, s, rs, rl, p⟩ => ?_
  refine tG_then rs rl p fun m1 h1 H1 d v x1 rs1 rl1 r1 p1 => ?_
  split at p1
  · rename_i ht
    refine ⟨hK ▸ tyB_ok b rs1 r1 ht, tG_then rs1 rl1 p1 fun m2 h2 H2 ds vs x2 rs2 rl2 r2 p2 => ?_⟩
    exact ⟨m2, h2, d, ds, rs2, r1.ext x2, r2, MQ.noX p2⟩
  · exact p1.elim
theorem e_bm0 (hK : Z.K = X.K) (b : Bm) {o : Expr} {mn : Str} {apos pos : Pos} {fo : EF} (hm : mn = b.nm) (hb : noSuper o = true) (hl : (apos.endLine == pos.line) = true)
    (ho : PE X o (tE Z W fo)) : PE X (.Call (.Attribute o mn apos) [] [] pos) (tE Z W (bmE b fo nilL)) := by
  subst hm
  refine (pe_bm0 (bm_attrs b) (bm_slot b) (bm_type b) (me_ok (Z := Z) hK b) ho (base_of hb) hl).imp fun σ H Q ⟨m, h, s, rs, rl, p⟩ => ?_
  refine tG_then rs rl p fun m1 h1 H1 d v x1 rs1 rl1 r1 p1 => ?_
  split at p1
  · rename_i ht
    exact ⟨hK ▸ tyB_ok b rs1 r1 ht, m1, h1, d, [], rs1, r1, .nil, MQ.noX p1⟩
  · exact p1.elim
end
end Ev
set_option maxRecDepth 100000
namespace Ev
open PySem PySem.Spec L2
open PyProof.Rows hiding St
abbrev FF := Sl → Hh → R O
/-- what is wanted of a new object, laid at any free place -/
def FQ (Z : Zp) (m : Mp) (h : Hh) (H : Hp) (o : O) (Q : VK) : Prop := ∀ m' H' p ho, Ext m H m' H' → H p = none → H' p = some ho → Out m' p → RS Z (m'.ban p) h H' → RO Z (m'.ban p) H' o ho → Q (.ref p) H'
theorem FQ.laid {Z : Zp} {m : Mp} {H : Hp} {h : Hh} {Q : VK} {o : O} {ho : HO} (p : FQ Z m h H o Q) (rs : RS Z m h H) {q : Addr} (hq : H q = none) (ro : RO Z m H o ho) : Q (.ref q) (upd H q ho) :=
  p m _ q ho (rs.laidX hq) hq upd_same (rs.outN hq) (rs.ban hq) (ro.mov (Mov.ban rs hq))
theorem GF.opt {Z : Zp} {W : WX} {m : Mp} {σ : St} {H : Hp} {h : Hh} {Q : VK} {o : Option O} (p : GF Z W m σ H Q (opt o h)) : ∃ a, o = some a ∧ FQ Z m h H a Q := by
  cases o with
  | none => exact p.elim
  | some a => exact ⟨a, rfl, p⟩
section
variable {X : Cx} {Z : Zp} {W : WX}
def lstF (g : LF) : FF := fun s h => (g s h).bind fun ds h1 => if lim ds.length then .ok (.lst ds) h1 else .stk
theorem f_lst {es : List Expr} {g : LF} {pos : Pos} (h : PA X es (tLs Z W g)) : PE X (.List es pos) (tFr Z W (lstF g)) := (pe_lst h).imp fun σ H Q ⟨m, h, s, rs, rl, p⟩ => by
  refine tG_thenF rs rl p fun m1 h1 H1 ds vs x1 rs1 rl1 r1 p1 => ?_
  split at p1
  · rename_i hl
    exact ⟨by rw [← RVs.length r1]; exact hl, fun q hq => FQ.laid p1 rs1 hq (.lst r1)⟩
  · exact p1.elim
/-- list(x) -/
def lofF (f : EF) : FF := fun s h => (f s h).bind fun x h1 => opt ((sofD h1 x).map .lst) h1
theorem f_lof (hK : Z.K = X.K) {x : Str} {e : Expr} {p pos : Pos} {f : EF} (hg : Gl X x) (hm : X.mg x = none) (hx : x = ("list" : Str)) (hs : noStar e = true) (ha : PE X e (tE Z W f)) : PE X (.Call (.Name x p) [e] [] pos) (tFr Z W (lofF f)) := by
  subst hx
  refine (pe_callTy call_list_of hg hm (by decide +kernel) (pa_cons ha pa_nil (star_one hs)) (by decide) (by decide) (star_one hs) rfl).imp fun σ H Q ⟨m, h, s, rs, rl, p⟩ => ?_
  refine tG_thenF rs rl p fun m1 h1 H1 d v x1 rs1 rl1 r1 p1 => ?_
  obtain ⟨o, e1, q⟩ := GF.opt p1
  obtain ⟨xs, e2, rfl⟩ := Option.map_eq_some_iff.mp e1
  obtain ⟨a, vs, rfl, h2, h3⟩ := sof_ok rs1 r1 e2
  exact ⟨a, vs, rfl, h2.elim (fun z => .inr (hK ▸ z)) (fun z => .inl (SqL.of z)), fun q' hq => q.laid rs1 hq (.lst h3)⟩
/-- xs + ys, xs * k of lists -/
def catO (h : Hh) (x y : D) : Option O := match lofD h x, lofD h y with
  | some xs, some ys => if lim (xs.length + ys.length) then some (.lst (xs ++ ys)) else none
  | _, _ => none
def repO (h : Hh) (x y : D) : Option O := match lofD h x, y with
  | some xs, .int k => if -(2 ^ 63) ≤ k ∧ k < 2 ^ 63 ∧ lim (xs.length * k.toNat) then some (.lst (List.replicate k.toNat xs).flatten) else none
  | _, _ => none
def bin2F (c : Hh → D → D → Option O) (f g : EF) : FF := fun s h => (f s h).bind fun x h1 => (g s h1).bind fun y h2 => opt (c h2 x y) h2
theorem f_cat {a b : Expr} {f g : EF} {pos : Pos} (ha : PE X a (tE Z W f)) (hb : PE X b (tE Z W g)) : PE X (.BinOp a .Add b pos) (tFr Z W (bin2F catO f g)) :=
  (pe_op op_cat ha hb).imp fun σ H Q ⟨m, h, s, rs, rl, p⟩ => tG_thenF rs rl p fun m1 h1 H1 d v x1 rs1 rl1 r1 p1 => tG_thenF rs1 rl1 p1 fun m2 h2 H2 e u x2 rs2 rl2 r2 p2 => by
    obtain ⟨o, e1, q⟩ := GF.opt p2
    unfold catO at e1
    split at e1
    · rename_i xs ys e2 e3
      split at e1
      · rename_i hl
        cases e1
        obtain ⟨a, vs, rfl, h3, h4⟩ := lof_ok rs2 (r1.ext x2) e2
        obtain ⟨b, ws, rfl, h5, h6⟩ := lof_ok rs2 r2 e3
        exact ⟨a, b, vs, ws, rfl, rfl, h3, h5, by rw [← h4.length, ← h6.length]; exact hl, fun q' hq => q.laid rs2 hq (.lst (h4.append h6))⟩
      · cases e1
    · cases e1
theorem f_rep {a b : Expr} {f g : EF} {pos : Pos} (ha : PE X a (tE Z W f)) (hb : PE X b (tE Z W g)) : PE X (.BinOp a .Mult b pos) (tFr Z W (bin2F repO f g)) :=
  (pe_op op_rep ha hb).imp fun σ H Q ⟨m, h, s, rs, rl, p⟩ => tG_thenF rs rl p fun m1 h1 H1 d v x1 rs1 rl1 r1 p1 => tG_thenF rs1 rl1 p1 fun m2 h2 H2 e u x2 rs2 rl2 r2 p2 => by
    obtain ⟨o, e1, q⟩ := GF.opt p2
    unfold repO at e1
    split at e1
    · rename_i xs k e2
      split at e1
      · rename_i hl
        cases e1
        obtain ⟨a, vs, rfl, h3, h4⟩ := lof_ok rs2 (r1.ext x2) e2
        cases r2
        exact ⟨a, _, vs, rfl, rfl, h3, hl.1, hl.2.1, by rw [← h4.length]; exact hl.2.2, fun q' hq => q.laid rs2 hq (.lst (rep_rvs h4 _))⟩
      · cases e1
    · cases e1
/-- xs[lo:hi] of a list -/
def sliF (f : EF) (lo hi : OF) : FF := fun s h => (f s h).bind fun x h1 => (lo s h1).bind fun l h2 => (hi s h2).bind fun u h3 => opt ((lofD h3 x).map fun xs => .lst (cutD xs l u)) h3
theorem f_sli (hK : Z.K = X.K) {a : Expr} {lo hi : Option Expr} {f : EF} {g k : OF} {pos p2 : Pos} (ha : PE X a (tE Z W f)) (hl : PO X lo (tOi Z W g)) (hh : PO X hi (tOi Z W k)) : PE X (.Subscript a (.Slice lo hi none p2) pos) (tFr Z W (sliF f g k)) :=
  (pe_slice sl_list ha hl hh).imp fun σ H Q ⟨m, h, s, rs, rl, p⟩ => tG_thenF rs rl p fun m1 h1 H1 d v x1 rs1 rl1 r1 p1 => tG_thenF rs1 rl1 p1 fun m2 h2 H2 l l' x2 rs2 rl2 r2 p2 => by
    have e : l = l' := r2
    subst e
    refine tG_thenF rs2 rl2 p2 fun m3 h3 H3 u u' x3 rs3 rl3 r3 p3 => ?_
    have e : u = u' := r3
    subst e
    obtain ⟨o, e1, q⟩ := GF.opt p3
    obtain ⟨xs, e2, rfl⟩ := Option.map_eq_some_iff.mp e1
    obtain ⟨a, vs, rfl, h4, h5⟩ := lof_ok rs3 (RV.ext (x2.trans x3) r1) e2
    exact ⟨a, vs, rfl, SqL.of h4, fun q' hq => q.laid rs3 hq (.lst (cut_rvs h5))⟩
/-- s.split(sep), s.split(sep, k) -/
def splO (x : D) (ds : List D) : Option O := match x, ds with
  | .str a, [.str b] => if (b.length == 0) = false ∧ a.length + 2 ≤ sizeLine then some (.lst ((Txt.split a b).map .str)) else none
  | .str a, [.str b, .int k] => if (b.length == 0) = false ∧ -(2 ^ 63) ≤ k ∧ k < 2 ^ 63 ∧ a.length + 2 ≤ sizeLine then some (.lst ((Txt.splitMax a b k).map .str)) else none
  | _, _ => none
def splF (fo : EF) (g : LF) : FF := fun s h => (fo s h).bind fun x h1 => if (asS x).isSome = true then (g s h1).bind fun ds h2 => opt (splO x ds) h2 else .stk
theorem mt_spl : MtR X "str.split" (fun x vs H Q => ∃ m h d ds o, RS Z m h H ∧ RV Z m H d x ∧ RVs Z m H ds vs ∧ splO d ds = some o ∧ FQ Z m h H o Q) := by
  intro pins s σ H x xs v us Q I rx rxs ⟨m, h, d, ds, o, rs, rd, rds, e, q⟩
  unfold splO at e
  split at e
  · split at e
    · rename_i hl
      cases e
      obtain ⟨y, rfl, r1⟩ := rvs1 rds
      cases rd; cases r1
      exact mt_split pins s σ H _ _ v us Q I rx rxs ⟨_, _, rfl, rfl, hl.1, hl.2, fun p hp => q.laid rs hp (.lst (rvs_map (fun z => .str z) _))⟩
    · cases e
  · split at e
    · rename_i hl
      cases e
      obtain ⟨y, w, rfl, r1, r2⟩ := rvs2 rds
      cases rd; cases r1; cases r2
      exact mt_splitMax pins s σ H _ _ v us Q I rx rxs ⟨_, _, _, rfl, rfl, hl.1, hl.2.1, hl.2.2.1, hl.2.2.2, fun p hp => q.laid rs hp (.lst (rvs_map (fun z => .str z) _))⟩
    · cases e
  · cases e
theorem f_spl {o e : Expr} {es : List Expr} {mn : Str} {apos pos : Pos} {fo : EF} {g : LF} (hm : mn = Str.ofString "split") (hb : noSuper o = true) (hs : allNoStar (e :: es) = true) (hl : (apos.endLine == pos.line) = true) (hn : (e :: es).length < 30)
    (ho : PE X o (tE Z W fo)) (ha : PA X (e :: es) (tLs Z W g)) : PE X (.Call (.Attribute o mn apos) (e :: es) [] pos) (tFr Z W (splF fo g)) := by
  subst hm
  obtain ⟨h1, h2⟩ := Bool.and_eq_true_iff.mp (show (noStar e && allNoStar es) = true from hs)
  refine (pe_bm PySem.F.plainAttrs_str PySem.F.slot_str_split PySem.F.type_str_split (mt_spl (Z := Z)) ho ha (base_of hb) (few_of hs hn) hl (star_one h1) (star_all h2)).imp fun σ H Q ⟨m, h, s, rs, rl, p⟩ => ?_
  refine tG_thenF rs rl p fun m1 h1 H1 d v x1 rs1 rl1 r1 p1 => ?_
  split at p1
  · rename_i ht
    refine ⟨?_, tG_thenF rs1 rl1 p1 fun m2 h2 H2 ds vs x2 rs2 rl2 r2 p2 => ?_⟩
    · cases r1 <;> first | exact rfl | cases ht
    · obtain ⟨o, e1, q⟩ := GF.opt p2
      exact ⟨m2, h2, d, ds, o, rs2, r1.ext x2, r2, e1, q⟩
  · exact p1.elim
/-- sorted(xs) of ints -/
def insI (a : Int) : List Int → List Int
  | [] => [a]
  | b :: r => if a ≤ b then a :: b :: r else b :: insI a r
def sortI : List Int → List Int
  | [] => []
  | a :: r => insI a (sortI r)
theorem insI_perm (a : Int) : ∀ l, (insI a l).Perm (a :: l)
  | [] => .refl _
  | b :: r => by
    unfold insI
    split
    · exact .refl _
    · exact ((insI_perm a r).cons b).trans (.swap a b r)
theorem insI_sorted (a : Int) : ∀ l : List Int, l.Pairwise (· ≤ ·) → (insI a l).Pairwise (· ≤ ·)
  | [], _ => by simp [insI]
  | b :: r, h => by
    unfold insI
    obtain ⟨h1, h2⟩ := List.pairwise_cons.mp h
    split
    · rename_i hab
      refine List.pairwise_cons.mpr ⟨fun y hy => ?_, h⟩
      rcases List.mem_cons.mp hy with e | hy
      · subst e; exact hab
      · exact Int.le_trans hab (h1 y hy)
    · refine List.pairwise_cons.mpr ⟨fun y hy => ?_, insI_sorted a r h2⟩
      rcases List.mem_cons.mp ((insI_perm a r).mem_iff.mp hy) with e | hy
      · subst e; omega
      · exact h1 y hy
theorem sortI_perm : ∀ l, (sortI l).Perm l
  | [] => .refl _
  | a :: r => (insI_perm a _).trans ((sortI_perm r).cons a)
theorem sortI_sorted : ∀ l, (sortI l).Pairwise (· ≤ ·)
  | [] => .nil
  | a :: r => insI_sorted a _ (sortI_sorted r)
theorem sorted_eq {l l' : List Int} (hp : l.Perm l') (h : l.Pairwise (· ≤ ·)) (h' : l'.Pairwise (· ≤ ·)) : l = l' :=
  hp.eq_of_pairwise (fun a b _ _ h1 h2 => Int.le_antisymm h1 h2) h h'
def srtF (f : EF) : FF := fun s h => (f s h).bind fun x h1 => opt ((intsOf h1 x).map fun ns => .lst ((sortI ns).map .int)) h1
theorem f_srt {x : Str} {e : Expr} {p pos : Pos} {f : EF} (hg : Gl X x) (hm : X.mg x = none) (hx : x = ("sorted" : Str)) (hs : noStar e = true) (ha : PE X e (tE Z W f)) : PE X (.Call (.Name x p) [e] [] pos) (tFr Z W (srtF f)) := by
  subst hx
  refine (pe_callB cr_sortedI hg hm (by decide +kernel) (pa_cons ha pa_nil (star_one hs)) (by decide) (by decide) (star_one hs) rfl).imp fun σ H Q ⟨m, h, s, rs, rl, p⟩ => ?_
  refine tG_thenF rs rl p fun m1 h1 H1 d v x1 rs1 rl1 r1 p1 => ?_
  obtain ⟨o, e1, q⟩ := GF.opt p1
  obtain ⟨ns, e2, rfl⟩ := Option.map_eq_some_iff.mp e1
  obtain ⟨a, rfl, h2⟩ := intsOf_ok rs1 r1 e2
  refine ⟨a, ns, rfl, SqL.of h2, fun ns' q' hp hs hq => ?_⟩
  have := sorted_eq (hp.trans (sortI_perm ns).symm) hs (sortI_sorted ns)
  subst this
  exact q.laid rs1 hq (.lst (rvs_map (fun i => .int i) _))
end
end Ev
set_option maxRecDepth 100000
/-! enumerate over a tuple -/
namespace PySem
open Sem (wp)
open AutoSeq1 (wpAny_loadPart')
set_option maxHeartbeats 1000000 in
theorem meets_enumerate_newT (l : Addr) (items : Array Value) (n : Nat) (dct : Option Addr) (sl : Array (Option Value)) :
    Meets (Builtin.«enumerate.__new__» ⟨[.type "enumerate", .ref l], []⟩) (fun _ R s => s.heap.get? l = some { cls := .type "tuple", dict := dct, data := .seq items n, slots := sl } ∧
      R (.ok (.ret (.ref (s.heap.push { cls := .type "tuple_iterator", data := .fields #[.ref l, .int 0 0] }).objs.size)))
        { s with heap := (s.heap.push { cls := .type "tuple_iterator", data := .fields #[.ref l, .int 0 0] }).push { cls := .type "enumerate", data := .fields #[.none, .bool false, .ref s.heap.objs.size, rawInt 0, .none, .none] } }) :=
  .of_wp fun prog w A R s h => by
    obtain ⟨hp, g, d, tk, os⟩ := s; obtain ⟨hl, h⟩ := h
    have hsub := sub_enumerate
    have hL : Heap.IsTuple (Shared.heap ⟨hp, g, d, tk, os⟩) l items := ⟨_, hl, rfl, n, rfl⟩
    wp_walk using wpAny_loadPart' hl
    refine wpAny_stack_any fun st => wpAny_pure ?_
    split
    · rename_i c _ _ _ _ _
      cases (c == Value.type "enumerate")
      · wp_walk using wpAny_loadPart' hl, wpAny_pyIter_tuple hL
        exact ⟨_, rfl, h⟩
      · wp_walk using wpAny_loadPart' hl, wpAny_pyIter_tuple hL
        exact ⟨_, rfl, h⟩
    · wp_walk using wpAny_loadPart' hl, wpAny_pyIter_tuple hL
      exact ⟨_, rfl, h⟩
section
variable {prog : Program} {w : World} {A : Around} {E : Value → Shared → Prop} {s : Shared}
theorem call_enumerate_tuple {l : Addr} {items : Array Value} {Q : Value → Shared → Prop} (hL : s.heap.IsTuple l items)
    (h : ∀ h', IsEnum h' (s.heap.objs.size + 1) s.heap.objs.size 0 .none → h'.IsTupleIter s.heap.objs.size l 0 → h'.objs.size = s.heap.objs.size + 2 →
      (∀ b o, s.heap.get? b = some o → h'.get? b = some o) → Q (.ref (s.heap.objs.size + 1)) { s with heap := h' }) :
    wpAny (model prog w) A (call (.type "enumerate") [.ref l]) Q E s := by
  obtain ⟨⟨c, dct, dt, sl⟩, hl, hc, n, hd⟩ := hL
  replace hc : c = .type "tuple" := hc
  replace hd : dt = .seq items n := hd
  subst hc hd
  refine callType_new F.called_enumerate (by decide) (F.typeCall_enumerate_1 _) (F.newCall_enumerate_1 _) (fun obj => F.args_object_init_2 obj _) F.entry_enumerate_new
    (meets_enumerate_newT l items n dct sl) ⟨hl, ?_⟩
  have hz : (s.heap.push { cls := .type "tuple_iterator", data := .fields #[.ref l, .int 0 0] }).objs.size = s.heap.objs.size + 1 := Heap.size_push ..
  show _ ∧ _
  rw [hz]
  have he : IsEnum ((s.heap.push { cls := .type "tuple_iterator", data := .fields #[.ref l, .int 0 0] }).push
      { cls := .type "enumerate", data := .fields #[.none, .bool false, .ref s.heap.objs.size, rawInt 0, .none, .none] }) (s.heap.objs.size + 1) s.heap.objs.size 0 .none := by
    have := Heap.get?_push_size (s.heap.push { cls := .type "tuple_iterator", data := .fields #[.ref l, .int 0 0] })
      (o := { cls := .type "enumerate", data := .fields #[.none, .bool false, .ref s.heap.objs.size, rawInt 0, .none, .none] }) rfl
    rw [hz] at this; exact this
  refine ⟨⟨_, he, rfl⟩, h _ he ⟨_, Heap.get?_push_of_some _ (Heap.get?_push_size _ rfl), rfl, rfl⟩ (by rw [Heap.size_push, hz]) fun b o x => Heap.get?_push_of_some _ (Heap.get?_push_of_some _ x)⟩
end
end PySem
namespace Ev
open PySem PySem.Spec L2
open PyProof.Rows hiding St
def IteT (K : PySem.W.Frag) (a : Addr) : It :=
  ⟨fun i H => ∃ (xs : List V) (x : V), SqT K H a xs ∧ xs[i]? = some x, fun i H v H' => ∃ T x, v = .ref T ∧ H T = none ∧ H' = upd H T (.tup [.int (i : Nat), x]) ∧ ∀ xs, SqT K H a xs → xs[i]? = some x, fun i H => ∃ xs : List V, SqT K H a xs ∧ xs.length ≤ i⟩
theorem turn_enumT {P : Program} {w : World} {K : PySem.W.Frag} {elts : List Expr} {kk : Nat} {tpos : Pos} (a e it : Addr) (hne : e ≠ it) (hae : a ≠ e) (hai : a ≠ it) :
    Turn P w K (.Tuple elts kk tpos) (IteT K a) [e, it] e (fun i h => (∃ old, IsEnum h e it ((i : Nat) : Int) old) ∧ h.IsTupleIter it a i) where
  mem := by simp
  obj := fun i h st b hb => by
    obtain ⟨⟨old, he⟩, ⟨o, ho, hc, hd⟩⟩ := st
    have e' : b = e ∨ b = it := by simpa using hb
    rcases e' with z | z
    · rw [z]; exact ⟨_, he, fun v q => nomatch q⟩
    · rw [z]; exact ⟨o, ho, fun v q => by rw [hd] at q; cases q⟩
  keep := fun i h h' st k => let ⟨⟨old, he⟩, hi⟩ := st; ⟨⟨old, k e (by simp) _ he⟩, hi.at fun o q => k it (by simp) o q⟩
  item := by
    intro X hP hw hK hc i pins s σ H E I hf st hg
    subst hP hw hK
    obtain ⟨⟨old, he⟩, hit⟩ := st
    obtain ⟨xs, x, hq, hx⟩ := hg
    obtain ⟨its, rv, p, hz⟩ := I.tuple hq
    obtain ⟨u, hu, ru⟩ := rv.get hx
    have hel : e < s.heap.objs.size := Heap.lt_size he
    have hil : it < s.heap.objs.size := by obtain ⟨_, q, _⟩ := hit; exact Heap.lt_size q
    have pt : s.heap.IsTuple a its.toArray := p
    have D := Draws.tuple (prog := X.prog) (w := X.w) (A := X.A.in1) (show X.A.in1.handled = none from I.ok.hd hc) it a hai its.toArray
    have hi : i < its.toArray.size := by
      have := (List.getElem?_eq_some_iff.mp hu).1
      simpa using this
    refine wpAny_pyNext_enum_itemD D he ⟨hit, pt⟩ hi hne (by simp only [List.mem_cons, List.not_mem_nil, or_false, not_or]; exact ⟨hne, Ne.symm hae⟩) fun y h' tk hy ho hit' hT hsz hk => ?_
    have hy' : y = u := by
      have : its[i]? = some y := by simpa using hy
      rw [hu] at this
      exact (Option.some.inj this).symm
    subst hy'
    refine ⟨_, rfl, wpAny_letOwnedTupleGo_enum (s := { s with heap := h', toks := tk + 1 }) ho fun h'' he' sb => ?_⟩
    have hT2 : h''.get? s.heap.objs.size = some { cls := .type "tuple", data := .seq #[.int i tk, y] } := (sb.2 _ (Nat.ne_of_gt hel)).trans hT
    have new : ObjOk X.prog X.w (upd H s.heap.objs.size (.tup [.int (i : Nat), x])) h'' s.heap.objs.size (.tup [.int (i : Nat), x]) :=
      ⟨by show 2 ≤ sizeLine; decide, [.int i tk, y], .cons ⟨_, rfl⟩ (.cons ru .nil), ⟨_, hT2, rfl, _, rfl⟩⟩
    have I1 : Inv X pins σ (upd H s.heap.objs.size (.tup [.int (i : Nat), x])) { s with heap := h'', toks := tk + 1 } :=
      I.turnedNew (ch := [e, it]) (fun b ob hb q => (sb.2 b (fun z => hb (by simp [z]))).trans (hk b ob (fun z => hb (by simp [z])) (fun z => hb (by simp [z])) q)) hf (Nat.le_refl _) new
    refine ⟨.ref s.heap.objs.size, _, I1, rfl, ⟨_, x, rfl, I.hok.fresh (Nat.le_refl _), rfl, fun ys hy => by rw [I.tuple_inj hy hq]; exact hx⟩, ⟨⟨y, ?_⟩, hit'.1.at fun o q => (sb.2 it (Ne.symm hne)).trans q⟩, fun b hb => ?_⟩
    · have e1 : ((i + 1 : Nat) : Int) = (i : Int) + 1 := by omega
      rw [e1]; exact he'
    · have hb' : b < s.heap.objs.size := by
        have e' : b = e ∨ b = it := by simpa using hb
        rcases e' with z | z
        · rw [z]; exact hel
        · rw [z]; exact hil
      rw [upd_ne (Nat.ne_of_lt hb')]
      exact (hf b hb).1
  done := by
    intro X hP hw hK hc i pins s σ H E I hf st hg
    subst hP hw hK
    obtain ⟨⟨old, he⟩, hit⟩ := st
    obtain ⟨xs, hq, hx⟩ := hg
    obtain ⟨its, rv, p, hz⟩ := I.tuple hq
    obtain ⟨f0, f1, f2, f3, f4, f5⟩ := hf it (by simp)
    have hl := rv.length
    have hT : s.TypeIs (.ref e) "enumerate" := ⟨_, he, rfl⟩
    unfold pyNext
    refine wpAny_bind (wpAny_attempt (wpAny_callSpecial?_slot (name := Str.ofString "__next__") hT F.slot_enumerate_next
      (wpAny_call_entry F.slot_enumerate_next hT F.entry_enumerate_next ?_ (F.args_enumerate_next_1 _))))
    show wpAny _ _ (field (.ref e) 2 >>= _) _ _ _
    refine wpAny_bind (wpAny_field he rfl (x := .ref it) rfl ?_)
    refine wpAny_bind (RZ.nextOf_tuple_end (I.ok.hd hc) hit (show s.heap.IsTuple a its.toArray from p) (by simp; omega) fun h' x he' hx' => ?_)
    obtain ⟨o, ho, hcl⟩ := hx'
    refine wpAny_bind (wpAny_isInstance (T := "StopIteration") (b := true) ⟨o, ho, hcl⟩ isSubtype_stop ?_)
    exact wpAny_pure ⟨rfl, I.turned (t' := s.toks) (fun b o hb q => he' b o hb q) f0 f1 f3 f4 f5⟩
  self := fun A i s Q E st h => let ⟨⟨_, he⟩, _⟩ := st; wpAny_pyIter_enum he h
def iEnumA (K : PySem.W.Frag) (ta : TA) : TI := fun σ H R => ta σ H fun vs H1 => ∃ a xs, vs = [.ref a] ∧ ((SqL K H1 a xs ∧ R (Ite K a) H1) ∨ (SqT K H1 a xs ∧ R (IteT K a) H1))
theorem pi_enumA {X : Cx} {e : Expr} {ta : TA} {p pos tpos : Pos} {elts : List Expr} {kk : Nat} (hg : Gl X "enumerate") (hm : X.mg "enumerate" = none) (ha : PA X [e] ta) (hs : starEach [e] X.env = [(false, eval e X.env)] := by rfl) :
    PI X (.Tuple elts kk tpos) (.Call (.Name "enumerate" p) [e] [] pos) (iEnumA X.K ta) := by
  refine ⟨fun pins s σ H R I h => ?_⟩
  refine Call_ (ld_blt I hg hm boot_enumerate (PyProof.Rows.callWith_type1 (thn (ha.run pos pins s σ H _ I h) fun us s1 ⟨vs, H1, I1, r1, q1⟩ => ?_) hs rfl))
  obtain ⟨a, xs, ex, hq⟩ := q1
  subst ex
  cases r1 with
  | cons r rr =>
    cases rr
    cases r
    have fin : ∀ {h' : Heap} {J : It} {tn : Nat → Heap → Prop}, (∀ b o, s1.heap.get? b = some o → h'.get? b = some o) → Turn X.prog X.w X.K (.Tuple elts kk tpos) J [s1.heap.objs.size + 1, s1.heap.objs.size] (s1.heap.objs.size + 1) tn → tn 0 h' → R J H1 →
        PIE X pins σ (.Tuple elts kk tpos) R (.ref (s1.heap.objs.size + 1)) { s1 with heap := h' } := fun {h' J tn} hk T t0 q => by
      have I2 : Inv X pins σ H1 { s1 with heap := h' } := I1.kept (t' := s1.toks) hk
      refine ⟨s1.heap.objs.size + 1, [s1.heap.objs.size + 1, s1.heap.objs.size], tn, J, H1, rfl, I2, T, t0, fun b hb => ?_, q⟩
      have e' : b = s1.heap.objs.size + 1 ∨ b = s1.heap.objs.size := by simpa using hb
      have hle : s1.heap.objs.size ≤ b := by
        rcases e' with z | z
        · rw [z]; exact Nat.le_add_right _ _
        · rw [z]; exact Nat.le_refl _
      exact I1.fpOk hle (I1.hok.fresh hle)
    rcases hq with ⟨hq, q⟩ | ⟨hq, q⟩
    · obtain ⟨its, rv, p', hz⟩ := I1.list hq
      refine call_enumerate_list p'.isList fun h' he hit hsz hk => wpAny_pyIter_enum he ?_
      exact fin hk (turn_enum a _ _) ⟨⟨.none, he⟩, hit, Nat.succ_ne_self _⟩ q
    · obtain ⟨its, rv, p', hz⟩ := I1.tuple hq
      obtain ⟨o, ho, _⟩ := id p'
      have hlt := Heap.lt_size ho
      refine call_enumerate_tuple (show s1.heap.IsTuple a its.toArray from p') fun h' he hit hsz hk => wpAny_pyIter_enum he ?_
      exact fin hk (turn_enumT a _ _ (Nat.succ_ne_self _) (Nat.ne_of_lt (Nat.lt_succ_of_lt hlt)) (Nat.ne_of_lt hlt)) ⟨⟨.none, he⟩, hit⟩ q
end Ev
set_option maxRecDepth 100000
namespace Ev
open PySem PySem.Spec L2
open PyProof.Rows hiding St
open RZ (ItzT pi_zipA iZipA)
/-- changeable lists that a loop walks: they must stand still -/
abbrev Gs := List (Nat × List D)
def gok (gs : Gs) (h : Hh) : Prop := ∀ p ∈ gs, h[p.1]? = some (.lst p.2)
/-- an iterator that gives the items xs -/
structure ItOk (Z : Zp) (J : It) (xs : List D) (gs : Gs) (m0 : Mp) (H0 : Hp) : Prop where
  go : ∀ m h H i, Ext m0 H0 m H → RS Z m h H → gok gs h → i < xs.length → J.go i H ∧ ∀ x H', J.yld i H x H' → Ext m H m H' ∧ RS Z m h H' ∧ ∃ d, xs[i]? = some d ∧ RV Z m H' d x
  stop : ∀ m h H, Ext m0 H0 m H → RS Z m h H → gok gs h → J.stop xs.length H
theorem ItOk.ext {Z : Zp} {J : It} {xs : List D} {gs : Gs} {m0 m1 : Mp} {H0 H1 : Hp} (k : ItOk Z J xs gs m0 H0) (x : Ext m0 H0 m1 H1) : ItOk Z J xs gs m1 H1 :=
  ⟨fun m h H i y => k.go m h H i (x.trans y), fun m h H y => k.stop m h H (x.trans y)⟩
structure Iv where
  xs : List D
  gs : Gs
abbrev IF := Sl → Hh → R Iv
def IP (Z : Zp) (W : WX) (m : Mp) (σ : St) (H : Hp) (Q : It → Hp → Prop) : R Iv → Prop
  | .ok v h' => ∀ m' H' J, Ext m H m' H' → RS Z m' h' H' → ItOk Z J v.xs v.gs m' H' → Q J H'
  | .exc e h' => ∀ m' H' c dx, Ext m H m' H' → RS Z m' h' H' → RX Z m' H' e c dx → W c dx σ H'
  | .stk => False
theorem IP.ext {Z : Zp} {W : WX} {m m' : Mp} {σ : St} {H H' : Hp} {Q : It → Hp → Prop} {r : R Iv} (x : Ext m H m' H') (p : IP Z W m σ H Q r) : IP Z W m' σ H' Q r := by
  cases r with
  | ok d h => exact fun m2 H2 v y => p m2 H2 v (x.trans y)
  | exc e h => exact fun m2 H2 c dx y => p m2 H2 c dx (x.trans y)
  | stk => exact p
def tIt (Z : Zp) (W : WX) (f : IF) : TI := fun σ H Q => ∃ m h s, RS Z m h H ∧ RSl Z m H s σ ∧ IP Z W m σ H Q (f s h)
theorem _root_.L2.PI.imp {X : Cx} {tg e : Expr} {t t' : TI} (h : PI X tg e t) (i : ∀ σ H Q, t' σ H Q → t σ H Q) : PI X tg e t' := ⟨fun pins s σ H Q I q => h.run pins s σ H Q I (i σ H Q q)⟩
theorem tG_thenI {α β : Type} {ρ : Rl α β} {Z : Zp} {W : WX} {m : Mp} {h : Hh} {s : Sl} {σ : St} {H : Hp} {f : Sl → Hh → R α} {g : α → Hh → R Iv} {Q : It → Hp → Prop} {Q' : β → Hp → Prop} (rs : RS Z m h H) (rl : RSl Z m H s σ)
    (p : IP Z W m σ H Q ((f s h).bind g))
    (k : ∀ m1 h1 H1 d v, Ext m H m1 H1 → RS Z m1 h1 H1 → RSl Z m1 H1 s σ → ρ.r Z H m1 H1 d v → IP Z W m1 σ H1 Q (g d h1) → Q' v H1) : tG ρ Z W f σ H Q' := by
  refine ⟨m, h, s, rs, rl, ?_⟩
  cases e : f s h with
  | ok d h1 =>
    rw [e] at p
    exact fun m1 H1 v x rs1 rv => k m1 h1 H1 d v x rs1 (rl.ext x) rv (IP.ext x p)
  | exc ex h1 =>
    rw [e] at p
    exact p
  | stk =>
    rw [e] at p
    exact p
section
variable {X : Cx} {Z : Zp} {W : WX}
/-- a source: its items, and the guard of a changeable list -/
def srcD (h : Hh) (d : D) : Option Iv := match d with
  | .ref n => match h[n]? with
    | some (.lst xs) => some ⟨xs, [(n, xs)]⟩
    | _ => none
  | d => (sofD h d).map fun xs => ⟨xs, []⟩
/-- what a source is, now and later -/
theorem src_ok {m : Mp} {h : Hh} {H : Hp} {d : D} {v : V} {iv : Iv} (rs : RS Z m h H) (r : RV Z m H d v) (e : srcD h d = some iv) : ∃ a, v = .ref a ∧
    ((∃ vs, H a = some (.lst vs) ∧ ∀ m' h' H', Ext m H m' H' → RS Z m' h' H' → gok iv.gs h' → ∃ vs, H' a = some (.lst vs) ∧ RVs Z m' H' iv.xs vs) ∨
     (∃ vs, SqT Z.K H a vs ∧ ∀ m' h' H', Ext m H m' H' → RS Z m' h' H' → gok iv.gs h' → SqT Z.K H' a vs ∧ RVs Z m' H' iv.xs vs)) := by
  unfold srcD at e
  split at e
  · split at e
    · rename_i q
      cases e
      cases r with
      | ref hm =>
        obtain ⟨vs, h1, _⟩ := rs.lst _ _ _ hm q
        exact ⟨_, rfl, .inl ⟨vs, h1, fun m' h' H' x rs' g => rs'.lst _ _ _ (x.up _ _ hm) (g _ List.mem_cons_self)⟩⟩
    · cases e
  · rename_i hnr
    obtain ⟨xs, e1, rfl⟩ := Option.map_eq_some_iff.mp e
    cases r with
    | tup st r1 =>
      cases e1
      exact ⟨_, rfl, .inr ⟨_, st.sq, fun m' h' H' x rs' g => ⟨(st.ext x).sq, r1.ext x⟩⟩⟩
    | lst h1 h2 r1 =>
      cases e1
      exact ⟨_, rfl, .inl ⟨_, h1, fun m' h' H' x rs' g => ⟨_, x.keep _ _ h1 h2.1, r1.ext x⟩⟩⟩
    | ref hm => exact absurd rfl (hnr _)
    | _ => cases e1
def seqI (f : EF) : IF := fun s h => (f s h).bind fun x h1 => opt (srcD h1 x) h1
theorem IP.opt {m : Mp} {σ : St} {H : Hp} {h : Hh} {Q : It → Hp → Prop} {o : Option Iv} (p : IP Z W m σ H Q (opt o h)) : ∃ a, o = some a ∧ ∀ m' H' J, Ext m H m' H' → RS Z m' h H' → ItOk Z J a.xs a.gs m' H' → Q J H' := by
  cases o with
  | none => exact p.elim
  | some a => exact ⟨a, rfl, p⟩
theorem it_list {K : PySem.W.Frag} (hK : Z.K = K) {a : Addr} {xs : List D} {gs : Gs} {m : Mp} {H : Hp} (k : ∀ m' h' H', Ext m H m' H' → RS Z m' h' H' → gok gs h' → ∃ vs, H' a = some (.lst vs) ∧ RVs Z m' H' xs vs) : ItOk Z (Itl K a) xs gs m H := by
  refine ⟨fun m' h' H' i x rs g hi => ?_, fun m' h' H' x rs g => ?_⟩
  · obtain ⟨vs, h1, h2⟩ := k m' h' H' x rs g
    have hv : i < vs.length := by rw [← h2.length]; exact hi
    refine ⟨⟨vs, vs[i], SqL.of h1, by simp [hv]⟩, fun y H2 q => ?_⟩
    obtain ⟨e, q⟩ := q
    subst e
    have q1 := q vs (SqL.of h1)
    obtain ⟨d, h3, h4⟩ := h2.get' q1
    exact ⟨Ext.refl, rs, d, h3, h4⟩
  · obtain ⟨vs, h1, h2⟩ := k m' h' H' x rs g
    exact ⟨vs, SqL.of h1, by rw [h2.length]; exact Nat.le_refl _⟩
theorem it_tup {K : PySem.W.Frag} (hK : Z.K = K) {a : Addr} {xs : List D} {gs : Gs} {m : Mp} {H : Hp} {vs : List V} (k : ∀ m' h' H', Ext m H m' H' → RS Z m' h' H' → gok gs h' → SqT Z.K H' a vs ∧ RVs Z m' H' xs vs) : ItOk Z (Itt K a) xs gs m H := by
  subst hK
  refine ⟨fun m' h' H' i x rs g hi => ?_, fun m' h' H' x rs g => ?_⟩
  · obtain ⟨h1, h2⟩ := k m' h' H' x rs g
    have hv : i < vs.length := by rw [← h2.length]; exact hi
    refine ⟨⟨vs, vs[i], h1, by simp [hv]⟩, fun y H2 q => ?_⟩
    obtain ⟨e, q⟩ := q
    subst e
    have q1 := q vs h1
    obtain ⟨d, h3, h4⟩ := h2.get' q1
    exact ⟨Ext.refl, rs, d, h3, h4⟩
  · obtain ⟨h1, h2⟩ := k m' h' H' x rs g
    exact ⟨vs, h1, by rw [h2.length]; exact Nat.le_refl _⟩
/-- for x in a list or a tuple -/
theorem piLT {tg l : Expr} {tl : TE} (hl : PE X l tl) : PI X tg l (fun σ H R => tl σ H fun x H1 => ∃ a, x = .ref a ∧ ((∃ vs, SqL X.K H1 a vs) ∧ R (Itl X.K a) H1 ∨ (∃ vs, SqT X.K H1 a vs) ∧ R (Itt X.K a) H1)) := by
  refine ⟨fun pins s σ H R I h => ?_⟩
  refine thn (hl.run pins s σ H (fun x H1 => ∃ a, x = .ref a ∧ ((∃ vs, SqL X.K H1 a vs) ∧ R (Itl X.K a) H1 ∨ (∃ vs, SqT X.K H1 a vs) ∧ R (Itt X.K a) H1)) I h) fun u s1 ⟨x, H1, I1, r1, a, ex, q⟩ => ?_
  subst ex
  obtain rfl : u = Value.ref a := r1
  rcases q with ⟨⟨xs, hs⟩, q⟩ | ⟨⟨xs, hs⟩, q⟩
  · obtain ⟨its, rv, ⟨o, n, ho, hc, hd0, hd⟩, hz⟩ := I1.list hs
    refine wpAny_pyIter_list ⟨o, ho, hc, n, hd⟩ ?_
    have I2 : Inv X pins σ H1 { s1 with heap := s1.heap.push { cls := .type "list_iterator", data := .fields #[.ref a, .int 0 0] } } := I1.kept (t' := s1.toks) fun b ob q => Heap.get?_push_of_some _ q
    exact ⟨s1.heap.objs.size, [s1.heap.objs.size], _, _, H1, rfl, I2, turn_list a s1.heap.objs.size, ⟨_, Heap.get?_push_size _ rfl, rfl, rfl⟩, fun b hb => by
      have e : b = s1.heap.objs.size := by simpa using hb
      subst e
      exact I1.fpOk (Nat.le_refl _) (I1.hok.fresh (Nat.le_refl _)), q⟩
  · obtain ⟨its, rv, p, hz⟩ := I1.tuple hs
    refine wpAny_pyIter_tuple (show s1.heap.IsTuple a its.toArray from p) ?_
    have I2 : Inv X pins σ H1 { s1 with heap := s1.heap.push { cls := .type "tuple_iterator", data := .fields #[.ref a, .int 0 0] } } := I1.kept (t' := s1.toks) fun b ob q => Heap.get?_push_of_some _ q
    exact ⟨s1.heap.objs.size, [s1.heap.objs.size], _, _, H1, rfl, I2, turn_tuple a s1.heap.objs.size, ⟨_, Heap.get?_push_size _ rfl, rfl, rfl⟩, fun b hb => by
      have e : b = s1.heap.objs.size := by simpa using hb
      subst e
      exact I1.fpOk (Nat.le_refl _) (I1.hok.fresh (Nat.le_refl _)), q⟩
theorem i_seq (hK : Z.K = X.K) {tg l : Expr} {f : EF} (hl : PE X l (tE Z W f)) : PI X tg l (tIt Z W (seqI f)) := (piLT hl).imp fun σ H Q ⟨m, h, s, rs, rl, p⟩ => by
  refine tG_thenI rs rl p fun m1 h1 H1 d v x1 rs1 rl1 r1 p1 => ?_
  obtain ⟨iv, e, q⟩ := IP.opt p1
  obtain ⟨a, rfl, h2⟩ := src_ok rs1 r1 e
  rcases h2 with ⟨vs, h2, h3⟩ | ⟨vs, h2, h3⟩
  · exact ⟨a, rfl, .inl ⟨⟨vs, SqL.of h2⟩, q m1 H1 _ Ext.refl rs1 (it_list hK h3)⟩⟩
  · exact ⟨a, rfl, .inr ⟨⟨vs, hK ▸ h2⟩, q m1 H1 _ Ext.refl rs1 (it_tup hK h3)⟩⟩
/-! ### ranges -/
def rngL (lo : Int) : Nat → List D
  | 0 => []
  | n + 1 => .int lo :: rngL (lo + 1) n
theorem rngL_len (lo : Int) : ∀ n, (rngL lo n).length = n
  | 0 => rfl
  | n + 1 => congrArg (· + 1) (rngL_len (lo + 1) n)
theorem rngL_get : ∀ (n : Nat) (lo : Int) (i : Nat), i < n → (rngL lo n)[i]? = some (.int (lo + i))
  | 0, _, _, h => by omega
  | n + 1, lo, 0, _ => by simp [rngL]
  | n + 1, lo, i + 1, h => by
    have := rngL_get n (lo + 1) i (by omega)
    show (rngL (lo + 1) n)[i]? = _
    rw [this]
    congr 2
    omega
theorem it_rng {lo : Int} {n : Nat} {m : Mp} {H : Hp} : ItOk Z (Itr lo n) (rngL lo n) [] m H := by
  refine ⟨fun m' h' H' i x rs g hi => ?_, fun m' h' H' x rs g => ?_⟩
  · rw [rngL_len] at hi
    refine ⟨hi, fun y H2 q => ?_⟩
    obtain ⟨e, q⟩ := q
    subst e q
    exact ⟨Ext.refl, rs, _, rngL_get n lo i hi, .int _⟩
  · rw [rngL_len]; exact Nat.le_refl _
def rngO1 : List D → Option Iv
  | [.int j] => if -(2 ^ 62) ≤ j ∧ j < 2 ^ 62 then some ⟨rngL 0 j.toNat, []⟩ else none
  | _ => none
def rngO2 : List D → Option Iv
  | [.int i, .int j] => if -(2 ^ 62) ≤ i ∧ i < 2 ^ 62 ∧ -(2 ^ 62) ≤ j ∧ j < 2 ^ 62 then some ⟨rngL i (j - i).toNat, []⟩ else none
  | _ => none
def rng1I (g : LF) : IF := fun s h => (g s h).bind fun ds h1 => opt (rngO1 ds) h1
def rng2I (g : LF) : IF := fun s h => (g s h).bind fun ds h1 => opt (rngO2 ds) h1
theorem i_rng1 {tg a : Expr} {g : LF} {p pos : Pos} (hg : Gl X "range") (hm : X.mg "range" = none) (hs : noStar a = true) (ha : PA X [a] (tLs Z W g)) : PI X tg (.Call (.Name "range" p) [a] [] pos) (tIt Z W (rng1I g)) :=
  (pi_range1 hg hm ha (star_one hs)).imp fun σ H Q ⟨m, h, s, rs, rl, p⟩ => tG_thenI rs rl p fun m1 h1 H1 d vs x1 rs1 rl1 r1 p1 => by
    obtain ⟨iv, e, q⟩ := IP.opt p1
    unfold rngO1 at e
    split at e
    · split at e
      · rename_i hb
        cases e
        obtain ⟨v, rfl, r2⟩ := rvs1 r1
        cases r2
        exact ⟨_, rfl, hb.1, hb.2, q m1 H1 _ Ext.refl rs1 it_rng⟩
      · cases e
    · cases e
theorem i_rng2 {tg a b : Expr} {g : LF} {p pos : Pos} (hg : Gl X "range") (hm : X.mg "range" = none) (hs : allNoStar [a, b] = true) (ha : PA X [a, b] (tLs Z W g)) : PI X tg (.Call (.Name "range" p) [a, b] [] pos) (tIt Z W (rng2I g)) := by
  obtain ⟨h1, h2⟩ := Bool.and_eq_true_iff.mp (show (noStar a && (noStar b && true)) = true from hs)
  obtain ⟨h3, _⟩ := Bool.and_eq_true_iff.mp h2
  have e1 : starEach [a, b] X.env = [(false, eval a X.env), (false, eval b X.env)] := by rw [star_one h1, star_one h3]; rfl
  have e2 : starEach [b] X.env = [(false, eval b X.env)] := by rw [star_one h3]; rfl
  exact (pi_range2 hg hm ha e1 e2).imp fun σ H Q ⟨m, h, s, rs, rl, p⟩ => tG_thenI rs rl p fun m1 h1 H1 d vs x1 rs1 rl1 r1 p1 => by
    obtain ⟨iv, e, q⟩ := IP.opt p1
    unfold rngO2 at e
    split at e
    · split at e
      · rename_i hb
        cases e
        obtain ⟨v, w, rfl, r2, r3⟩ := rvs2 r1
        cases r2; cases r3
        exact ⟨_, _, rfl, hb, q m1 H1 _ Ext.refl rs1 it_rng⟩
      · cases e
    · cases e
/-! ### enumerate, zip -/
def enumL : Nat → List D → List D
  | _, [] => []
  | k, d :: r => .tup [.int (k : Nat), d] :: enumL (k + 1) r
theorem enumL_len : ∀ (l : List D) (k : Nat), (enumL k l).length = l.length
  | [], _ => rfl
  | _ :: r, k => congrArg (· + 1) (enumL_len r (k + 1))
theorem enumL_get : ∀ (l : List D) (k i : Nat) (d : D), l[i]? = some d → (enumL k l)[i]? = some (.tup [.int ((k + i : Nat) : Int), d])
  | [], _, _, _, h => by simp at h
  | d :: r, k, 0, e, h => by
    simp at h; subst h; simp [enumL]
  | d :: r, k, i + 1, e, h => by
    have := enumL_get r (k + 1) i e (by simpa using h)
    show (enumL (k + 1) r)[i]? = _
    rw [this]
    have : k + 1 + i = k + (i + 1) := by omega
    rw [this]
theorem pair_new {m : Mp} {h : Hh} {H H' : Hp} {T : Addr} {x y : V} {d e : D} (rs : RS Z m h H) (hT : H T = none) (eH : H' = upd H T (.tup [x, y])) (r1 : RV Z m H d x) (r2 : RV Z m H e y) : Ext m H m H' ∧ RS Z m h H' ∧ RV Z m H' (.tup [d, e]) (.ref T) := by
  subst eH
  exact ⟨rs.laidX hT, rs.laid hT, rs.newTup hT (.cons r1 (.cons r2 .nil))⟩
theorem it_enumL {K : PySem.W.Frag} {a : Addr} {xs : List D} {gs : Gs} {m : Mp} {H : Hp} (k : ∀ m' h' H', Ext m H m' H' → RS Z m' h' H' → gok gs h' → ∃ vs, H' a = some (.lst vs) ∧ RVs Z m' H' xs vs) : ItOk Z (Ite K a) (enumL 0 xs) gs m H := by
  refine ⟨fun m' h' H' i x rs g hi => ?_, fun m' h' H' x rs g => ?_⟩
  · obtain ⟨vs, h1, h2⟩ := k m' h' H' x rs g
    rw [enumL_len] at hi
    have hv : i < vs.length := by rw [← h2.length]; exact hi
    refine ⟨⟨vs, vs[i], SqL.of h1, by simp [hv]⟩, fun y H2 q => ?_⟩
    obtain ⟨T, x0, rfl, hT, eH, q⟩ := q
    obtain ⟨d, h3, h4⟩ := h2.get' (q vs (SqL.of h1))
    obtain ⟨n1, n2, n3⟩ := pair_new rs hT eH (.int (i : Nat)) h4
    refine ⟨n1, n2, _, enumL_get xs 0 i d h3, ?_⟩
    rw [Nat.zero_add]
    exact n3
  · obtain ⟨vs, h1, h2⟩ := k m' h' H' x rs g
    rw [enumL_len]
    exact ⟨vs, SqL.of h1, by rw [h2.length]; exact Nat.le_refl _⟩
theorem it_enumT {a : Addr} {xs : List D} {gs : Gs} {m : Mp} {H : Hp} {vs : List V} (k : ∀ m' h' H', Ext m H m' H' → RS Z m' h' H' → gok gs h' → SqT Z.K H' a vs ∧ RVs Z m' H' xs vs) : ItOk Z (IteT Z.K a) (enumL 0 xs) gs m H := by
  refine ⟨fun m' h' H' i x rs g hi => ?_, fun m' h' H' x rs g => ?_⟩
  · obtain ⟨h1, h2⟩ := k m' h' H' x rs g
    rw [enumL_len] at hi
    have hv : i < vs.length := by rw [← h2.length]; exact hi
    refine ⟨⟨vs, vs[i], h1, by simp [hv]⟩, fun y H2 q => ?_⟩
    obtain ⟨T, x0, rfl, hT, eH, q⟩ := q
    obtain ⟨d, h3, h4⟩ := h2.get' (q vs h1)
    obtain ⟨n1, n2, n3⟩ := pair_new rs hT eH (.int (i : Nat)) h4
    refine ⟨n1, n2, _, enumL_get xs 0 i d h3, ?_⟩
    rw [Nat.zero_add]
    exact n3
  · obtain ⟨h1, h2⟩ := k m' h' H' x rs g
    rw [enumL_len]
    exact ⟨vs, h1, by rw [h2.length]; exact Nat.le_refl _⟩
def enuO (h : Hh) : List D → Option Iv
  | [d] => (srcD h d).map fun iv => ⟨enumL 0 iv.xs, iv.gs⟩
  | _ => none
def enuI (g : LF) : IF := fun s h => (g s h).bind fun ds h1 => opt (enuO h1 ds) h1
theorem i_enu (hK : Z.K = X.K) {a : Expr} {elts : List Expr} {kk : Nat} {tpos p pos : Pos} {g : LF} (hg : Gl X "enumerate") (hm : X.mg "enumerate" = none) (hs : noStar a = true) (ha : PA X [a] (tLs Z W g)) :
    PI X (.Tuple elts kk tpos) (.Call (.Name "enumerate" p) [a] [] pos) (tIt Z W (enuI g)) :=
  (pi_enumA hg hm ha (star_one hs)).imp fun σ H Q ⟨m, h, s, rs, rl, p⟩ => tG_thenI rs rl p fun m1 h1 H1 d vs x1 rs1 rl1 r1 p1 => by
    obtain ⟨iv, e, q⟩ := IP.opt p1
    unfold enuO at e
    split at e
    · obtain ⟨iv', e1, rfl⟩ := Option.map_eq_some_iff.mp e
      obtain ⟨v, rfl, r2⟩ := rvs1 r1
      obtain ⟨a, rfl, h2⟩ := src_ok rs1 r2 e1
      rcases h2 with ⟨vs, h2, h3⟩ | ⟨vs, h2, h3⟩
      · exact ⟨a, vs, rfl, .inl ⟨SqL.of h2, q m1 H1 _ Ext.refl rs1 (it_enumL h3)⟩⟩
      · exact ⟨a, vs, rfl, .inr ⟨hK ▸ h2, q m1 H1 _ Ext.refl rs1 (hK ▸ it_enumT h3)⟩⟩
    · cases e
def zipL : List D → List D → List D
  | x :: xs, y :: ys => .tup [x, y] :: zipL xs ys
  | _, _ => []
theorem zipL_len : ∀ (l r : List D), (zipL l r).length = min l.length r.length
  | [], _ => by simp [zipL]
  | _ :: _, [] => by simp [zipL]
  | _ :: l, _ :: r => by simp [zipL, zipL_len l r]
theorem zipL_get : ∀ (l r : List D) (i : Nat) (d e : D), l[i]? = some d → r[i]? = some e → (zipL l r)[i]? = some (.tup [d, e])
  | [], _, _, _, _, h, _ => by simp at h
  | _ :: _, [], _, _, _, _, h => by simp at h
  | a :: l, b :: r, 0, d, e, h, h' => by
    simp at h h'; subst h h'; simp [zipL]
  | a :: l, b :: r, i + 1, d, e, h, h' => zipL_get l r i d e (by simpa using h) (by simpa using h')
theorem gok_app {gs gs' : Gs} {h : Hh} (g : gok (gs ++ gs') h) : gok gs h ∧ gok gs' h := ⟨fun p hp => g p (List.mem_append_left _ hp), fun p hp => g p (List.mem_append_right _ hp)⟩
theorem it_zipL {K : PySem.W.Frag} {a b : Addr} {xs ys : List D} {gs gs' : Gs} {m : Mp} {H : Hp} (k : ∀ m' h' H', Ext m H m' H' → RS Z m' h' H' → gok gs h' → ∃ vs, H' a = some (.lst vs) ∧ RVs Z m' H' xs vs)
    (k' : ∀ m' h' H', Ext m H m' H' → RS Z m' h' H' → gok gs' h' → ∃ vs, H' b = some (.lst vs) ∧ RVs Z m' H' ys vs) : ItOk Z (Itz K a b) (zipL xs ys) (gs ++ gs') m H := by
  refine ⟨fun m' h' H' i x rs g hi => ?_, fun m' h' H' x rs g => ?_⟩
  · obtain ⟨vs, h1, h2⟩ := k m' h' H' x rs (gok_app g).1
    obtain ⟨ws, h3, h4⟩ := k' m' h' H' x rs (gok_app g).2
    rw [zipL_len] at hi
    have hv : i < vs.length := by rw [← h2.length]; omega
    have hw : i < ws.length := by rw [← h4.length]; omega
    refine ⟨⟨vs, ws, vs[i], ws[i], SqL.of h1, SqL.of h3, by simp [hv], by simp [hw]⟩, fun y H2 q => ?_⟩
    obtain ⟨T, x0, y0, rfl, hT, eH, q, q'⟩ := q
    obtain ⟨d, h5, h6⟩ := h2.get' (q vs (SqL.of h1))
    obtain ⟨e, h7, h8⟩ := h4.get' (q' ws (SqL.of h3))
    obtain ⟨n1, n2, n3⟩ := pair_new rs hT eH h6 h8
    exact ⟨n1, n2, _, zipL_get xs ys i d e h5 h7, n3⟩
  · obtain ⟨vs, h1, h2⟩ := k m' h' H' x rs (gok_app g).1
    obtain ⟨ws, h3, h4⟩ := k' m' h' H' x rs (gok_app g).2
    rw [zipL_len]
    exact ⟨vs, ws, SqL.of h1, SqL.of h3, by rw [h2.length, h4.length]; omega⟩
theorem it_zipT {a b : Addr} {xs ys : List D} {gs gs' : Gs} {m : Mp} {H : Hp} {vs ws : List V} (k : ∀ m' h' H', Ext m H m' H' → RS Z m' h' H' → gok gs h' → SqT Z.K H' a vs ∧ RVs Z m' H' xs vs)
    (k' : ∀ m' h' H', Ext m H m' H' → RS Z m' h' H' → gok gs' h' → SqT Z.K H' b ws ∧ RVs Z m' H' ys ws) : ItOk Z (ItzT Z.K a b) (zipL xs ys) (gs ++ gs') m H := by
  refine ⟨fun m' h' H' i x rs g hi => ?_, fun m' h' H' x rs g => ?_⟩
  · obtain ⟨h1, h2⟩ := k m' h' H' x rs (gok_app g).1
    obtain ⟨h3, h4⟩ := k' m' h' H' x rs (gok_app g).2
    rw [zipL_len] at hi
    have hv : i < vs.length := by rw [← h2.length]; omega
    have hw : i < ws.length := by rw [← h4.length]; omega
    refine ⟨⟨vs, ws, vs[i], ws[i], h1, h3, by simp [hv], by simp [hw]⟩, fun y H2 q => ?_⟩
    obtain ⟨T, x0, y0, rfl, hT, eH, q, q'⟩ := q
    obtain ⟨d, h5, h6⟩ := h2.get' (q vs h1)
    obtain ⟨e, h7, h8⟩ := h4.get' (q' ws h3)
    obtain ⟨n1, n2, n3⟩ := pair_new rs hT eH h6 h8
    exact ⟨n1, n2, _, zipL_get xs ys i d e h5 h7, n3⟩
  · obtain ⟨h1, h2⟩ := k m' h' H' x rs (gok_app g).1
    obtain ⟨h3, h4⟩ := k' m' h' H' x rs (gok_app g).2
    rw [zipL_len]
    exact ⟨vs, ws, h1, h3, by rw [h2.length, h4.length]; omega⟩
/-- both lists, or both tuples -/
def zipK (d e : D) : Bool := match d, e with
  | .tup _, .tup _ => true
  | .tup _, _ => false
  | _, .tup _ => false
  | _, _ => true
def zipO (h : Hh) : List D → Option Iv
  | [d, e] => match srcD h d, srcD h e, zipK d e with
    | some a, some b, true => some ⟨zipL a.xs b.xs, a.gs ++ b.gs⟩
    | _, _, _ => none
  | _ => none
def zipI (g : LF) : IF := fun s h => (g s h).bind fun ds h1 => opt (zipO h1 ds) h1
theorem src_kind {m : Mp} {h : Hh} {H : Hp} {d : D} {v : V} {iv : Iv} (rs : RS Z m h H) (r : RV Z m H d v) (e : srcD h d = some iv) : ∃ a, v = .ref a ∧
    ((∀ xs, d ≠ .tup xs) ∧ (∃ vs, H a = some (.lst vs) ∧ ∀ m' h' H', Ext m H m' H' → RS Z m' h' H' → gok iv.gs h' → ∃ vs, H' a = some (.lst vs) ∧ RVs Z m' H' iv.xs vs) ∨
     (∃ xs, d = .tup xs) ∧ (∃ vs, SqT Z.K H a vs ∧ ∀ m' h' H', Ext m H m' H' → RS Z m' h' H' → gok iv.gs h' → SqT Z.K H' a vs ∧ RVs Z m' H' iv.xs vs)) := by
  cases r with
  | tup st r1 =>
    cases e
    exact ⟨_, rfl, .inr ⟨⟨_, rfl⟩, _, st.sq, fun m' h' H' x rs' g => ⟨(st.ext x).sq, r1.ext x⟩⟩⟩
  | lst h1 h2 r1 =>
    cases e
    exact ⟨_, rfl, .inl ⟨(fun _ z => nomatch z), _, h1, fun m' h' H' x rs' g => ⟨_, x.keep _ _ h1 h2.1, r1.ext x⟩⟩⟩
  | ref hm =>
    unfold srcD at e
    split at e
    · split at e
      · rename_i eq _ _ q
        cases e
        cases eq
        obtain ⟨vs, h1, _⟩ := rs.lst _ _ _ hm q
        exact ⟨_, rfl, .inl ⟨(fun _ z => nomatch z), vs, h1, fun m' h' H' x rs' g => rs'.lst _ _ _ (x.up _ _ hm) (g _ List.mem_cons_self)⟩⟩
      · cases e
    · rename_i hnr
      exact absurd rfl (hnr _)
  | _ => cases e
theorem i_zip (hK : Z.K = X.K) {a b : Expr} {elts : List Expr} {kk : Nat} {tpos p pos : Pos} {g : LF} (hg : Gl X "zip") (hm : X.mg "zip" = none) (hs : allNoStar [a, b] = true) (ha : PA X [a, b] (tLs Z W g)) :
    PI X (.Tuple elts kk tpos) (.Call (.Name "zip" p) [a, b] [] pos) (tIt Z W (zipI g)) := by
  obtain ⟨s1, s2⟩ := Bool.and_eq_true_iff.mp (show (noStar a && allNoStar [b]) = true from hs)
  exact (pi_zipA hg hm ha (star_one s1) (star_all s2)).imp fun σ H Q ⟨m, h, s, rs, rl, p⟩ => tG_thenI rs rl p fun m1 h1 H1 d vs x1 rs1 rl1 r1 p1 => by
    obtain ⟨iv, e, q⟩ := IP.opt p1
    unfold zipO at e
    split at e
    · rename_i d0 e0
      split at e
      · rename_i iv1 iv2 e1 e2 e3
        cases e
        obtain ⟨v, w, rfl, r2, r3⟩ := rvs2 r1
        obtain ⟨a, rfl, ha⟩ := src_kind rs1 r2 e1
        obtain ⟨b, rfl, hb⟩ := src_kind rs1 r3 e2
        rcases ha with ⟨na, vs, h2, h3⟩ | ⟨⟨xs, rfl⟩, vs, h2, h3⟩ <;> rcases hb with ⟨nb, ws, h4, h5⟩ | ⟨⟨ys, rfl⟩, ws, h4, h5⟩
        · exact ⟨a, b, vs, ws, rfl, .inl ⟨SqL.of h2, SqL.of h4, q m1 H1 _ Ext.refl rs1 (it_zipL h3 h5)⟩⟩
        · exfalso
          cases d0 <;> first | exact absurd rfl (na _) | cases e3
        · exfalso
          cases e0 <;> first | exact absurd rfl (nb _) | cases e3
        · exact ⟨a, b, vs, ws, rfl, .inr ⟨hK ▸ h2, hK ▸ h4, q m1 H1 _ Ext.refl rs1 (hK ▸ it_zipT h3 h5)⟩⟩
      · cases e
    · cases e
/-! ### the signs of a text -/
def signL : List Nat → List D
  | [] => []
  | c :: r => .str ⟨#[c]⟩ :: signL r
theorem signL_len : ∀ l, (signL l).length = l.length
  | [] => rfl
  | _ :: r => congrArg (· + 1) (signL_len r)
theorem signL_get : ∀ (l : List Nat) (i c : Nat), l[i]? = some c → (signL l)[i]? = some (.str ⟨#[c]⟩)
  | [], _, _, h => by simp at h
  | a :: l, 0, c, h => by
    simp at h; subst h; simp [signL]
  | a :: l, i + 1, c, h => signL_get l i c (by simpa using h)
def strI (f : EF) : IF := fun s h => (f s h).bind fun x h1 => match x with
  | .str z => .ok ⟨signL z.cps.toList, []⟩ h1
  | _ => .stk
theorem i_str {tg l : Expr} {f : EF} (hl : PE X l (tE Z W f)) : PI X tg l (tIt Z W (strI f)) := (pi_str hl).imp fun σ H Q ⟨m, h, s, rs, rl, p⟩ => by
  refine tG_thenI rs rl p fun m1 h1 H1 d v x1 rs1 rl1 r1 p1 => ?_
  split at p1
  · rename_i z
    cases r1
    refine ⟨z, rfl, p1 m1 H1 _ Ext.refl rs1 ⟨fun m' h' H' i x rs g hi => ?_, fun m' h' H' x rs g => ?_⟩⟩
    · have hi' : i < z.cps.toList.length := by
        have := hi
        rw [signL_len] at this
        exact this
      refine ⟨(show i < z.cps.size by simpa using hi'), fun y H2 q => ?_⟩
      obtain ⟨e, c, h2, h3⟩ := q
      subst e h3
      exact ⟨Ext.refl, rs, _, signL_get _ i c (by simpa using h2), .str _⟩
    · show z.cps.size ≤ (signL z.cps.toList).length
      rw [signL_len]; simp
  · exact p1.elim
end
end Ev
set_option maxRecDepth 100000
namespace Ev
open PySem PySem.Spec L2
open PyProof.Rows hiding St
/-! ### targets -/
inductive Tg where
  | n (i : Nat) | t (is : List Nat)
def setAll : List Nat → List D → Sl → Sl
  | i :: is, d :: ds, s => setAll is ds (s.set i (some d))
  | _, _, s => s
def bindT : Tg → D → Sl → Option Sl
  | .n i, d, s => some (s.set i (some d))
  | .t is, .tup ds, s => if ds.length = is.length then some (setAll is ds s) else none
  | _, _, _ => none
def gNames : List Nat → TGs
  | [] => gNil
  | i :: is => gCons (gName i) (gNames is)
def gTg (K : PySem.W.Frag) : Tg → TG
  | .n i => gName i
  | .t is => gTup K is.length (gNames is)
def Tg.slots : Tg → List Nat
  | .n i => [i]
  | .t is => is
theorem wipe_set2 {σ : St} {i : Nat} {x y : Option V} : ∀ vs, (wipe (σ.set i x) vs).set i y = (wipe σ vs).set i y
  | [] => by unfold wipe; rw [List.set_set]
  | v :: vs => by
    show ((wipe (σ.set i x) vs).set v none).set i y = ((wipe σ vs).set v none).set i y
    by_cases e : v = i
    · subst e
      rw [List.set_set, List.set_set]
      exact wipe_set2 vs
    · rw [List.set_comm _ _ e, List.set_comm _ _ e, wipe_set2 vs]
theorem wipe_set {σ : St} {i : Nat} {x : Option V} : ∀ {vs : List Nat}, i ∈ vs → wipe (σ.set i x) vs = wipe σ vs
  | v :: vs, h => by
    show (wipe (σ.set i x) vs).set v none = (wipe σ vs).set v none
    by_cases e : i = v
    · subst e
      exact wipe_set2 vs
    · rcases List.mem_cons.mp h with h | h
      · exact absurd h e
      · rw [wipe_set h]
theorem wipe_twice (σ : St) : ∀ vs : List Nat, wipe (wipe σ vs) vs = wipe σ vs := by
  have key : ∀ (vs ws : List Nat), (∀ v ∈ vs, v ∈ ws) → wipe (wipe σ vs) ws = wipe σ ws := by
    intro vs
    induction vs with
    | nil => intro ws _; rfl
    | cons v vs ih =>
      intro ws h
      show wipe ((wipe σ vs).set v none) ws = wipe σ ws
      rw [wipe_set (h v List.mem_cons_self), ih ws fun u hu => h u (List.mem_cons_of_mem _ hu)]
  exact fun vs => key vs vs fun _ h => h
def wipeD (s : Sl) : List Nat → Sl
  | [] => s
  | v :: vs => (wipeD s vs).set v none
section
variable {X : Cx} {Z : Zp} {W : WX}
theorem RSl.unset {m : Mp} {H : Hp} {s : Sl} {σ : St} (r : RSl Z m H s σ) (i : Nat) (x : Option V) : RSl Z m H (s.set i none) (σ.set i x) := by
  refine ⟨by simp [r.1], fun j e he => ?_⟩
  by_cases hj : i = j
  · subst hj
    by_cases hl : i < s.length
    · rw [List.getElem?_set_self hl] at he
      cases he
    · rw [List.getElem?_eq_none (by simp; omega)] at he
      cases he
  · rw [List.getElem?_set_ne hj] at he ⊢
    exact r.2 j e he
theorem RSl.wipe {m : Mp} {H : Hp} {s : Sl} {σ : St} (r : RSl Z m H s σ) : ∀ vs : List Nat, RSl Z m H (wipeD s vs) (L2.wipe σ vs)
  | [] => r
  | v :: vs => (RSl.wipe r vs).unset v none
theorem names_read {m : Mp} {H : Hp} {Q : St → Hp → Prop} : ∀ {is : List Nat} {ds : List D} {vs : List V} {s : Sl} {σ : St}, RSl Z m H s σ → RVs Z m H ds vs → ds.length = is.length →
    (∀ σ', RSl Z m H (setAll is ds s) σ' → (∀ ws : List Nat, (∀ i ∈ is, i ∈ ws) → L2.wipe σ' ws = L2.wipe σ ws) → Q σ' H) → gNames is vs σ H Q
  | [], [], _, _, _, rl, .nil, _, k => ⟨rfl, k _ rl fun _ _ => rfl⟩
  | i :: is, d :: ds, _, s, σ, rl, .cons r t, hl, k => ⟨_, _, rfl, names_read (rl.set r) t (by simpa using hl) fun σ' r' hw => k σ' r' fun ws h => by
      rw [hw ws fun j hj => h j (List.mem_cons_of_mem _ hj), wipe_set (h i List.mem_cons_self)]⟩
  | [], _ :: _, _, _, _, _, _, h, _ => by simp at h
  | _ :: _, [], _, _, _, _, _, h, _ => by simp at h
theorem tg_read {tg : Tg} {m : Mp} {H : Hp} {s s' : Sl} {σ : St} {d : D} {v : V} {Q : St → Hp → Prop} (rl : RSl Z m H s σ) (rv : RV Z m H d v) (e : bindT tg d s = some s')
    (k : ∀ σ', RSl Z m H s' σ' → (∀ ws : List Nat, (∀ i ∈ tg.slots, i ∈ ws) → L2.wipe σ' ws = L2.wipe σ ws) → Q σ' H) : gTg Z.K tg v σ H Q := by
  cases tg with
  | n i =>
    cases e
    exact k _ (rl.set rv) fun ws h => wipe_set (h i (by simp [Tg.slots]))
  | t is =>
    cases d with
    | tup ds =>
      have e : (if ds.length = is.length then some (setAll is ds s) else none) = some s' := e
      by_cases hl : ds.length = is.length
      · rw [if_pos hl] at e
        cases e
        cases rv with
        | tup st r => exact ⟨_, _, rfl, st.sq, by rw [← r.length]; exact hl, names_read rl r hl k⟩
      · rw [if_neg hl] at e
        cases e
    | _ => cases e
/-- a target of names -/
def tgOk (N : List Str) (sc : Str → Bool) : Tg → Expr → Bool
  | .n i, .Name x _ => N[i]? == some x && sc x
  | .t is, .Tuple es _ _ => go is es
  | _, _ => false
where
  go : List Nat → List Expr → Bool
    | [], [] => true
    | i :: is, .Name x _ :: es => (N[i]? == some x && sc x) && go is es
    | _, _ => false
/-- names that may be stored -/
def StOk (X : Cx) (st : Str → Bool) : Prop := ∀ x, st x = true → Loc X.env.scope x ∧ (X.fn x = true ∨ X.env.scope.names.lookup x = some .local)
theorem pgs_of {st : Str → Bool} (hst : StOk X st) (hN : X.N.Nodup) : ∀ {is : List Nat} {es : List Expr}, tgOk.go X.N st is es = true → PGs X es (gNames is)
  | [], [], _ => pgs_nil
  | i :: is, e :: es, h => by
    cases e with
    | Name x p =>
      obtain ⟨h1, h2⟩ := Bool.and_eq_true_iff.mp (show ((X.N[i]? == some x && st x) && tgOk.go X.N st is es) = true from h)
      obtain ⟨h3, h4⟩ := Bool.and_eq_true_iff.mp h1
      exact pgs_cons (pg_name hN (beq_iff_eq.mp h3) (hst x h4).1 (hst x h4).2) (pgs_of hst hN h2)
    | _ => cases h
  | [], e :: es, h => by cases e <;> cases h
  | i :: is, [], h => by cases h
theorem go_len {N : List Str} {sc : Str → Bool} : ∀ {is : List Nat} {es : List Expr}, tgOk.go N sc is es = true → es.length = is.length
  | [], [], _ => rfl
  | i :: is, e :: es, h => by
    cases e with
    | Name x p => exact congrArg (· + 1) (go_len (Bool.and_eq_true_iff.mp (show ((N[i]? == some x && sc x) && tgOk.go N sc is es) = true from h)).2)
    | _ => cases h
  | [], e :: es, h => by cases e <;> cases h
  | i :: is, [], h => by cases h
theorem go_noStar {N : List Str} {sc : Str → Bool} : ∀ {is : List Nat} {es : List Expr}, tgOk.go N sc is es = true → allNoStar es = true
  | [], [], _ => rfl
  | i :: is, e :: es, h => by
    cases e with
    | Name x p =>
      show (noStar (.Name x p) && allNoStar es) = true
      rw [go_noStar (Bool.and_eq_true_iff.mp (show ((N[i]? == some x && sc x) && tgOk.go N sc is es) = true from h)).2]; rfl
    | _ => cases h
  | [], e :: es, h => by cases e <;> cases h
  | i :: is, [], h => by cases h
theorem go_assign {N : List Str} {sc : Str → Bool} {env : Env} : ∀ {is : List Nat} {es : List Expr}, tgOk.go N sc is es = true → (assignEach es env).length = is.length ∧ (assignEach es env).findIdx? (·.1) = none
  | [], [], _ => ⟨rfl, rfl⟩
  | i :: is, e :: es, h => by
    cases e with
    | Name x p =>
      obtain ⟨h1, h2⟩ := go_assign (env := env) (Bool.and_eq_true_iff.mp (show ((N[i]? == some x && sc x) && tgOk.go N sc is es) = true from h)).2
      refine ⟨congrArg (· + 1) h1, ?_⟩
      show ((false, assign (.Name x p) env) :: assignEach es env).findIdx? (·.1) = none
      rw [List.findIdx?_cons, h2]; rfl
    | _ => cases h
  | [], e :: es, h => by cases e <;> cases h
  | i :: is, [], h => by cases h
theorem pg_tg {st : Str → Bool} (hst : StOk X st) (hc : X.calm = true) (hN : X.N.Nodup) (hK : Z.K = X.K) {tg : Tg} {e : Expr} (h : tgOk X.N st tg e = true) : PG X e (gTg Z.K tg) := by
  rw [hK]
  cases tg with
  | n i =>
    cases e with
    | Name x p =>
      obtain ⟨h3, h4⟩ := Bool.and_eq_true_iff.mp (show (X.N[i]? == some x && st x) = true from h)
      exact pg_name hN (beq_iff_eq.mp h3) (hst x h4).1 (hst x h4).2
    | _ => cases h
  | t is =>
    cases e with
    | Tuple es k p =>
      have h' : tgOk.go X.N st is es = true := h
      exact pg_tup hc (pgs_of hst hN h') (go_assign h').1 (go_assign h').2
    | _ => cases h
/-! ### comprehensions -/
noncomputable def compL (gs : Gs) (tg : Tg) (cond : BF) (elt : EF) (s0 : Sl) : List D → Hh → R (List D)
  | [], h => open Classical in if gok gs h then .ok [] h else .stk
  | x :: xs, h => open Classical in if gok gs h then match bindT tg x s0 with
    | some s1 => (cond s1 h).bind fun b h1 => if b = true then (elt s1 h1).bind fun y h2 => (compL gs tg cond elt s0 xs h2).bind fun ys h3 => .ok (y :: ys) h3 else compL gs tg cond elt s0 xs h1
    | none => .stk else .stk
/-- no exception may leave it -/
def sure {α : Type} : R α → R α
  | .ok a h => .ok a h
  | _ => .stk
noncomputable def compF (own : List Nat) (it : IF) (tg : Tg) (cond : BF) (elt : EF) : FF := fun s h => (it s h).bind fun iv h1 => (sure (compL iv.gs tg cond elt (wipeD s own) iv.xs h1)).bind fun ys h2 => if lim ys.length then .ok (.lst ys) h2 else .stk
abbrev W0 : WX := fun _ _ _ _ => False
theorem Ext.ban {m m' : Mp} {H H' : Hp} {p : Addr} (x : Ext m H m' H') (hp : H p = none) : Ext m H (m'.ban p) H' :=
  ⟨x.up, x.new, x.keep, x.old, fun a h => .inl (x.nu a h), fun a h => h.elim (x.nn a) fun e => .inr (e ▸ hp)⟩
def Mp.unb (m : Mp) (p : Addr) : Mp := ⟨m.pl, fun a => m.no a ∧ a ≠ p⟩
theorem Ext.unb {m m' : Mp} {H H' : Hp} {p : Addr} (x : Ext m H m' H') (hp : ¬ m.no p) : Ext m H (m'.unb p) H' :=
  ⟨x.up, x.new, x.keep, x.old, fun a h => ⟨x.nu a h, fun e => hp (e ▸ h)⟩, fun a h => x.nn a h.1⟩
theorem Mov.same {m m' : Mp} {H : Hp} (h : ∀ n a, m n = some a → m' n = some a) (h2 : ∀ a, Out m a → Out m' a) : Mov m H m' H := ⟨h, fun a o e q => ⟨e, h2 a q⟩⟩
theorem Mov.unbBan {m : Mp} {H : Hp} {p : Addr} (hp : m.no p) : Mov m H ((m.unb p).ban p) H :=
  Mov.same (fun _ _ h => h) fun a q => ⟨q.1, fun z => z.elim (fun z => q.2 z.1) fun e => q.2 (e ▸ hp)⟩
theorem RS.unbBan {m : Mp} {h : Hh} {H : Hp} {p : Addr} (rs : RS Z m h H) (hp : m.no p) : RS Z ((m.unb p).ban p) h H :=
  rs.mov (Mov.unbBan hp) rfl (fun _ _ _ _ e => e) fun a e => e.elim (fun z => rs.nok a z.1) fun z => rs.nok a (z ▸ hp)
/-- the banned object is changed -/
theorem Mov.chg {m : Mp} {H : Hp} {p : Addr} {o : HO} (hp : m.no p) : Mov m H m (upd H p o) :=
  ⟨fun _ _ h => h, fun a o' e q => ⟨by rw [upd_ne fun z => q.2 (by rw [z]; exact hp)]; exact e, q⟩⟩
theorem RS.chg {m : Mp} {h : Hh} {H : Hp} {p : Addr} {o : HO} (rs : RS Z m h H) (hp : m.no p) (hf : Free m p) : RS Z m h (upd H p o) :=
  rs.mov (Mov.chg hp) rfl (fun n a o' hm e => by rw [upd_ne fun z => hf n (by rw [← z]; exact hm)]; exact e) fun a e => by
    by_cases z : a = p
    · subst z; exact ⟨o, upd_same⟩
    · obtain ⟨u, q⟩ := rs.nok a e
      exact ⟨u, by rw [upd_ne z]; exact q⟩
theorem Ext.chg {m m' : Mp} {H H' : Hp} {p : Addr} {o : HO} (x : Ext m H m' H') (hp : H p = none) : Ext m H m' (upd H' p o) :=
  ⟨x.up, x.new, fun b u e f => by rw [upd_ne (ne_of_none e hp)]; exact x.keep b u e f, fun b u e => by
    obtain ⟨u', q⟩ := x.old b u e
    exact ⟨u', by rw [upd_ne (ne_of_none e hp)]; exact q⟩, x.nu, x.nn⟩
theorem sure_ok {α : Type} {r : R α} {a : α} {h : Hh} (e : sure r = .ok a h) : r = .ok a h := by
  cases r <;> first | exact e | cases e
theorem comp_read (hK : Z.K = X.K) {own : List Nat} {tg : Tg} {it : IF} {cond : BF} {elt : EF} (hown : ∀ i ∈ tg.slots, i ∈ own) {σ : St} {H : Hp} {Q : VK} (q : tFr Z W (compF own it tg cond elt) σ H Q) :
    tLc (tIt Z W it) (gTg Z.K tg) (tTt Z W0 cond) (tE Z W0 elt) own σ H Q := by
  obtain ⟨m, h, s, rs, rl, p⟩ := q
  refine ⟨m, h, s, rs, rl, ?_⟩
  unfold compF at p
  cases e0 : it s h with
  | exc e h1 => rw [e0] at p; exact p
  | stk => rw [e0] at p; exact p
  | ok iv h1 =>
    rw [e0] at p
    intro m1 H1 J x1 rs1 itok p0 hp0
    have p1 : GF Z W m σ H Q ((sure (compL iv.gs tg cond elt (wipeD s own) iv.xs h1)).bind fun ys h2 => if lim ys.length then .ok (.lst ys) h2 else .stk) := p
    cases e1 : sure (compL iv.gs tg cond elt (wipeD s own) iv.xs h1) with
    | exc e h2 =>
      exfalso
      cases e2 : compL iv.gs tg cond elt (wipeD s own) iv.xs h1 <;> rw [e2] at e1 <;> cases e1
    | stk => rw [e1] at p1; exact p1.elim
    | ok ys h2 =>
      rw [e1] at p1
      have p2 : GF Z W m σ H Q (if lim ys.length then .ok (.lst ys) h2 else .stk) := p1
      by_cases hl : lim ys.length
      · rw [if_pos hl] at p2
        have e2 := sure_ok e1
        have rlw : RSl Z m1 H1 (wipeD s own) (L2.wipe σ own) := (rl.ext x1).wipe own
        -- the word
        refine ⟨fun i k H' => k = iv.xs.length - i ∧ i ≤ iv.xs.length ∧ ∃ m' h' vs zs rest, Ext m1 H1 m' H' ∧ m'.no p0 ∧ Free m' p0 ∧ RS Z m' h' H' ∧ H' p0 = some (.lst vs) ∧ RVs Z m' H' zs vs ∧
          compL iv.gs tg cond elt (wipeD s own) (iv.xs.drop i) h' = .ok rest h2 ∧ ys = zs ++ rest, ⟨iv.xs.length, by simp, Nat.zero_le _, m1.ban p0, h1, [], [], ys, (rs1.laidX hp0).ban hp0, .inr rfl, (rs1.outN hp0).1, rs1.ban hp0, upd_same, .nil, by simpa using e2, rfl⟩, ?_⟩
        rintro i k H' ⟨rfl, hi, m', h', vs, zs, rest, x', hno, hfr, rs', hD, rz, ec, ey⟩
        by_cases hlt : i < iv.xs.length
        · refine .inr ?_
          have hdrop : iv.xs.drop i = iv.xs[i] :: iv.xs.drop (i + 1) := List.drop_eq_getElem_cons hlt
          rw [hdrop] at ec
          unfold compL at ec
          split at ec
          · rename_i hg
            obtain ⟨go, hy⟩ := itok.go m' h' H' i x' rs' hg hlt
            refine ⟨go, fun H3 => ∃ m3 h3 vs3 zs3 rest3, Ext m1 H1 m3 H3 ∧ m3.no p0 ∧ Free m3 p0 ∧ RS Z m3 h3 H3 ∧ H3 p0 = some (.lst vs3) ∧ RVs Z m3 H3 zs3 vs3 ∧ compL iv.gs tg cond elt (wipeD s own) (iv.xs.drop (i + 1)) h3 = .ok rest3 h2 ∧ ys = zs3 ++ rest3,
              fun H3 n3 => ⟨iv.xs.length - (i + 1), by omega, rfl, hlt, n3⟩, fun x Hx yy => ?_⟩
            obtain ⟨xe, rsx, d, hd, rv⟩ := hy x Hx yy
            rw [List.getElem?_eq_getElem hlt] at hd
            cases hd
            split at ec
            · rename_i s1 eb
              refine tg_read ((rlw.ext x').ext xe) rv eb fun σ2 rl2 hw => ⟨(hw own hown).trans (wipe_twice σ own), ?_⟩
              refine ⟨m', h', s1, rsx, rl2, ?_⟩
              cases eq1 : cond s1 h' with
              | exc e h4 => rw [eq1] at ec; cases ec
              | stk => rw [eq1] at ec; cases ec
              | ok b h4 =>
                rw [eq1] at ec
                intro m4 H4 b' x4 rs4 hb
                have hb' : b = b' := hb
                subst hb'
                have D4 : ∀ {m5 H5}, Ext m' Hx m5 H5 → m5.no p0 ∧ Free m5 p0 ∧ H5 p0 = some (.lst vs) ∧ RVs Z m5 H5 zs vs := fun {m5 H5} y => by
                  have hDx := xe.keep _ _ hD hfr
                  exact ⟨y.nu _ (xe.nu _ hno), y.free hDx (xe.free hD hfr), y.keep _ _ hDx (xe.free hD hfr), (rz.ext xe).ext y⟩
                cases b with
                | false =>
                  refine iteF ?_
                  obtain ⟨d1, d2, d3, d4⟩ := D4 x4
                  exact ⟨m4, h4, vs, zs, rest, (x'.trans xe).trans x4, d1, d2, rs4, d3, d4, ec, ey⟩
                | true =>
                  refine iteT ⟨m4, h4, s1, rs4, rl2.ext x4, ?_⟩
                  have ec2 : ((elt s1 h4).bind fun y h5 => (compL iv.gs tg cond elt (wipeD s own) (iv.xs.drop (i + 1)) h5).bind fun ys h6 => .ok (y :: ys) h6) = .ok rest h2 := ec
                  cases eq2 : elt s1 h4 with
                  | exc e h5 => rw [eq2] at ec2; cases ec2
                  | stk => rw [eq2] at ec2; cases ec2
                  | ok y h5 =>
                    rw [eq2] at ec2
                    intro m5 H5 w x5 rs5 rw5
                    obtain ⟨d1, d2, d3, d4⟩ := D4 (x4.trans x5)
                    have ec3 : ((compL iv.gs tg cond elt (wipeD s own) (iv.xs.drop (i + 1)) h5).bind fun ys h6 => .ok (y :: ys) h6) = .ok rest h2 := ec2
                    cases eq3 : compL iv.gs tg cond elt (wipeD s own) (iv.xs.drop (i + 1)) h5 with
                    | exc e h6 => rw [eq3] at ec3; cases ec3
                    | stk => rw [eq3] at ec3; cases ec3
                    | ok r6 h6 =>
                      rw [eq3] at ec3
                      cases ec3
                      refine ⟨vs, d3, ?_, ?_⟩
                      · rw [← d4.length]
                        have : ys.length ≤ sizeLine := hl
                        rw [ey, List.length_append, List.length_cons] at this
                        omega
                      · have mv := Mov.chg (H := H5) (o := .lst (vs ++ [w])) d1
                        exact ⟨m5, h5, vs ++ [w], zs ++ [y], r6, (((x'.trans xe).trans x4).trans x5).chg hp0, d1, d2, rs5.chg d1 d2, upd_same, (d4.append (.cons rw5 .nil)).mov mv, eq3, by rw [ey]; simp⟩
            · cases ec
          · cases ec
        · have hi' : i = iv.xs.length := by omega
          subst hi'
          rw [List.drop_length] at ec
          unfold compL at ec
          split at ec
          · rename_i hg
            cases ec
            rw [List.append_nil] at ey
            subst ey
            have hn1 : ¬ m.no p0 := fun z => by
              obtain ⟨u, e⟩ := rs.nok p0 z
              rw [x1.fresh hp0] at e; cases e
            refine .inl ⟨itok.stop m' _ H' x' rs' hg, p2 (m'.unb p0) H' p0 _ ((x1.trans x').unb hn1) (x1.fresh hp0) hD ⟨hfr, fun z => z.2 rfl⟩ (rs'.unbBan hno) (.lst (rz.mov (Mov.unbBan hno)))⟩
          · cases ec
      · rw [if_neg hl] at p2; exact p2.elim
theorem folded_of {e : Expr} {env : Env} (h : noSet e = true) : ∀ x, foldedSetIterable e env x = pure x := by
  intro x
  cases e <;> first | rfl | cases h
def yesB : BF := fun _ h => .ok true h
theorem ts_nil : PTs X [] (tTt Z W yesB) := ⟨fun pins s σ H Q I ⟨m, h, sl, rs, rl, p⟩ => pts_nil.run pins s σ H Q I (p m H true Ext.refl rs rfl)⟩
theorem ts_one {c : Expr} {f : BF} (h : PT X c (tTt Z W f)) : PTs X [c] (tTt Z W f) := pts_one h
theorem f_comp (hK : Z.K = X.K) (hc : X.calm = true) (hN : X.N.Nodup) {elt tg iter : Expr} {ifs : List Expr} {scope : Scope} {own : List (Str × Nat)} {pos : Pos} {it : IF} {ti : Tg} {cond : BF} {ef : EF} (hi : PI X tg iter (tIt Z W it)) (ok : BlkOk X.N X.env.scope scope own)
    (hown : ∀ i ∈ ti.slots, i ∈ own.map (·.2)) (hg : ∀ (s : Shared) (H : Hp) (C : Addr) (cl : List (Str × Addr)) (fp : List Addr), PG (X.blk s H scope (compEnvC scope cl C X.env) fp) tg (gTg Z.K ti))
    (ht : ∀ (s : Shared) (H : Hp) (C : Addr) (cl : List (Str × Addr)) (fp : List Addr), PTs (X.blk s H scope (compEnvC scope cl C X.env) fp) ifs (tTt Z W0 cond))
    (he : ∀ (s : Shared) (H : Hp) (C : Addr) (cl : List (Str × Addr)) (fp : List Addr), PE (X.blk s H scope (compEnvC scope cl C X.env) fp) elt (tE Z W0 ef)) (hs : noSet iter = true) :
    PE X (.ListComp elt [⟨tg, iter, ifs, 0⟩] scope pos) (tFr Z W (compF (own.map (·.2)) it ti cond ef)) :=
  (pe_lc hc hN hi ok hg ht he (folded_of hs)).imp fun σ H Q q => comp_read hK hown q
end
end Ev
set_option maxRecDepth 100000
namespace Ev
open PySem PySem.Spec L2
open PyProof.Rows hiding St
/-- how a statement ends -/
inductive SR where
  | nx (s : Sl) (h : Hh) | rt (d : D) (h : Hh) | bk (s : Sl) (h : Hh) | ct (s : Sl) (h : Hh) | ex (e : Ex) (s : Sl) (h : Hh) | stk
abbrev SF := Sl → Hh → SR
def SP2 (Z : Zp) (W : WX) (m : Mp) (H : Hp) (E : Ends) : SR → Prop
  | .nx s h => ∀ m' H' σ, Ext m H m' H' → RS Z m' h H' → RSl Z m' H' s σ → E.nx σ H'
  | .bk s h => ∀ m' H' σ, Ext m H m' H' → RS Z m' h H' → RSl Z m' H' s σ → E.bk σ H'
  | .ct s h => ∀ m' H' σ, Ext m H m' H' → RS Z m' h H' → RSl Z m' H' s σ → E.ct σ H'
  | .rt d h => ∀ m' H' v, Ext m H m' H' → RS Z m' h H' → RV Z m' H' d v → E.rt v H'
  | .ex e s h => ∀ m' H' σ c dx, Ext m H m' H' → RS Z m' h H' → RSl Z m' H' s σ → RX Z m' H' e c dx → W c dx σ H'
  | .stk => False
theorem SP2.ext {Z : Zp} {W : WX} {m m' : Mp} {H H' : Hp} {E : Ends} {r : SR} (x : Ext m H m' H') (p : SP2 Z W m H E r) : SP2 Z W m' H' E r := by
  cases r with
  | nx s h => exact fun m2 H2 σ y => p m2 H2 σ (x.trans y)
  | bk s h => exact fun m2 H2 σ y => p m2 H2 σ (x.trans y)
  | ct s h => exact fun m2 H2 σ y => p m2 H2 σ (x.trans y)
  | rt d h => exact fun m2 H2 v y => p m2 H2 v (x.trans y)
  | ex e s h => exact fun m2 H2 σ c dx y => p m2 H2 σ c dx (x.trans y)
  | stk => exact p
def tSt (Z : Zp) (W : WX) (f : SF) : TS := fun E σ H => ∃ m h s, RS Z m h H ∧ RSl Z m H s σ ∧ SP2 Z W m H E (f s h)
/-- an expression, then a statement's end -/
def R.thenS {α : Type} (r : R α) (s : Sl) (k : α → Hh → SR) : SR := match r with
  | .ok a h => k a h
  | .exc e h => .ex e s h
  | .stk => .stk
@[simp] theorem R.thenS_ok {α : Type} (a : α) (h : Hh) (s : Sl) (k : α → Hh → SR) : (R.ok a h).thenS s k = k a h := (rfl)
@[simp] theorem R.thenS_exc {α : Type} (e : Ex) (h : Hh) (s : Sl) (k : α → Hh → SR) : (R.exc e h : R α).thenS s k = .ex e s h := (rfl)
@[simp] theorem R.thenS_stk {α : Type} (s : Sl) (k : α → Hh → SR) : (R.stk : R α).thenS s k = .stk := (rfl)
theorem tG_thenS {α β : Type} {ρ : Rl α β} {Z : Zp} {W : WX} {m : Mp} {h : Hh} {s : Sl} {σ : St} {H : Hp} {f : Sl → Hh → R α} {k : α → Hh → SR} {E : Ends} {Q' : β → Hp → Prop} (rs : RS Z m h H) (rl : RSl Z m H s σ)
    (p : SP2 Z W m H E ((f s h).thenS s k))
    (q : ∀ m1 h1 H1 d v, Ext m H m1 H1 → RS Z m1 h1 H1 → RSl Z m1 H1 s σ → ρ.r Z H m1 H1 d v → SP2 Z W m1 H1 E (k d h1) → Q' v H1) : tG ρ Z W f σ H Q' := by
  refine ⟨m, h, s, rs, rl, ?_⟩
  cases e : f s h with
  | ok d h1 =>
    rw [e] at p
    exact fun m1 H1 v x rs1 rv => q m1 h1 H1 d v x rs1 (rl.ext x) rv (SP2.ext x p)
  | exc ex h1 =>
    rw [e] at p
    exact fun m' H' c dx x rs' rx => p m' H' σ c dx x rs' (rl.ext x) rx
  | stk =>
    rw [e] at p
    exact p
section
variable {X : Cx} {Z : Zp} {W : WX}
theorem SP2.nxt {m : Mp} {h : Hh} {H : Hp} {s : Sl} {σ : St} {E : Ends} (p : SP2 Z W m H E (.nx s h)) (rs : RS Z m h H) (rl : RSl Z m H s σ) : E.nx σ H := p m H σ Ext.refl rs rl
/-! ### blocks -/
def nilS : SF := fun s h => .nx s h
def SR.andThen (r : SR) (k : SF) : SR := match r with
  | .nx s h => k s h
  | r => r
@[simp] theorem SR.andThen_nx (s : Sl) (h : Hh) (k : SF) : (SR.nx s h).andThen k = k s h := (rfl)
@[simp] theorem SR.andThen_rt (d : D) (h : Hh) (k : SF) : (SR.rt d h).andThen k = .rt d h := (rfl)
@[simp] theorem SR.andThen_bk (s : Sl) (h : Hh) (k : SF) : (SR.bk s h).andThen k = .bk s h := (rfl)
@[simp] theorem SR.andThen_ct (s : Sl) (h : Hh) (k : SF) : (SR.ct s h).andThen k = .ct s h := (rfl)
@[simp] theorem SR.andThen_ex (e : Ex) (s : Sl) (h : Hh) (k : SF) : (SR.ex e s h).andThen k = .ex e s h := (rfl)
@[simp] theorem SR.andThen_stk (k : SF) : SR.stk.andThen k = .stk := (rfl)
def seqS (f g : SF) : SF := fun s h => (f s h).andThen g
theorem s_nil : PSs X [] (tSt Z W nilS) := pss_nil.imp fun E σ H ⟨m, h, s, rs, rl, p⟩ => p.nxt rs rl
theorem s_cons {st : Stmt} {rest : List Stmt} {f g : SF} (h1 : PS X st (tSt Z W f)) (h2 : PSs X rest (tSt Z W g)) : PSs X (st :: rest) (tSt Z W (seqS f g)) := (pss_cons h1 h2).imp fun E σ H ⟨m, h, s, rs, rl, p⟩ => by
  refine ⟨m, h, s, rs, rl, ?_⟩
  unfold seqS at p
  cases e : f s h with
  | nx s1 h1 =>
    rw [e] at p
    exact fun m' H' σ' x rs' rl' => ⟨m', h1, s1, rs', rl', SP2.ext x p⟩
  | rt d h => rw [e] at p; exact p
  | bk s h => rw [e] at p; exact p
  | ct s h => rw [e] at p; exact p
  | ex e' s h => rw [e] at p; exact p
  | stk => rw [e] at p; exact p
theorem s_pass {pos : Pos} : PS X (.Pass pos) (tSt Z W nilS) := ps_pass.imp fun E σ H ⟨m, h, s, rs, rl, p⟩ => p.nxt rs rl
theorem s_break {pos : Pos} : PS X (.Break pos) (tSt Z W fun s h => .bk s h) := ps_break.imp fun E σ H ⟨m, h, s, rs, rl, p⟩ => p m H σ Ext.refl rs rl
theorem s_cont {pos : Pos} : PS X (.Continue pos) (tSt Z W fun s h => .ct s h) := ps_continue.imp fun E σ H ⟨m, h, s, rs, rl, p⟩ => p m H σ Ext.refl rs rl
def exprS (f : EF) : SF := fun s h => (f s h).thenS s fun _ h1 => .nx s h1
theorem s_expr {e : Expr} {f : EF} {pos : Pos} (hs : swapsWith e none pos.line X.env = pure false) (he : PE X e (tE Z W f)) : PS X (.Expr e pos) (tSt Z W (exprS f)) := (ps_expr he hs).imp fun E σ H ⟨m, h, s, rs, rl, p⟩ =>
  tG_thenS rs rl p fun m1 h1 H1 d v x1 rs1 rl1 r1 p1 => p1.nxt rs1 rl1
def retS (f : EF) : SF := fun s h => (f s h).thenS s fun d h1 => .rt d h1
theorem s_ret {e : Expr} {f : EF} {pos : Pos} (he : PE X e (tE Z W f)) : PS X (.Return (some e) pos) (tSt Z W (retS f)) := (ps_ret he).imp fun E σ H ⟨m, h, s, rs, rl, p⟩ =>
  tG_thenS rs rl p fun m1 h1 H1 d v x1 rs1 rl1 r1 p1 => p1 m1 H1 v Ext.refl rs1 r1
theorem s_retN {pos : Pos} : PS X (.Return none pos) (tSt Z W fun s h => .rt .non h) := ps_retN.imp fun E σ H ⟨m, h, s, rs, rl, p⟩ => p m H .non Ext.refl rs .non
def ifS (t : BF) (f g : SF) : SF := fun s h => (t s h).thenS s fun b h1 => if b = true then f s h1 else g s h1
theorem s_if {c : Expr} {a b : List Stmt} {t : BF} {f g : SF} {pos : Pos} (hc : PT X c (tTt Z W t)) (ha : PSs X a (tSt Z W f)) (hb : PSs X b (tSt Z W g)) : PS X (.If c a b pos) (tSt Z W (ifS t f g)) := (ps_if hc ha hb).imp fun E σ H ⟨m, h, s, rs, rl, p⟩ =>
  tG_thenS rs rl p fun m1 h1 H1 b b' x1 rs1 rl1 r1 p1 => by
    have e : b = b' := r1
    subst e
    cases b with
    | true => exact iteT ⟨m1, h1, s, rs1, rl1, p1⟩
    | false => exact iteF ⟨m1, h1, s, rs1, rl1, p1⟩
/-! ### targets with a heap -/
abbrev TF := D → Sl → Hh → R Sl
def TP2 (Z : Zp) (m : Mp) (H : Hp) (Q : St → Hp → Prop) : R Sl → Prop
  | .ok s h => ∀ m' H' σ, Ext m H m' H' → RS Z m' h H' → RSl Z m' H' s σ → Q σ H'
  | _ => False
def tGt (Z : Zp) (f : TF) : TG := fun v σ H Q => ∃ m h s d, RS Z m h H ∧ RSl Z m H s σ ∧ RV Z m H d v ∧ TP2 Z m H Q (f d s h)
def tGts (Z : Zp) (f : List D → Sl → Hh → R Sl) : TGs := fun vs σ H Q => ∃ m h s ds, RS Z m h H ∧ RSl Z m H s σ ∧ RVs Z m H ds vs ∧ TP2 Z m H Q (f ds s h)
theorem _root_.L2.PG.imp {X : Cx} {e : Expr} {t t' : TG} (h : PG X e t) (i : ∀ v σ H Q, t' v σ H Q → t v σ H Q) : PG X e t' := ⟨fun pins s σ H v u Q I r q => h.run pins s σ H v u Q I r (i v σ H Q q)⟩
theorem _root_.L2.PGs.imp {X : Cx} {e : List Expr} {t t' : TGs} (h : PGs X e t) (i : ∀ v σ H Q, t' v σ H Q → t v σ H Q) : PGs X e t' := ⟨fun pins s σ H v u Q I r q => h.run pins s σ H v u Q I r (i v σ H Q q)⟩
theorem TP2.ext {m m' : Mp} {H H' : Hp} {Q : St → Hp → Prop} {r : R Sl} (x : Ext m H m' H') (p : TP2 Z m H Q r) : TP2 Z m' H' Q r := by
  cases r with
  | ok s h => exact fun m2 H2 σ y => p m2 H2 σ (x.trans y)
  | exc e h => exact p
  | stk => exact p
theorem g_name {i : Nat} {e : Expr} (h : PG X e (gName i)) : PG X e (tGt Z fun d s h => .ok (s.set i (some d)) h) := h.imp fun v σ H Q ⟨m, h, s, d, rs, rl, rv, p⟩ => p m H _ Ext.refl rs (rl.set rv)
theorem g_tg {tg : Tg} {e : Expr} (h : PG X e (gTg Z.K tg)) : PG X e (tGt Z fun d s h => opt (bindT tg d s) h) := h.imp fun v σ H Q ⟨m, h, s, d, rs, rl, rv, p⟩ => by
  have p : TP2 Z m H Q (opt (bindT tg d s) h) := p
  cases eb : bindT tg d s with
  | none => rw [eb] at p; exact p.elim
  | some s' =>
    rw [eb] at p
    exact tg_read rl rv eb fun σ' rl' _ => p m H σ' Ext.refl rs rl'
theorem tG_thenT {α β : Type} {ρ : Rl α β} {m : Mp} {h : Hh} {s : Sl} {σ : St} {H : Hp} {f : Sl → Hh → R α} {k : α → Hh → R Sl} {Q : St → Hp → Prop} {Q' : β → Hp → Prop} (rs : RS Z m h H) (rl : RSl Z m H s σ)
    (p : TP2 Z m H Q ((sure (f s h)).bind k))
    (q : ∀ m1 h1 H1 d v, Ext m H m1 H1 → RS Z m1 h1 H1 → RSl Z m1 H1 s σ → ρ.r Z H m1 H1 d v → TP2 Z m1 H1 Q (k d h1) → Q' v H1) : tG ρ Z W f σ H Q' := by
  refine ⟨m, h, s, rs, rl, ?_⟩
  cases e : f s h with
  | ok d h1 =>
    rw [e] at p
    exact fun m1 H1 v x rs1 rv => q m1 h1 H1 d v x rs1 (rl.ext x) rv (TP2.ext x p)
  | exc ex h1 => rw [e] at p; exact p.elim
  | stk => rw [e] at p; exact p.elim
/-- o[i] = d -/
def setD (h : Hh) (x y d : D) : Option Hh := match refL h x, y with
  | some (n, xs), .int k => (ixN xs.length k).map fun j => h.set n (.lst (xs.set j d))
  | _, _ => none
def ixT (fo fi : EF) : TF := fun d s h => (sure (fo s h)).bind fun x h1 => (sure (fi s h1)).bind fun y h2 => match setD h2 x y d with
  | some h3 => .ok s h3
  | none => .stk
def rSetA (Z : Zp) : TSet := fun o i v H Q => ∃ m h x y d h', RS Z m h H ∧ RV Z m H x o ∧ RV Z m H y i ∧ RV Z m H d v ∧ setD h x y d = some h' ∧ ∀ m' H', Ext m H m' H' → RS Z m' h' H' → Q H'
theorem set_ok : PSet X (rSetA Z) := by
  intro pins s σ H o i v ov iv u Q I ro ri rv ⟨m, h, x, y, d, h', rs, rx, ry, rd, e, q⟩
  unfold setD at e
  split at e
  · rename_i n xs k e1
    obtain ⟨j, e2, rfl⟩ := Option.map_eq_some_iff.mp e
    obtain ⟨a, vs, rfl, hm, hg, h1, h2⟩ := refL_ok rs rx e1
    cases ry
    refine set_list pins s σ H _ _ v ov iv u Q I ro ri rv ⟨a, vs, _, j, rfl, rfl, h1, by rw [← h2.length]; exact e2, q m _ (rs.putX hm) (rs.put hm ((RO.lst (h2.set rd j)).mov (rs.putM hm)))⟩
  · cases e
theorem g_ix {o i : Expr} {pos : Pos} {fo fi : EF} (hi' : noSlice i = true) (ho : PE X o (tE Z W fo)) (hi : PE X i (tE Z W fi)) : PG X (.Subscript o i pos) (tGt Z (ixT fo fi)) := by
  refine (pg_sub ho hi (set_ok (Z := Z)) ?_).imp fun v σ H Q ⟨m, h, s, d, rs, rl, rv, p⟩ => tG_thenT rs rl p fun m1 h1 H1 x w x1 rs1 rl1 r1 p1 => tG_thenT rs1 rl1 p1 fun m2 h2 H2 y w2 x2 rs2 rl2 r2 p2 => ?_
  · intro v
    cases i <;> first | rfl | cases hi'
  · cases es : setD h2 x y d with
    | none => rw [es] at p2; exact p2.elim
    | some h3 =>
      rw [es] at p2
      exact ⟨m2, h2, x, y, d, h3, rs2, r1.ext x2, r2, rv.ext (x1.trans x2), es, fun m' H' y' rs' => p2 m' H' σ y' rs' (rl2.ext y')⟩
end
end Ev
set_option maxRecDepth 100000
namespace Ev
open PySem PySem.Spec L2
open PyProof.Rows hiding St
section
variable {X : Cx} {Z : Zp} {W : WX}
theorem _root_.L2.PS.ofOk {st : Stmt} {t : TS} (h : X.Ok → PS X st t) : PS X st t := ⟨fun pins s σ H D I q => (h I.ok).run pins s σ H D I q⟩
/-! ### the assignments' side questions -/
def noComp : Expr → Bool
  | .ListComp .. | .SetComp .. | .DictComp .. => false
  | _ => true
theorem sw_none {e : Expr} {t : Option Expr} {l : Nat} {env : Env} (h : noComp e = true) : swapsWith e t l env = pure false := by
  cases e <;> first | rfl | cases h
def isName : Expr → Bool
  | .Name .. => true
  | _ => false
theorem sw_notName {e t : Expr} {l : Nat} {env : Env} (h : isName t = false) : swapsWith e (some t) l env = pure false := by
  by_cases k : noComp e = true
  · exact sw_none k
  · cases e <;> first | exact absurd rfl k | (cases t <;> first | rfl | cases h)
/-- the plain local names among the targets, on their line -/
def parNames (lk : Str → Bool) (ts : List Expr) : List Str := ts.filterMap fun t => match t with
  | .Name id pos => if lk id && pos.line == (ts.head?.map (·.pos.line)).getD 0 then some id else none
  | _ => none
/-- no stores are exchanged -/
def swN (lk : Str → Bool) (ts vs : List Expr) : Bool :=
  !(ts.length == 2 || ts.length == 3) || vs.length != ts.length || (parNames lk ts).length != ts.length || (parNames lk ts).eraseDups.length != (parNames lk ts).length || vs.all (foldedForSure 8)
def swNone (lk : Str → Bool) (t v : Expr) : Bool := match t, v with
  | .Tuple ts _ _, .Tuple vs _ _ => swN lk ts vs
  | .List .., _ => false
  | _, _ => true
def lkOf (env : Env) : Str → Bool := fun id => env.kindOf id == some .local
theorem parNames_eq (env : Env) (ts : List Expr) : (ts.filterMap fun t => match t with
    | .Name id pos => if env.kindOf id == some .local && pos.line == (ts.head?.map (·.pos.line)).getD 0 then some id else none
    | _ => none) = parNames (lkOf env) ts := rfl
theorem sw_unf (ts vs : List Expr) (k k2 : Nat) (p p2 : Pos) (env : Env) : ∃ tl : Sem (Option (List Str)), swappedStores [.Tuple ts k p] (.Tuple vs k2 p2) env =
    (if (!(ts.length == 2 || ts.length == 3) || vs.length != ts.length || env.blockKind != .function) = true then pure none else if (vs.any fun | .Starred .. => true | _ => false) = true then pure none else
      if ((parNames (lkOf env) ts).length != ts.length || (parNames (lkOf env) ts).eraseDups.length != (parNames (lkOf env) ts).length) = true then pure none else if vs.all (foldedForSure 8) = true then pure none else tl) ∧
    (vs.all (constantsAlone 8) = false → tl = pure (some (parNames (lkOf env) ts))) := ⟨_, rfl, fun h => by simp only [h]; rfl⟩
theorem sw_tt {ts vs : List Expr} {k k2 : Nat} {p p2 : Pos} {env : Env} (key : swN (lkOf env) ts vs = true) : swappedStores [.Tuple ts k p] (.Tuple vs k2 p2) env = pure none := by
  obtain ⟨tl, e, _⟩ := sw_unf ts vs k k2 p p2 env
  rw [e]
  split
  · rfl
  · rename_i h1
    split
    · rfl
    · split
      · rfl
      · rename_i h3
        split
        · rfl
        · rename_i h4
          exfalso
          unfold swN at key
          simp only [Bool.or_eq_true, not_or] at h1 h3 h4 key
          obtain ⟨⟨a1, a2⟩, a3⟩ := h1
          rcases key with (((key | key) | key) | key) | key
          · exact a1 key
          · exact a2 key
          · exact h3.1 key
          · exact h3.2 key
          · exact h4 key
theorem sw_some {ts vs : List Expr} {k k2 : Nat} {p p2 : Pos} {env : Env} (hb : env.blockKind = .function) (key : swN (lkOf env) ts vs = false) (hs : (vs.any fun | .Starred .. => true | _ => false) = false) (hc : vs.all (constantsAlone 8) = false) :
    swappedStores [.Tuple ts k p] (.Tuple vs k2 p2) env = pure (some (parNames (lkOf env) ts)) := by
  obtain ⟨tl, e, h⟩ := sw_unf ts vs k k2 p p2 env
  unfold swN at key
  simp only [Bool.or_eq_false_iff] at key
  obtain ⟨⟨⟨⟨k1, k2⟩, k3⟩, k4⟩, k5⟩ := key
  rw [e, if_neg (by rw [k1, k2, hb]; decide), if_neg (by rw [hs]; decide), if_neg (by rw [k3, k4]; decide), if_neg (by rw [k5]; decide)]
  exact h hc
theorem sw_stores {t v : Expr} {env : Env} (h : swNone (lkOf env) t v = true) : swappedStores [t] v env = pure none := by
  cases t with
  | Tuple ts k p => cases v with
    | Tuple vs k2 p2 => exact sw_tt h
    | _ => rfl
  | List ts p => cases h
  | _ => rfl
/-! ### assignments -/
def asgS (f : EF) (t : TF) : SF := fun s h => (f s h).thenS s fun d h1 => match t d s h1 with
  | .ok s' h2 => .nx s' h2
  | _ => .stk
theorem one_of {tg : Expr} {env : Env} (h : noStar tg = true) : (assignEach [tg] env).map (·.2) = [assign tg env] := by
  cases tg <;> first | rfl | cases h
theorem asg_read {f : EF} {t : TF} {E : Ends} {σ : St} {H : Hp} (q : tSt Z W (asgS f t) E σ H) : tAsg (tE Z W f) (tGt Z t) E σ H := by
  obtain ⟨m, h, s, rs, rl, p⟩ := q
  refine tG_thenS rs rl p fun m1 h1 H1 d v x1 rs1 rl1 r1 p1 => ⟨m1, h1, s, d, rs1, rl1, r1, ?_⟩
  cases e : t d s h1 with
  | ok s' h2 => rw [e] at p1; exact fun m' H' σ' x rs' rl' => p1 m' H' σ' x rs' rl'
  | exc e' h2 => rw [e] at p1; exact p1.elim
  | stk => rw [e] at p1; exact p1.elim
theorem s_asg {tg e : Expr} {f : EF} {t : TF} {pos : Pos} (h1 : noComp e = true ∨ isName tg = false) (h2 : ∀ env : Env, env.scope = X.env.scope → swNone (lkOf env) tg e = true) (h3 : noStar tg = true) (he : PE X e (tE Z W f)) (hg : PG X tg (tGt Z t)) : PS X (.Assign [tg] e pos) (tSt Z W (asgS f t)) :=
  (ps_asg he hg (h1.elim (fun k => sw_none k) fun k => sw_notName k) (sw_stores (h2 X.env rfl)) (one_of h3)).imp fun _ _ _ q => asg_read q
/-- name = [..] on the name's line -/
theorem s_setC (hK : Z.K = X.K) (hc : X.calm = true) (hN : X.N.Nodup) {i : Nat} {y : Str} {py : Pos} (hy : X.N[i]? = some y) (hyl : X.env.scope.names.lookup y = some .local) {elt tg iter : Expr} {ifs : List Expr} {scope : Scope} {own : List (Str × Nat)} {pos spos : Pos} {it : IF} {ti : Tg} {cond : BF} {ef : EF}
    (hl : py.line = pos.line) (hsw : (scope.names.any fun x => x.1 == y && (x.2 == .local || x.2 == .cell)) = false) (hi : PI X tg iter (tIt Z W it)) (ok : BlkOk X.N X.env.scope scope own)
    (hown : ∀ i ∈ ti.slots, i ∈ own.map (·.2)) (hg : ∀ (s : Shared) (H : Hp) (C : Addr) (cl : List (Str × Addr)) (fp : List Addr), PG (X.blk s H scope (compEnvC scope cl C X.env) fp) tg (gTg Z.K ti))
    (ht : ∀ (s : Shared) (H : Hp) (C : Addr) (cl : List (Str × Addr)) (fp : List Addr), PTs (X.blk s H scope (compEnvC scope cl C X.env) fp) ifs (tTt Z W0 cond))
    (he : ∀ (s : Shared) (H : Hp) (C : Addr) (cl : List (Str × Addr)) (fp : List Addr), PE (X.blk s H scope (compEnvC scope cl C X.env) fp) elt (tE Z W0 ef)) (hs : noSet iter = true)
    {t : (Sl → Hh → R O) → EF} (htr : ∀ σ H Q, tE Z W (t (compF (own.map (·.2)) it ti cond ef)) σ H Q → tFr Z W (compF (own.map (·.2)) it ti cond ef) σ H Q) :
    PS X (.Assign [.Name y py] (.ListComp elt [⟨tg, iter, ifs, 0⟩] scope pos) spos) (tSt Z W (asgS (t (compF (own.map (·.2)) it ti cond ef)) fun d s h => .ok (s.set i (some d)) h)) := .ofOk fun ok' => by
  refine (ps_setLc hc hN hy hyl ?_ hi ok hg ht he (folded_of hs)).imp fun E σ H q => ?_
  · show (pure (X.env.blockKind == .function && X.env.kindOf y == some .local && py.line == pos.line && !(scope.names.any fun x => x.1 == y && (x.2 == .local || x.2 == .cell))) : Sem Bool) = pure true
    have hb : X.env.blockKind = .function := by
      show (if X.env.scope.kind.isAnnotationScope then ScopeKind.function else X.env.scope.kind) = _
      rw [ok'.kind]; rfl
    have hk : X.env.kindOf y = some .local := hyl
    rw [hb, hk, hl, hsw]
    simp
  · have q1 := asg_read q
    have q2 : tE Z W (t (compF (own.map (·.2)) it ti cond ef)) σ H (fun x H1 => gName i x σ H1 E.nx) := by
      obtain ⟨m, h, s, rs, rl, p⟩ := q
      refine tG_thenS rs rl p fun m1 h1 H1 d v x1 rs1 rl1 r1 p1 => ?_
      exact p1 m1 H1 _ Ext.refl rs1 (rl1.set r1)
    exact comp_read hK hown (htr _ _ _ q2)
/-- from a reading as a value to one of the new object -/
theorem pur_imp {f : Sl → Hh → R O} {σ : St} {H : Hp} {Q : VK} (q : tE Z W (purE f) σ H Q) : tFr Z W f σ H Q := by
  obtain ⟨m, h, s, rs, rl, p⟩ := q
  refine ⟨m, h, s, rs, rl, ?_⟩
  unfold purE at p
  cases e : f s h with
  | ok o h1 =>
    rw [e] at p
    intro m' H' q ho x hq hq' hf rs' ro
    have rs2 := rs'.unban
    have out : Out m' q := hf
    cases ro with
    | lst r => exact p m' H' _ x rs2 (.lst hq' out (r.mov Mov.unban))
    | dic r => exact p m' H' _ x rs2 (.dic hq' out (r.mov Mov.unban))
    | ins r => exact p.elim
  | exc ex h1 => rw [e] at p; exact p
  | stk => rw [e] at p; exact p
theorem new_imp {f : Sl → Hh → R O} {σ : St} {H : Hp} {Q : VK} (q : tE Z W (newE f) σ H Q) : tFr Z W f σ H Q := by
  obtain ⟨m, h, s, rs, rl, p⟩ := q
  refine ⟨m, h, s, rs, rl, ?_⟩
  unfold newE at p
  cases e : f s h with
  | ok o h1 =>
    rw [e] at p
    intro m' H' q ho x hq hq' hf rs' ro
    have dm : ∀ n a, m' n = some a → n < h1.length := fun n a z => (rs'.dom n).mp ⟨a, z⟩
    refine p (m'.add h1.length q) H' _ ⟨fun n a z => ?_, fun n a z => ?_, x.keep, x.old, x.nu, x.nn⟩ (rs'.add hf.1 hq' ro) (.ref ?_)
    · have z' := x.up n a z
      show (if n = h1.length then some q else m' n) = some a
      have := dm n a z'
      rw [if_neg (by omega)]
      exact z'
    · have z' : (if n = h1.length then some q else m' n) = some a := z
      split at z'
      · cases z'; exact .inr hq
      · exact x.new n a z'
    · show (if h1.length = h1.length then some q else m' h1.length) = some q
      rw [if_pos rfl]
  | exc ex h1 => rw [e] at p; exact p
  | stk => rw [e] at p; exact p
/-- a, b = .. / a, b, c = .. , stored from the right -/
def parS (is : List Nat) (g : LF) : SF := fun s h => (g s h).thenS s fun ds h1 => if ds.length = is.length then .nx (setAll is ds s) h1 else .stk
theorem RVs.two {m : Mp} {H : Hp} {ds : List D} {vs : List V} (r : RVs Z m H ds vs) (h : ds.length = 2) : ∃ d e v w, ds = [d, e] ∧ vs = [v, w] ∧ RV Z m H d v ∧ RV Z m H e w := by
  cases r with
  | nil => cases h
  | cons r1 r => cases r with
    | nil => cases h
    | cons r2 r => cases r with
      | nil => exact ⟨_, _, _, _, rfl, rfl, r1, r2⟩
      | cons _ _ => simp at h
theorem RVs.three {m : Mp} {H : Hp} {ds : List D} {vs : List V} (r : RVs Z m H ds vs) (h : ds.length = 3) : ∃ d e g v w u, ds = [d, e, g] ∧ vs = [v, w, u] ∧ RV Z m H d v ∧ RV Z m H e w ∧ RV Z m H g u := by
  cases r with
  | nil => cases h
  | cons r1 r =>
    obtain ⟨d, e, v, w, rfl, rfl, h1, h2⟩ := RVs.two r (by simpa using h)
    exact ⟨_, _, _, _, _, _, rfl, rfl, r1, h1, h2⟩
theorem s_par {i j : Nat} {x y : Str} {a b : Expr} {g : LF} {px py pt pos : Pos} {kt k2 : Nat} {pt2 : Pos} (hc : X.calm = true) (hN : X.N.Nodup) (hi : X.N[i]? = some x) (hj : X.N[j]? = some y) (hij : i ≠ j)
    (hx : X.env.scope.names.lookup x = some .local) (hy : X.env.scope.names.lookup y = some .local) (ha : PA X [a, b] (tLs Z W g))
    (h1 : ∀ env : Env, env.scope = X.env.scope → swN (lkOf env) [.Name x px, .Name y py] [a, b] = false) (h2 : px.line = py.line) (hs : allNoStar [a, b] = true) (h3 : ([a, b] : List Expr).all (constantsAlone 8) = false) :
    PS X (.Assign [.Tuple [.Name x px, .Name y py] kt pt] (.Tuple [a, b] k2 pt2) pos) (tSt Z W (parS [i, j] g)) := .ofOk fun ok => by
  have hb : X.env.blockKind = .function := by
    show (if X.env.scope.kind.isAnnotationScope then ScopeKind.function else X.env.scope.kind) = _
    rw [ok.kind]; rfl
  have hst : (([a, b] : List Expr).any fun | .Starred .. => true | _ => false) = false := by
    obtain ⟨s1, s2⟩ := Bool.and_eq_true_iff.mp hs
    obtain ⟨s2, _⟩ := Bool.and_eq_true_iff.mp s2
    have q1 : ∀ e : Expr, noStar e = true → (match e with | .Starred .. => true | _ => false) = false := fun e h => by cases e <;> first | rfl | cases h
    simp [List.any, q1 a s1, q1 b s2]
  have hn : parNames (lkOf X.env) [.Name x px, .Name y py] = [x, y] := by
    have k1 : X.env.kindOf x = some .local := hx
    have k2 : X.env.kindOf y = some .local := hy
    show [Expr.Name x px, Expr.Name y py].filterMap (fun t => match t with
      | .Name id pos => if (X.env.kindOf id == some .local) && pos.line == px.line then some id else none
      | _ => none) = _
    simp [k1, k2, h2]
  have e := sw_some (k := kt) (k2 := k2) (p := pt) (p2 := pt2) hb (h1 X.env rfl) hst h3
  rw [hn] at e
  refine (ps_par hc hN hi hj hij hx hy ha e rfl).imp fun E σ H ⟨m, h, s, rs, rl, p⟩ => ?_
  refine tG_thenS rs rl p fun m1 h1 H1 ds vs x1 rs1 rl1 r1 p1 => ?_
  split at p1
  · rename_i hl
    obtain ⟨d, e, v, w, rfl, rfl, r2, r3⟩ := RVs.two r1 (by simpa using hl)
    exact ⟨v, w, rfl, p1 m1 H1 _ Ext.refl rs1 ((rl1.set r2).set r3)⟩
  · exact p1.elim
theorem s_par3 {i j l : Nat} {x y z : Str} {a b c : Expr} {g : LF} {px py pz pt pos : Pos} {kt k2 : Nat} {pt2 : Pos} (hc : X.calm = true) (hN : X.N.Nodup) (hi : X.N[i]? = some x) (hj : X.N[j]? = some y) (hl : X.N[l]? = some z) (hij : i ≠ j) (hil : i ≠ l) (hjl : j ≠ l)
    (hx : X.env.scope.names.lookup x = some .local) (hy : X.env.scope.names.lookup y = some .local) (hz : X.env.scope.names.lookup z = some .local) (ha : PA X [a, b, c] (tLs Z W g))
    (h1 : ∀ env : Env, env.scope = X.env.scope → swN (lkOf env) [.Name x px, .Name y py, .Name z pz] [a, b, c] = false) (h2 : px.line = py.line) (h2' : px.line = pz.line) (hs : allNoStar [a, b, c] = true) (h3 : ([a, b, c] : List Expr).all (constantsAlone 8) = false) :
    PS X (.Assign [.Tuple [.Name x px, .Name y py, .Name z pz] kt pt] (.Tuple [a, b, c] k2 pt2) pos) (tSt Z W (parS [i, j, l] g)) := .ofOk fun ok => by
  have hb : X.env.blockKind = .function := by
    show (if X.env.scope.kind.isAnnotationScope then ScopeKind.function else X.env.scope.kind) = _
    rw [ok.kind]; rfl
  have hst : (([a, b, c] : List Expr).any fun | .Starred .. => true | _ => false) = false := by
    obtain ⟨s1, s2⟩ := Bool.and_eq_true_iff.mp hs
    obtain ⟨s2, s3⟩ := Bool.and_eq_true_iff.mp s2
    obtain ⟨s3, _⟩ := Bool.and_eq_true_iff.mp s3
    have q1 : ∀ e : Expr, noStar e = true → (match e with | .Starred .. => true | _ => false) = false := fun e h => by cases e <;> first | rfl | cases h
    simp [List.any, q1 a s1, q1 b s2, q1 c s3]
  have hn : parNames (lkOf X.env) [.Name x px, .Name y py, .Name z pz] = [x, y, z] := by
    have k1 : X.env.kindOf x = some .local := hx
    have k2 : X.env.kindOf y = some .local := hy
    have k3 : X.env.kindOf z = some .local := hz
    show [Expr.Name x px, Expr.Name y py, Expr.Name z pz].filterMap (fun t => match t with
      | .Name id pos => if (X.env.kindOf id == some .local) && pos.line == px.line then some id else none
      | _ => none) = _
    simp [k1, k2, k3, ← h2, ← h2']
  have e := sw_some (k := kt) (k2 := k2) (p := pt) (p2 := pt2) hb (h1 X.env rfl) hst h3
  rw [hn] at e
  refine (ps_par3 hc hN hi hj hl hij hil hjl hx hy hz ha e rfl).imp fun E σ H ⟨m, h, s, rs, rl, p⟩ => ?_
  refine tG_thenS rs rl p fun m1 h1 H1 ds vs x1 rs1 rl1 r1 p1 => ?_
  split at p1
  · rename_i hl
    obtain ⟨d, e, f, v, w, u, rfl, rfl, r2, r3, r4⟩ := RVs.three r1 (by simpa using hl)
    exact ⟨v, w, u, rfl, p1 m1 H1 _ Ext.refl rs1 (((rl1.set r2).set r3).set r4)⟩
  · exact p1.elim
/-! ### targets of targets -/
abbrev TFs := List D → Sl → Hh → R Sl
def nilT : TFs := fun ds s h => match ds with
  | [] => .ok s h
  | _ => .stk
def consT (f : TF) (g : TFs) : TFs := fun ds s h => match ds with
  | d :: r => (sure (f d s h)).bind fun s1 h1 => g r s1 h1
  | [] => .stk
theorem gs_nil : PGs X [] (tGts Z nilT) := pgs_nil.imp fun vs σ H Q ⟨m, h, s, ds, rs, rl, rv, p⟩ => by
  cases rv with
  | nil => exact ⟨rfl, p m H σ Ext.refl rs rl⟩
  | cons _ _ => exact p.elim
theorem gs_cons {e : Expr} {es : List Expr} {f : TF} {g : TFs} (hs : noStar e = true) (h1 : PG X e (tGt Z f)) (h2 : PGs X es (tGts Z g)) : PGs X (e :: es) (tGts Z (consT f g)) :=
  (pgs_cons h1 h2 (by cases e <;> first | rfl | cases hs)).imp fun vs σ H Q ⟨m, h, s, ds, rs, rl, rv, p⟩ => by
    cases rv with
    | nil => exact p.elim
    | @cons d v ds' vs' r t =>
      refine ⟨_, _, rfl, m, h, s, d, rs, rl, r, ?_⟩
      have p : TP2 Z m H Q ((sure (f d s h)).bind fun s1 h1 => g ds' s1 h1) := p
      cases e : f d s h with
      | ok s1 h1 =>
        rw [e] at p
        exact fun m' H' σ' x rs' rl' => ⟨m', h1, s1, ds', rs', rl', t.ext x, TP2.ext x p⟩
      | exc e' h1 => rw [e] at p; exact p.elim
      | stk => rw [e] at p; exact p.elim
theorem each_len {env : Env} : ∀ {es : List Expr}, allNoStar es = true → (assignEach es env).length = es.length ∧ (assignEach es env).findIdx? (·.1) = none
  | [], _ => ⟨rfl, rfl⟩
  | e :: es, h => by
    obtain ⟨h1, h2⟩ := Bool.and_eq_true_iff.mp (show (noStar e && allNoStar es) = true from h)
    obtain ⟨k1, k2⟩ := each_len (env := env) h2
    have q : assignEach (e :: es) env = (false, assign e env) :: assignEach es env := by cases e <;> first | rfl | cases h1
    rw [q]
    refine ⟨congrArg (· + 1) k1, ?_⟩
    rw [List.findIdx?_cons, k2]; rfl
def tupT (n : Nat) (f : TFs) : TF := fun d s h => match d with
  | .tup ds => if ds.length = n then f ds s h else .stk
  | _ => .stk
theorem g_tup (hK : Z.K = X.K) (hc : X.calm = true) {es : List Expr} {k : Nat} {pos : Pos} {f : TFs} (hs : allNoStar es = true) (h : PGs X es (tGts Z f)) : PG X (.Tuple es k pos) (tGt Z (tupT es.length f)) :=
  (pg_tup hc h (each_len hs).1 (each_len hs).2).imp fun v σ H Q ⟨m, h, s, d, rs, rl, rv, p⟩ => by
    cases rv with
    | tup st r =>
      have p : TP2 Z m H Q (if _ then _ else _) := p
      split at p
      · rename_i hl
        rw [hK] at st
        exact ⟨_, _, rfl, st.sq, by rw [← r.length]; exact hl, m, h, s, _, rs, rl, r, p⟩
      · exact p.elim
    | _ => exact p.elim
end
end Ev
set_option maxRecDepth 100000
namespace Ev
open PySem PySem.Spec L2
open PyProof.Rows hiding St
/-! ### attributes -/
def putD (f : Str) (d : D) : List (Str × D) → List (Str × D)
  | [] => [(f, d)]
  | (g, x) :: r => if g = f then (g, d) :: r else (g, x) :: putD f d r
section
variable {X : Cx} {Z : Zp} {W : WX}
theorem RVf.put {m : Mp} {H : Hp} {f : Str} {d : D} {v : V} (q : RV Z m H d v) : ∀ {fs : List (Str × D)} {vs : List (Str × V)}, RVf Z m H fs vs → RVf Z m H (putD f d fs) (putF f v vs)
  | _, _, .nil => .cons q .nil
  | _, _, .cons (k := k) r t => by
    unfold putD putF
    by_cases e : k = f
    · rw [if_pos e, if_pos e]; exact .cons q t
    · rw [if_neg e, if_neg e]; exact .cons r (RVf.put q t)
theorem RVf.length {m : Mp} {H : Hp} : ∀ {fs : List (Str × D)} {vs : List (Str × V)}, RVf Z m H fs vs → fs.length = vs.length
  | _, _, .nil => rfl
  | _, _, .cons _ t => congrArg (· + 1) (RVf.length t)
def putA (T : Tb) (f : Str) (h : Hh) (x d : D) : Option Hh := match x with
  | .ref n => match h[n]? with
    | some (.ins c fs) => if T.att c f = true ∧ fs.length < 1000 then some (h.set n (.ins c (putD f d fs))) else none
    | _ => none
  | _ => none
theorem putA_ok {T : Tb} {f : Str} (M : ∀ c, T.att c f = true → Cls X.K (Z.ca c) ∧ NoAttr X.K (Z.ca c) f) {m : Mp} {h h' : Hh} {H : Hp} {x d : D} {u v : V} (rs : RS Z m h H) (rx : RV Z m H x u) (rd : RV Z m H d v) (e : putA T f h x d = some h') :
    ∃ a C dx fs, u = .ref a ∧ H a = some (.ins C dx fs) ∧ Cls X.K C ∧ NoAttr X.K C f ∧ fs.length < 1000 ∧ RS Z m h' (upd H a (.ins C dx (putF f v fs))) ∧ Ext m H m (upd H a (.ins C dx (putF f v fs))) := by
  unfold putA at e
  split at e
  · rename_i n
    split at e
    · rename_i c fs e1
      split at e
      · rename_i hc
        cases e
        cases rx with
        | ref hm =>
          obtain ⟨dx, vs, h3, h4⟩ := rs.ins _ _ _ _ hm e1
          exact ⟨_, _, dx, vs, rfl, h3, (M c hc.1).1, (M c hc.1).2, by rw [← h4.length]; exact hc.2, rs.put hm (.ins ((h4.put rd).mov (rs.putM hm))), rs.putX hm⟩
      · cases e
    · cases e
  · cases e
def fldS (T : Tb) (f : Str) (fo fv : EF) : SF := fun s h => (fv s h).thenS s fun d h1 => (fo s h1).thenS s fun x h2 => match putA T f h2 x d with
  | some h3 => .nx s h3
  | none => .stk
theorem s_fld {T : Tb} {o value : Expr} {f : Str} {pos pos' : Pos} {fo fv : EF} (M : ∀ c, T.att c f = true → Cls X.K (Z.ca c) ∧ NoAttr X.K (Z.ca c) f) (ho : PE X o (tE Z W fo)) (hv : PE X value (tE Z W fv)) : PS X (.Assign [.Attribute o f pos'] value pos) (tSt Z W (fldS T f fo fv)) :=
  (ps_fld ho hv (sw_notName rfl)).imp fun E σ H ⟨m, h, s, rs, rl, p⟩ => tG_thenS rs rl p fun m1 h1 H1 d v x1 rs1 rl1 r1 p1 => tG_thenS rs1 rl1 p1 fun m2 h2 H2 x u x2 rs2 rl2 r2 p2 => by
    split at p2
    · rename_i h3 e
      obtain ⟨a, C, dx, fs, rfl, k1, k2, k3, k4, k5, k6⟩ := putA_ok M rs2 r2 (r1.ext x2) e
      exact ⟨a, C, dx, fs, rfl, k1, k2, k3, k4, p2 m2 _ σ k6 k5 (rl2.ext k6)⟩
    · exact p2.elim
/-! ### += -/
def augS (i : Nat) (f : EF) : SF := fun s h => match s[i]? with
  | some (some (.int a)) => (f s h).thenS s fun d h1 => match d with
    | .int b => .nx (s.set i (some (.int (a + b)))) h1
    | _ => .stk
  | _ => .stk
theorem s_aug {i : Nat} {x : Str} {e : Expr} {f : EF} {pos pos' : Pos} (hN : X.N.Nodup) (hi : X.N[i]? = some x) (hx : Loc X.env.scope x) (hf : X.fn x = true ∨ X.env.scope.names.lookup x = some .local) (he : PE X e (tE Z W f)) : PS X (.AugAssign (.Name x pos') .Add e pos) (tSt Z W (augS i f)) :=
  (ps_aug hN hi hx he ip_add hf).imp fun E σ H ⟨m, h, s, rs, rl, p⟩ => by
    unfold augS at p
    split at p
    · rename_i a e0
      obtain ⟨v, e1, r⟩ := rl.2 i _ e0
      cases r
      refine ⟨_, e1, tG_thenS rs rl p fun m1 h1 H1 d v x1 rs1 rl1 r1 p1 => ?_⟩
      split at p1
      · cases r1
        exact ⟨_, _, rfl, rfl, p1 m1 H1 _ Ext.refl rs1 (rl1.set (.int _))⟩
      · exact p1.elim
    · exact p.elim
/-- what stands at a place of a list -/
def rGetL : V → V → Hp → VK → Prop := fun o i H Q => ∃ p xs k j v, o = .ref p ∧ i = .int k ∧ H p = some (.lst xs) ∧ ixN xs.length k = some j ∧ xs[j]? = some v ∧ Q v H
theorem get_list : PGet X rGetL := by
  intro pins s σ H o i ov iv Q I ro ri ⟨p, xs, k, j, v, e1, e2, hp, hj, hv, q⟩
  subst e1; subst e2
  obtain rfl : ov = Value.ref p := ro
  obtain ⟨t, rfl⟩ := ri
  obtain ⟨its, n, r, ho, hz⟩ := I.lst hp
  obtain ⟨h1, h2, h3, h4⟩ := ixN_seq hj
  have hl := r.length
  have hn := line63
  have isl : s.heap.IsList p its.toArray := ⟨_, ho, rfl, n, rfl⟩
  obtain ⟨u, hu, ru⟩ : ∃ u, its[j]? = some u ∧ RelV v u := r.get hv
  have hr : EP X pins σ Q u s := ⟨v, H, I, ru, q⟩
  unfold ixN at hj
  by_cases h0 : 0 ≤ k
  · have hk : k.toNat = j := by
      rw [if_pos h0] at hj
      split at hj <;> simp_all
    exact wpAny_getItem_list isl h0 (by omega) (by simpa [hk] using hu) hr
  · have hk : (k + its.toArray.size).toNat = j := by
      rw [if_neg h0, if_pos h3] at hj
      cases hj
      rw [List.size_toArray, hl]
    exact wpAny_getItem_list_neg isl (by omega) (by simp; omega) (by omega) (by rw [hk]; simpa using hu) hr
def augIx (fo fi fe : EF) : SF := fun s h => (fo s h).thenS s fun x h1 => (fi s h1).thenS s fun y h2 => match refL h2 x, y with
  | some (_, xs), .int k => match ixN xs.length k with
    | some j => match xs[j]? with
      | some (.int a) => (fe s h2).thenS s fun d h3 => match d with
        | .int b => match setD h3 x y (.int (a + b)) with
          | some h4 => .nx s h4
          | none => .stk
        | _ => .stk
      | _ => .stk
    | none => .stk
  | _, _ => .stk
theorem s_augIx {o i e : Expr} {fo fi fe : EF} {pos tpos : Pos} (hi' : noSlice i = true) (ho : PE X o (tE Z W fo)) (hi : PE X i (tE Z W fi)) (he : PE X e (tE Z W fe)) : PS X (.AugAssign (.Subscript o i tpos) .Add e pos) (tSt Z W (augIx fo fi fe)) :=
  (ps_augS ho hi get_list he ip_add (set_ok (Z := Z)) (fun ov iv new => by cases i <;> first | rfl | cases hi')).imp fun E σ H ⟨m, h, s, rs, rl, p⟩ =>
    tG_thenS rs rl p fun m1 h1 H1 x u x1 rs1 rl1 r1 p1 => tG_thenS rs1 rl1 p1 fun m2 h2 H2 y w x2 rs2 rl2 r2 p2 => by
      split at p2
      · rename_i n xs k e1
        split at p2
        · rename_i j e2
          split at p2
          · rename_i a e3
            cases r2
            have r1' := r1.ext x2
            obtain ⟨q, vs, rfl, hm, hg, h1', h2'⟩ := refL_ok rs2 r1' e1
            obtain ⟨v, e4, r4⟩ := h2'.get e3
            cases r4
            refine ⟨q, vs, k, j, _, rfl, rfl, h1', by rw [← h2'.length]; exact e2, e4, tG_thenS rs2 rl2 p2 fun m3 h3 H3 d v x3 rs3 rl3 r3 p3 => ?_⟩
            split at p3
            · split at p3
              · rename_i h4 e5
                cases r3
                exact ⟨_, _, rfl, rfl, m3, h3, x, .int k, _, h4, rs3, r1'.ext x3, .int k, .int _, e5, fun m' H' y' rs' => p3 m' H' σ y' rs' (rl3.ext y')⟩
              · exact p3.elim
            · exact p3.elim
          · exact p2.elim
        · exact p2.elim
      · exact p2.elim
def augAt (T : Tb) (f : Str) (fo fe : EF) : SF := fun s h => (fo s h).thenS s fun x h1 => match x with
  | .ref n => match h1[n]? with
    | some (.ins c fs) => match T.att c f, fs.lookup f with
      | true, some (.int a) => (fe s h1).thenS s fun d h2 => match d with
        | .int b => match h2[n]? with
          | some (.ins c' fs2) => if c' = c ∧ fs2.length < 1000 then .nx s (h2.set n (.ins c (putD f (.int (a + b)) fs2))) else .stk
          | _ => .stk
        | _ => .stk
      | _, _ => .stk
    | _ => .stk
  | _ => .stk
theorem s_augAt {T : Tb} {o e : Expr} {f : Str} {fo fe : EF} {pos tpos : Pos} (M : ∀ c, T.att c f = true → Cls X.K (Z.ca c) ∧ NoAttr X.K (Z.ca c) f) (ho : PE X o (tE Z W fo)) (he : PE X e (tE Z W fe)) : PS X (.AugAssign (.Attribute o f tpos) .Add e pos) (tSt Z W (augAt T f fo fe)) :=
  (ps_fldaug ho he in_add).imp fun E σ H ⟨m, h, s, rs, rl, p⟩ =>
    tG_thenS rs rl p fun m1 h1 H1 x u x1 rs1 rl1 r1 p1 => by
      split at p1
      · rename_i n
        split at p1
        · rename_i c fs e1
          split at p1
          · rename_i a e2 e3
            cases r1 with
            | @ref _ ad hm =>
              obtain ⟨dx, vs, h3, h4⟩ := rs1.ins _ _ _ _ hm e1
              obtain ⟨v, h5, h6⟩ := (h4.lookup f).2 _ e3
              cases h6
              refine ⟨ad, _, dx, vs, _, rfl, h3, (M c e2).1, (M c e2).2, h5, tG_thenS rs1 rl1 p1 fun m3 h3' H3 d v x3 rs3 rl3 r3 p3 => ?_⟩
              split at p3
              · split at p3
                · rename_i c' fs2 e5
                  split at p3
                  · rename_i hc
                    obtain ⟨rfl, hl⟩ := hc
                    cases r3
                    have hm3 := x3.up _ _ hm
                    obtain ⟨dx', fs', k1, k2⟩ := rs3.ins _ _ _ _ hm3 e5
                    exact ⟨_, _, rfl, rfl, dx', fs', k1, by rw [← k2.length]; exact hl, p3 m3 _ σ (rs3.putX hm3) (rs3.put hm3 (.ins ((k2.put (.int _)).mov (rs3.putM hm3)))) (rl3.ext (rs3.putX hm3))⟩
                  · exact p3.elim
                · exact p3.elim
              · exact p3.elim
          · exact p1.elim
        · exact p1.elim
      · exact p1.elim
/-! ### for -/
noncomputable def forL (gs : Gs) (t : TF) (b : SF) : List D → Sl → Hh → SR
  | [], s, h => open Classical in if gok gs h then .nx s h else .stk
  | x :: xs, s, h => open Classical in if gok gs h then match t x s h with
    | .ok s1 h1 => match b s1 h1 with
      | .nx s2 h2 => forL gs t b xs s2 h2
      | .ct s2 h2 => forL gs t b xs s2 h2
      | .bk s2 h2 => .nx s2 h2
      | r => r
    | _ => .stk else .stk
noncomputable def forS (it : IF) (t : TF) (b : SF) : SF := fun s h => (it s h).thenS s fun iv h1 => forL iv.gs t b iv.xs s h1
theorem s_for (hp : PassesOwn (model X.prog X.w) X.A X.env X.xe) (hc : X.calm = true) {tg iter : Expr} {body : List Stmt} {it : IF} {t : TF} {b : SF} {pos : Pos} (hi : PI X tg iter (tIt Z W it)) (hg : PG X tg (tGt Z t)) (hb : PSs X body (tSt Z W b)) (hs : noSet iter = true) :
    PS X (.For tg iter body [] pos) (tSt Z W (forS it t b)) :=
  (ps_for hp hc hi hg hb (folded_of hs)).imp fun E σ H ⟨m, h, s, rs, rl, p⟩ => by
    refine ⟨m, h, s, rs, rl, ?_⟩
    unfold forS at p
    cases e0 : it s h with
    | exc e h1 =>
      rw [e0] at p
      exact fun m' H' c dx x rs' rx => p m' H' σ c dx x rs' (rl.ext x) rx
    | stk => rw [e0] at p; exact p
    | ok iv h1 =>
      rw [e0] at p
      intro m1 H1 J x1 rs1 itok
      have p1 : SP2 Z W m H E (forL iv.gs t b iv.xs s h1) := p
      refine ⟨fun i k σ' H' => k = iv.xs.length - i ∧ i ≤ iv.xs.length ∧ ∃ m' h' s', Ext m1 H1 m' H' ∧ RS Z m' h' H' ∧ RSl Z m' H' s' σ' ∧ SP2 Z W m' H' E (forL iv.gs t b (iv.xs.drop i) s' h'), ⟨iv.xs.length, by simp, Nat.zero_le _, m1, h1, s, Ext.refl, rs1, rl.ext x1, by simpa using SP2.ext x1 p1⟩, ?_⟩
      rintro i k σ' H' ⟨rfl, hi', m', h', s', x', rs', rl', pf⟩
      by_cases hlt : i < iv.xs.length
      · refine .inr ?_
        have hdrop : iv.xs.drop i = iv.xs[i] :: iv.xs.drop (i + 1) := List.drop_eq_getElem_cons hlt
        rw [hdrop] at pf
        unfold forL at pf
        split at pf
        · rename_i hgk
          obtain ⟨go, hy⟩ := itok.go m' h' H' i x' rs' hgk hlt
          refine ⟨go, fun σ3 H3 => ∃ m3 h3 s3, Ext m1 H1 m3 H3 ∧ RS Z m3 h3 H3 ∧ RSl Z m3 H3 s3 σ3 ∧ SP2 Z W m3 H3 E (forL iv.gs t b (iv.xs.drop (i + 1)) s3 h3), fun σ3 H3 n3 => ⟨iv.xs.length - (i + 1), by omega, rfl, hlt, n3⟩, fun x Hx yy => ?_⟩
          obtain ⟨xe, rsx, d, hd, rv⟩ := hy x Hx yy
          rw [List.getElem?_eq_getElem hlt] at hd
          cases hd
          refine ⟨m', h', s', _, rsx, rl'.ext xe, rv, ?_⟩
          cases e1 : t iv.xs[i] s' h' with
          | exc e h2 => rw [e1] at pf; exact pf.elim
          | stk => rw [e1] at pf; exact pf.elim
          | ok s1 h2 =>
            rw [e1] at pf
            intro m4 H4 σ4 x4 rs4 rl4
            refine ⟨m4, h2, s1, rs4, rl4, ?_⟩
            have x5 : Ext m1 H1 m4 H4 := (x'.trans xe).trans x4
            have pf : SP2 Z W m' H' E (match b s1 h2 with
              | .nx s2 h2 => forL iv.gs t b (iv.xs.drop (i + 1)) s2 h2
              | .ct s2 h2 => forL iv.gs t b (iv.xs.drop (i + 1)) s2 h2
              | .bk s2 h2 => .nx s2 h2
              | r => r) := pf
            have pf := SP2.ext (xe.trans x4) pf
            cases e2 : b s1 h2 with
            | nx s2 h3 => rw [e2] at pf; exact fun m6 H6 σ6 x6 rs6 rl6 => ⟨m6, h3, s2, x5.trans x6, rs6, rl6, SP2.ext x6 pf⟩
            | ct s2 h3 => rw [e2] at pf; exact fun m6 H6 σ6 x6 rs6 rl6 => ⟨m6, h3, s2, x5.trans x6, rs6, rl6, SP2.ext x6 pf⟩
            | bk s2 h3 => rw [e2] at pf; exact pf
            | rt d h3 => rw [e2] at pf; exact pf
            | ex e s2 h3 => rw [e2] at pf; exact pf
            | stk => rw [e2] at pf; exact pf
        · exact pf.elim
      · have hi2 : i = iv.xs.length := by omega
        subst hi2
        rw [List.drop_length] at pf
        unfold forL at pf
        split at pf
        · rename_i hgk
          exact .inl ⟨itok.stop m' _ H' x' rs' hgk, pf.nxt rs' rl'⟩
        · exact pf.elim
/-! ### while -/
def whileL (c : BF) (b : SF) : Nat → SF
  | 0, _, _ => .stk
  | n + 1, s, h => (c s h).thenS s fun t h1 => if t = true then match b s h1 with
    | .nx s2 h2 => whileL c b n s2 h2
    | .ct s2 h2 => whileL c b n s2 h2
    | .bk s2 h2 => .nx s2 h2
    | r => r else .nx s h1
noncomputable def whileS (c : BF) (b : SF) : SF := fun s h => open Classical in if q : ∃ n, whileL c b n s h ≠ .stk then whileL c b q.choose s h else .stk
theorem whileL_up {c : BF} {b : SF} : ∀ {n : Nat} {s : Sl} {h : Hh}, whileL c b n s h ≠ .stk → whileL c b (n + 1) s h = whileL c b n s h
  | 0, s, h, q => absurd rfl q
  | n + 1, s, h, q => by
    unfold whileL at q ⊢
    cases e : c s h with
    | exc e h1 => rfl
    | stk => rfl
    | ok t h1 =>
      rw [e] at q
      simp only [R.thenS_ok] at q ⊢
      cases t with
      | false => rfl
      | true =>
        simp only [if_true] at q ⊢
        cases e2 : b s h1 with
        | nx s2 h2 => rw [e2] at q; exact whileL_up q
        | ct s2 h2 => rw [e2] at q; exact whileL_up q
        | _ => rfl
theorem whileL_le {c : BF} {b : SF} {n k : Nat} {s : Sl} {h : Hh} (q : whileL c b n s h ≠ .stk) : n ≤ k → whileL c b k s h = whileL c b n s h := by
  intro hk
  induction hk with
  | refl => rfl
  | step _ ih => rw [whileL_up (by rw [ih]; exact q), ih]
theorem whileS_of {c : BF} {b : SF} (n : Nat) {s : Sl} {h : Hh} (q : whileL c b n s h ≠ .stk) : whileS c b s h = whileL c b n s h := by
  have e : ∃ n, whileL c b n s h ≠ .stk := ⟨n, q⟩
  unfold whileS
  rw [dif_pos e]
  rcases Nat.le_total n e.choose with k | k
  · exact whileL_le q k
  · exact (whileL_le e.choose_spec k).symm
theorem s_while (hp : PassesOwn (model X.prog X.w) X.A X.env X.xe) {c : Expr} {body : List Stmt} {cf : BF} {b : SF} {pos : Pos} (hc : PT X c (tTt Z W cf)) (hb : PSs X body (tSt Z W b)) : PS X (.While c body [] pos) (tSt Z W (whileS cf b)) :=
  (ps_while hp hc hb).imp fun E σ H ⟨m, h, s, rs, rl, p⟩ => by
    unfold whileS at p
    split at p
    · rename_i q
      refine ⟨fun k σ' H' => ∃ m' h' s', RS Z m' h' H' ∧ RSl Z m' H' s' σ' ∧ SP2 Z W m' H' E (whileL cf b k s' h'), ⟨q.choose, m, h, s, rs, rl, p⟩, ?_⟩
      rintro k σ' H' ⟨m', h', s', rs', rl', p'⟩
      cases k with
      | zero => exact p'.elim
      | succ k =>
        unfold whileL at p'
        refine tG_thenS rs' rl' p' fun m1 h1 H1 t t' x1 rs1 rl1 r1 p1 => ?_
        have e : t = t' := r1
        subst e
        cases t with
        | false => exact iteF (p1.nxt rs1 rl1)
        | true =>
          refine iteT ⟨fun σ3 H3 => ∃ m3 h3 s3, RS Z m3 h3 H3 ∧ RSl Z m3 H3 s3 σ3 ∧ SP2 Z W m3 H3 E (whileL cf b k s3 h3), fun σ3 H3 n3 => ⟨k, Nat.lt_succ_self _, n3⟩, m1, h1, s', rs1, rl1, ?_⟩
          have p1 : SP2 Z W m1 H1 E (match b s' h1 with
            | .nx s2 h2 => whileL cf b k s2 h2
            | .ct s2 h2 => whileL cf b k s2 h2
            | .bk s2 h2 => .nx s2 h2
            | r => r) := p1
          cases e2 : b s' h1 with
          | nx s2 h3 => rw [e2] at p1; exact fun m6 H6 σ6 x6 rs6 rl6 => ⟨m6, h3, s2, rs6, rl6, SP2.ext x6 p1⟩
          | ct s2 h3 => rw [e2] at p1; exact fun m6 H6 σ6 x6 rs6 rl6 => ⟨m6, h3, s2, rs6, rl6, SP2.ext x6 p1⟩
          | bk s2 h3 => rw [e2] at p1; exact p1
          | rt d h3 => rw [e2] at p1; exact p1
          | ex e s2 h3 => rw [e2] at p1; exact p1
          | stk => rw [e2] at p1; exact p1
    · exact p.elim
end
end Ev
set_option maxRecDepth 100000
namespace Ev
open PySem PySem.Spec L2
open PyProof.Rows hiding St
/-- the built-in types that are asked for -/
inductive Ty where | non | bool | int | str | tup | lst | dic
  deriving DecidableEq
def Ty.nm : Ty → String
  | .non => "NoneType" | .bool => "bool" | .int => "int" | .str => "str" | .tup => "tuple" | .lst => "list" | .dic => "dict"
def Ty.is : Ty → Ty → Bool
  | .bool, .int => true
  | a, b => a == b
theorem kit_tt : ∀ a b : Ty, b ≠ .non → kitB a.nm b.nm = some (a.is b) := by
  intro a b h
  cases a <;> cases b <;> first | exact absurd rfl h | decide +kernel
def tyN (h : Hh) : D → Option Ty
  | .non => some .non
  | .bl _ => some .bool
  | .int _ => some .int
  | .str _ => some .str
  | .tup _ => some .tup
  | .lst _ => some .lst
  | .frl _ => some .lst
  | .dic _ => some .dic
  | .ref n => match h[n]? with
    | some (.lst _) => some .lst
    | some (.dic _) => some .dic
    | _ => none
  | _ => none
section
variable {X : Cx} {Z : Zp} {W : WX}
theorem tyN_ok {m : Mp} {h : Hh} {H : Hp} {d : D} {v : V} {t : Ty} (rs : RS Z m h H) (r : RV Z m H d v) (e : tyN h d = some t) : TyX Z.K H v (.type t.nm) := by
  cases r with
  | non => cases e; exact .base .non
  | bl b => cases e; exact .base (.bl b)
  | int b => cases e; exact .base (.int b)
  | str b => cases e; exact .base (.str b)
  | ty n => cases e
  | tup st r =>
    cases e
    rcases st with ⟨h1, _⟩ | ⟨o, its, n, h1, h2, _⟩
    · exact .base (.tup h1)
    · exact .kTuple h1 h2
  | lst h1 _ _ => cases e; exact .base (.lst h1)
  | frl st _ =>
    cases e
    rcases st with ⟨h1, _⟩ | ⟨o, its, n, h1, h2, _⟩
    · rcases h1 with h1 | ⟨ob, h1⟩
      · exact .base (.lst h1)
      · exact .base (.frz h1)
    · exact .kList h1 h2
  | dic h1 _ _ => cases e; exact .base (.dK h1)
  | @ref n a hm =>
    unfold tyN at e
    simp only at e
    split at e
    · rename_i xs e1
      cases e
      obtain ⟨vs, h1, _⟩ := rs.lst _ _ _ hm e1
      exact .base (.lst h1)
    · rename_i xs e1
      cases e
      obtain ⟨vs, h1, _⟩ := rs.dic _ _ _ hm e1
      exact .base (.dK h1)
    · cases e
  | fn i => cases e
  | cls i => cases e
theorem kitAny_tt {K : PySem.W.Frag} {t : Ty} : ∀ {ts : List Ty}, (∀ b ∈ ts, b ≠ Ty.non) → PySem.W.kitAny K (.type t.nm) (ts.map fun b => Value.type b.nm) = some (ts.any t.is)
  | [], _ => rfl
  | b :: ts, h => by
    refine kitAny_cons (b := t.is b) (kit_ty (kit_tt t b (h b List.mem_cons_self))) (fun e => ?_) fun e => ?_
    · rw [kitAny_tt fun c hc => h c (List.mem_cons_of_mem _ hc)]
      show some (ts.any t.is) = some (t.is b || ts.any t.is)
      rw [e]; rfl
    · show (t.is b || ts.any t.is) = true
      rw [e]; rfl
theorem cls_tt : ∀ ts : List Ty, Paired ClsV (ts.map fun b => V.ty b.nm) (ts.map fun b => Value.type b.nm)
  | [] => .nil
  | b :: ts => .cons (.ty _) (cls_tt ts)
/-- an answer for one type; for a tuple of types -/
def rIs (Z : Zp) : List V → Hp → VK → Prop := fun xs H Q => ∃ m h d t ts x c, xs = [x, c] ∧ RS Z m h H ∧ RV Z m H d x ∧ tyN h d = some t ∧ (∀ b ∈ ts, b ≠ Ty.non) ∧ Q (.bl (ts.any t.is)) H ∧
  ((∃ b, ts = [b] ∧ c = .ty b.nm) ∨ RV Z m H (.tup (ts.map fun b => D.ty b.nm)) c)
theorem vals_ty {m : Mp} {H : Hp} : ∀ {ts : List Ty} {vs : List V}, RVs Z m H (ts.map fun b => D.ty b.nm) vs → vs = ts.map fun b => V.ty b.nm
  | [], _, .nil => rfl
  | b :: ts, _, .cons r t => by
    cases r
    rw [vals_ty t]; rfl
theorem vals_tyv : ∀ {ts : List Ty} {us : List Value}, Vals (ts.map fun b => V.ty b.nm) us → us = ts.map fun b => Value.type b.nm
  | [], _, .nil => rfl
  | b :: ts, _, .cons r t => by
    rw [vals_tyv t]
    have e : _ = Value.type b.nm := r
    rw [e]; rfl
theorem isi_ok (hK : Z.K = X.K) : CallR X (.builtin "isinstance") (rIs Z) := by
  intro pins s σ H xs us Q I r ⟨m, h, d, t, ts, x, c, e, rs, rd, et, hn, q, hc⟩
  have tx := tyN_ok rs rd et
  rw [hK] at tx
  rcases hc with ⟨b, e1, e2⟩ | hc
  · subst e1 e2 e
    refine call_isi pins s σ H _ us Q I r ⟨x, _, _, _, _, rfl, .ty _, tx, kit_ty (kit_tt t b (hn b List.mem_cons_self)), ?_⟩
    have e : ([b].any t.is) = t.is b := by simp
    rw [e] at q
    exact q
  · subst e
    cases hc with
    | tup st rv =>
      have ev := vals_ty rv
      subst ev
      rcases st with ⟨h1, _⟩ | ⟨o, its, n, h1, h2, h3, h4, h5⟩
      · exact call_isiT pins s σ H _ us Q I r ⟨x, _, _, _, _, _, rfl, h1, cls_tt ts, tx, kitAny_tt hn, q⟩
      · have eu := vals_tyv h5
        obtain ⟨oc, od, dt, sl⟩ := o
        simp only at h2 h3
        subst h2 h3
        refine call_isiK pins s σ H _ us Q I r ⟨x, _, od, _, n, sl, _, _, rfl, ?_, tx, kitAny_tt hn, q⟩
        rw [← eu, ← hK]
        exact h1
def isiE (f : EF) (ts : List Ty) : EF := fun s h => (f s h).bind fun x h1 => opt ((tyN h1 x).map fun t => .bl (ts.any t.is)) h1
def tyE (t : Ty) : EF := fun _ h => .ok (.ty t.nm) h
theorem e_ty {x : Str} {pos : Pos} {t : Ty} (hg : Gl X x) (hm : X.mg x = none) (hv : bootBuiltins x = some (.type t.nm)) (hn : x ≠ "__name__") (hd : (x == ("__debug__" : Str)) = false) : PE X (.Name x pos) (tE Z W (tyE t)) :=
  e_c (pe_bltn (v := .ty t.nm) hg hm hv rfl hn hd) fun m H => .ty _
theorem isi_read {f : EF} {ts : List Ty} {c : EF} (hn : ∀ b ∈ ts, b ≠ Ty.non) (hc : (∃ b, ts = [b] ∧ c = tyE b) ∨ c = (fun _ h => .ok (.tup (ts.map fun b => D.ty b.nm)) h)) {σ : St} {H : Hp} {Q : VK} (q : tE Z W (isiE f ts) σ H Q) :
    tCB (rIs Z) (tLs Z W (consL f (consL c nilL))) σ H Q := by
  obtain ⟨m, h, s, rs, rl, p⟩ := q
  refine ⟨m, h, s, rs, rl, ?_⟩
  unfold isiE at p
  cases e : f s h with
  | ok x h1 =>
    rw [e] at p
    show GP rhoL Z W m σ H _ (consL f (consL c nilL) s h)
    have ec : consL f (consL c nilL) s h = (c s h1).bind fun d h2 => .ok [x, d] h2 := by
      unfold consL nilL
      rw [e, R.bind_ok]
      cases c s h1 <;> rfl
    rw [ec]
    obtain ⟨z, e1, q⟩ := GP.opt p
    obtain ⟨t, e2, rfl⟩ := Option.map_eq_some_iff.mp e1
    have fin : ∀ d : D, c s h1 = .ok d h1 → ((∃ b, ts = [b] ∧ d = .ty b.nm) ∨ d = .tup (ts.map fun b => D.ty b.nm)) → GP rhoL Z W m σ H (fun vs H1 => rIs Z vs H1 Q) ((c s h1).bind fun d h2 => .ok [x, d] h2) := fun d ed hd => by
      rw [ed]
      intro m' H' vs x' rs' rv
      cases rv with
      | cons r1 rv => cases rv with
        | cons r2 rv => cases rv with
          | nil =>
            refine ⟨m', h1, x, t, ts, _, _, rfl, rs', r1, e2, hn, q m' H' _ x' rs' (.bl _), ?_⟩
            rcases hd with ⟨b, hb, rfl⟩ | rfl
            · cases r2
              exact .inl ⟨b, hb, rfl⟩
            · exact .inr r2
    rcases hc with ⟨b, hb, rfl⟩ | rfl
    · exact fin _ rfl (.inl ⟨b, hb, rfl⟩)
    · exact fin _ rfl (.inr rfl)
  | exc ex h1 =>
    rw [e] at p
    have ec : consL f (consL c nilL) s h = .exc ex h1 := by
      unfold consL
      rw [e]; rfl
    show GP rhoL Z W m σ H _ (consL f (consL c nilL) s h)
    rw [ec]
    exact p
  | stk => rw [e] at p; exact p.elim
theorem boot_isi : bootBuiltins ("isinstance" : Str) = some (.builtin "isinstance") := by rfl
theorem e_isi (hK : Z.K = X.K) {a b : Expr} {f : EF} {t : Ty} {p pos : Pos} (ht : t ≠ .non) (hg : Gl X "isinstance") (hm : X.mg "isinstance" = none) (hs : allNoStar [a, b] = true) (ha : PE X a (tE Z W f)) (hb : PE X b (tE Z W (tyE t))) :
    PE X (.Call (.Name "isinstance" p) [a, b] [] pos) (tE Z W (isiE f [t])) := by
  obtain ⟨h1, h2⟩ := Bool.and_eq_true_iff.mp (show (noStar a && allNoStar [b]) = true from hs)
  have h3 := (Bool.and_eq_true_iff.mp (show (noStar b && allNoStar []) = true from h2)).1
  refine (pe_callB (isi_ok hK) hg hm boot_isi (a_cons h1 ha (a_cons h3 hb a_nil)) (by decide) (by decide) (star_one h1) (star_all h2)).imp fun σ H Q q => ?_
  exact isi_read (fun b hb => by cases hb with | head => exact ht | tail _ h => cases h) (.inl ⟨t, rfl, rfl⟩) q
def tyL : List Ty → LF
  | [] => nilL
  | t :: ts => consL (tyE t) (tyL ts)
theorem tyL_eq : ∀ (ts : List Ty) (s : Sl) (h : Hh), tyL ts s h = .ok (ts.map fun b => D.ty b.nm) h
  | [], _, _ => rfl
  | t :: ts, s, h => by
    show (R.ok (D.ty t.nm) h).bind (fun d h1 => (tyL ts s h1).bind fun ds h2 => .ok (d :: ds) h2) = _
    rw [R.bind_ok, tyL_eq ts]; rfl
theorem e_isiT (hK : Z.K = X.K) {a : Expr} {es : List Expr} {f : EF} {ts : List Ty} {k : Nat} {p tp pos : Pos} (ht : ∀ t ∈ ts, t ≠ .non) (hl : ts.length ≤ 100) (hg : Gl X "isinstance") (hm : X.mg "isinstance" = none) (hs : noStar a = true) (ha : PE X a (tE Z W f)) (hb : PA X es (tLs Z W (tyL ts))) :
    PE X (.Call (.Name "isinstance" p) [a, .Tuple es k tp] [] pos) (tE Z W (isiE f ts)) := by
  have e : tupE (tyL ts) = fun _ h => .ok (.tup (ts.map fun b => D.ty b.nm)) h := by
    funext s h
    unfold tupE
    rw [tyL_eq, R.bind_ok]
    unfold gd
    rw [if_pos (by show _ ≤ sizeLine; rw [List.length_map, sizeLine_eq]; omega)]; rfl
  have hb' := e_tup (k := k) (pos := tp) hb
  rw [e] at hb'
  have h2 : allNoStar [Expr.Tuple es k tp] = true := rfl
  refine (pe_callB (isi_ok hK) hg hm boot_isi (a_cons hs ha (a_cons rfl hb' a_nil)) (by decide) (by decide) (star_one hs) (star_all h2)).imp fun σ H Q q => ?_
  exact isi_read ht (.inr rfl) q
end
end Ev
set_option maxRecDepth 100000
namespace Ev
open PySem PySem.Spec L2
open PyProof.Rows hiding St
/-- repr of a tuple, where nothing is being shown around -/
def reprOk (p : PyData) : Prop := p.showable = true ∧ p.hasDict = false ∧ p.shown.length ≤ sizeLine ∧ p.depth ≤ 60
instance (p : PyData) : Decidable (reprOk p) := by unfold reprOk; exact inferInstance
def isTupD : D → Bool
  | .tup _ => true
  | _ => false
def reprD (d : D) : Option D := if isTupD d = true then (match pyD d with
  | some p => gd (reprOk p) (.str p.shown)
  | none => none) else none
section
variable {X : Cx} {Z : Zp} {W : WX}
def rRp (Z : Zp) : List V → Hp → VK → Prop := fun xs H Q => ∃ m d z x, xs = [x] ∧ RV Z m H d x ∧ reprD d = some z ∧ ∀ v, RV Z m H z v → Q v H
theorem rp_ok (hK : Z.K = X.K) (hg : X.A.guards = some []) (hu : X.A.units + 65 < cLine) : CallR X (.builtin "repr") (rRp Z) := by
  intro pins s σ H xs us Q I r ⟨m, d, z, x, e, rd, ez, q⟩
  subst e
  unfold reprD at ez
  split at ez
  · rename_i ht
    split at ez
    · rename_i p ep
      obtain ⟨hp, rfl⟩ := gd_some ez
      cases rd <;> first | cases ht | skip
      rename_i a vs ds st rv
      cases r with
      | cons r1 r =>
        cases r
        have dp := py_dp (Z := Z) (RV.tup st rv) ep
        rw [hK] at dp
        obtain ⟨as, rr⟩ := Dp.reads I p (.ref a) _ dp r1
        obtain rfl := (show _ = Value.ref a from r1)
        refine PySem.repr_of_reads' rr hp.1 (PyData.noDict_hsm hp.2.1) hg (by have := hp.2.2.2; omega) (fun b o e => e) (fun h' u tk hk => ⟨.str p.shown, H, I.kept (h' := h') (t' := tk) fun b o e => hk b o e, ⟨u, rfl⟩, q _ (.str _)⟩) hp.2.2.1
    · cases ez
  · cases ez
def reprE (f : EF) : EF := fun s h => (f s h).bind fun x h1 => opt (reprD x) h1
theorem e_repr (hK : Z.K = X.K) (hgu : X.A.guards = some []) (hu : X.A.units + 65 < cLine) {a : Expr} {f : EF} {p pos : Pos} (hg : Gl X "repr") (hm : X.mg "repr" = none) (hs : noStar a = true) (ha : PE X a (tE Z W f)) : PE X (.Call (.Name "repr" p) [a] [] pos) (tE Z W (reprE f)) := by
  refine (pe_callB (rp_ok hK hgu hu) hg hm (by rfl) (pa_cons ha pa_nil (star_one hs)) (by decide) (by decide) (star_one hs) rfl).imp fun σ H Q ⟨m, h, s, rs, rl, p⟩ => ?_
  refine tG_then rs rl p fun m1 h1 H1 d v x1 rs1 rl1 r1 p1 => ?_
  obtain ⟨z, ez, q⟩ := GP.opt p1
  exact ⟨m1, d, z, v, rfl, r1, ez, fun v' r' => q m1 H1 v' Ext.refl rs1 r'⟩
end
end Ev
set_option maxRecDepth 100000
namespace Ev
open PySem PySem.Spec L2
open PyProof.Rows hiding St
/-! ### expressions as data -/
mutual
inductive E where
  | stk | c (d : D) | v (i : Nat) | g (i : Nat) | tup (es : Es) | pur (f : F) | new (f : F) | alt (a b : E)
  | bin (op : BO) (a b : E) | neg (a : E) | tst (t : T) | and (a b : E) | or (a b : E) | ite (t : T) (a b : E)
  | ix (a b : E) | sl (a : E) (lo hi : O2) | blt (b : Bf) (es : Es) | call (i : Nat) (es : Es) | mth (mn : Str) (o : E) (es : Es)
  | att (f : Str) (o : E) | mk (c : Nat) (es : Es) | bm (b : Bm) (o : E) (es : Es) | isi (a : E) (ts : List Ty) | notv (a : E) | rpr (a : E)
inductive Es where
  | nil | cons (e : E) (es : Es)
inductive T where
  | e (a : E) | cmp (op : CO) (a b : E) | chn (o o2 : CO) (a b c : E) | not (t : T) | and (a b : T) | or (a b : T)
inductive F where
  | lst (es : Es) | lof (a : E) | cat (a b : E) | rep (a b : E) | sli (a : E) (lo hi : O2) | spl (o : E) (es : Es) | srt (a : E) | comp (own : List Nat) (it : It) (tg : Tg) (c : T2) (e : E)
inductive It where
  | seq (a : E) | str (a : E) | rng1 (a : E) | rng2 (a b : E) | enu (a : E) | zip (a b : E) | alt (a b : It)
inductive O2 where
  | no | so (a : E)
inductive T2 where
  | no | so (t : T)
end
structure Pg where
  T : Tb
  gv : Nat → D
def altR {α : Type} (f g : Sl → Hh → R α) : Sl → Hh → R α := fun s h => match f s h with
  | .stk => g s h
  | r => r
def notE (f : EF) : EF := fun s h => (f s h).bind fun x h1 => (opt (truD h1 x) h1).bind fun b h1 => .ok (.bl (!b)) h1
mutual
noncomputable def evE (P : Pg) (cl : Cl) : E → EF
  | .stk => fun _ _ => .stk
  | .c d => fun _ h => .ok d h
  | .v i => varE i
  | .g i => fun _ h => .ok (P.gv i) h
  | .tup es => tupE (evEs P cl es)
  | .pur f => purE (evF P cl f)
  | .new f => newE (evF P cl f)
  | .alt a b => altR (evE P cl a) (evE P cl b)
  | .bin op a b => binE op (evE P cl a) (evE P cl b)
  | .neg a => negE (evE P cl a)
  | .tst t => boolD (evT P cl t)
  | .and a b => andE (evE P cl a) (evE P cl b)
  | .or a b => orE (evE P cl a) (evE P cl b)
  | .ite t a b => iteE (evT P cl t) (evE P cl a) (evE P cl b)
  | .ix a b => ixE (evE P cl a) (evE P cl b)
  | .sl a lo hi => slE (evE P cl a) (evO P cl lo) (evO P cl hi)
  | .blt b es => bltE b (evEs P cl es)
  | .call i es => callE cl i (evEs P cl es)
  | .mth mn o es => mthE P.T cl mn (evE P cl o) (evEs P cl es)
  | .att f o => attE P.T f (evE P cl o)
  | .mk c es => match P.T.ini c with
    | some i => mkE cl c i (evEs P cl es)
    | none => fun _ _ => .stk
  | .bm b o es => bmE b (evE P cl o) (evEs P cl es)
  | .isi a ts => isiE (evE P cl a) ts
  | .notv a => notE (evE P cl a)
  | .rpr a => reprE (evE P cl a)
noncomputable def evEs (P : Pg) (cl : Cl) : Es → LF
  | .nil => nilL
  | .cons e es => consL (evE P cl e) (evEs P cl es)
noncomputable def evT (P : Pg) (cl : Cl) : T → BF
  | .e a => truE (evE P cl a)
  | .cmp op a b => cmpE op (evE P cl a) (evE P cl b)
  | .chn o o2 a b c => chnE o o2 (evE P cl a) (evE P cl b) (evE P cl c)
  | .not t => notB (evT P cl t)
  | .and a b => andB (evT P cl a) (evT P cl b)
  | .or a b => orB (evT P cl a) (evT P cl b)
noncomputable def evF (P : Pg) (cl : Cl) : F → Sl → Hh → R O
  | .lst es => lstF (evEs P cl es)
  | .lof a => lofF (evE P cl a)
  | .cat a b => bin2F catO (evE P cl a) (evE P cl b)
  | .rep a b => bin2F repO (evE P cl a) (evE P cl b)
  | .sli a lo hi => sliF (evE P cl a) (evO P cl lo) (evO P cl hi)
  | .spl o es => splF (evE P cl o) (evEs P cl es)
  | .srt a => srtF (evE P cl a)
  | .comp own it tg c e => compF own (evI P cl it) tg (evT2 P cl c) (evE P cl e)
noncomputable def evI (P : Pg) (cl : Cl) : It → IF
  | .seq a => seqI (evE P cl a)
  | .str a => strI (evE P cl a)
  | .rng1 a => rng1I (consL (evE P cl a) nilL)
  | .rng2 a b => rng2I (consL (evE P cl a) (consL (evE P cl b) nilL))
  | .enu a => enuI (consL (evE P cl a) nilL)
  | .zip a b => zipI (consL (evE P cl a) (consL (evE P cl b) nilL))
  | .alt a b => altR (evI P cl a) (evI P cl b)
noncomputable def evO (P : Pg) (cl : Cl) : O2 → OF
  | .no => noO
  | .so a => soO (evE P cl a)
noncomputable def evT2 (P : Pg) (cl : Cl) : T2 → BF
  | .no => yesB
  | .so t => evT P cl t
end
end Ev
set_option maxRecDepth 100000
namespace Ev
open PySem PySem.Spec L2
open PyProof.Rows hiding St
/-- what a name of the text's top stands for -/
inductive Glo where
  | fn (i : Nat) | cls (c : Nat) | val (i : Nat) | free
  deriving DecidableEq
structure G where
  N : List Str
  sc : Scope
  fnB : Str → Bool
  gl : List (Str × Glo)
  gd : Bool := false
def G.glo (g : G) (x : Str) : Option Glo := if g.sc.names.lookup x == some .globalImplicit then (if x == ("__debug__" : Str) then none else g.gl.lookup x) else none
def G.vis (g : G) (x : Str) : Bool := match g.sc.names.lookup x with
  | some .local => true
  | some .cell => true
  | some .free => true
  | _ => false
def G.st (g : G) (x : Str) : Bool := match g.sc.names.lookup x with
  | some .local => true
  | some .cell => g.fnB x
  | _ => false
def ownOf (N : List Str) (scope : Scope) : List (Str × Nat) := scope.names.filterMap fun y => match y.2 with
  | .local => (N.findIdx? (· == y.1)).map fun i => (y.1, i)
  | .cell => (N.findIdx? (· == y.1)).map fun i => (y.1, i)
  | _ => none
def G.blk (g : G) (scope : Scope) : G := { g with sc := relS scope g.sc, fnB := fun x => scope.names.lookup x == some .cell }
def cOk : D → Expr → Bool
  | .non, .Constant .none _ _ => true
  | .bl b, .Constant (.bool c) _ _ => b == c
  | .int i, .Constant (.int j) _ _ => i == j
  | .str x, .Constant (.str y) _ _ => x == y
  | _, _ => false
def isTup : Expr → Bool
  | .Tuple .. => true
  | _ => false
def tyS (g : G) (t : Ty) (e : Expr) : Bool := match e with
  | .Name x _ => g.glo x == some .free && x == Str.ofString t.nm && t != .non
  | _ => false
def tySs (g : G) : List Ty → List Expr → Bool
  | [], [] => true
  | t :: ts, e :: es => tyS g t e && tySs g ts es
  | _, _ => false
/-- a tail of a chain of and, or -/
def tailB (op : BoolOp) (es : List Expr) (pos : Pos) : Option Expr := match es with
  | [] => none
  | [e] => some e
  | es => some (.BoolOp op es pos)
mutual
def ckE (g : G) : E → Expr → Bool
  | .stk, _ => true
  | .c d, e => cOk d e
  | .v i, e => match e with
    | .Name x _ => g.N[i]? == some x && g.vis x && x != ("__debug__" : Str) && x != ("__classdict__" : Str)
    | _ => false
  | .g i, e => match e with
    | .Name x _ => g.glo x == some (.val i)
    | _ => false
  | .tup es, e => match e with
    | .Tuple l _ _ => ckEs g es l
    | _ => false
  | .pur f, e => ckF g f e
  | .new f, e => ckF g f e
  | .alt a b, e => ckE g a e && ckE g b e
  | .bin op a b, e => match e with
    | .BinOp x o y _ => o == op.op && ckE g a x && ckE g b y
    | _ => false
  | .neg a, e => match e with
    | .UnaryOp .USub x _ => ckE g a x
    | _ => false
  | .tst t, e => match t, e with
    | .cmp op a b, .Compare x [o] [y] _ => o == op.op && noSet y && ckE g a x && ckE g b y
    | .chn o o2 a b c, .Compare x [p, p2] [y, z] _ => p == o.op && p2 == o2.op && noSet z && ckE g a x && ckE g b y && ckE g c z
    | _, _ => false
  | .and a b, e => match e with
    | .BoolOp .And (x :: y :: r) p => ckE g a x && (match r with
      | [] => ckE g b y
      | _ => ckE g b (.BoolOp .And (y :: r) p))
    | _ => false
  | .or a b, e => match e with
    | .BoolOp .Or (x :: y :: r) p => ckE g a x && (match r with
      | [] => ckE g b y
      | _ => ckE g b (.BoolOp .Or (y :: r) p))
    | _ => false
  | .ite t a b, e => match e with
    | .IfExp c x y _ => ckT g t c && ckE g a x && ckE g b y
    | _ => false
  | .ix a b, e => match e with
    | .Subscript x y _ => noSlice y && ckE g a x && ckE g b y
    | _ => false
  | .sl a lo hi, e => match e with
    | .Subscript x (.Slice l h none _) _ => ckE g a x && ckO g lo l && ckO g hi h
    | _ => false
  | .blt b es, e => match e with
    | .Call (.Name x _) (y :: l) [] _ => g.glo x == some .free && x == Str.ofString b.name && allNoStar (y :: l) && ckEs g es (y :: l)
    | _ => false
  | .call i es, e => match e with
    | .Call (.Name x _) l [] _ => g.glo x == some (.fn i) && allNoStar l && ckEs g es l
    | _ => false
  | .mth mn o es, e => match e with
    | .Call (.Attribute x m ap) l [] p => m == mn && noSuper x && allNoStar l && (ap.endLine == p.line) && decide (l.length < 30) && ckE g o x && ckEs g es l
    | _ => false
  | .att f o, e => match e with
    | .Attribute x m _ => m == f && noSuper x && ckE g o x
    | _ => false
  | .mk c es, e => match e with
    | .Call (.Name x _) l [] _ => g.glo x == some (.cls c) && allNoStar l && ckEs g es l
    | _ => false
  | .bm b o es, e => match e with
    | .Call (.Attribute x m ap) l [] p => m == b.nm && noSuper x && allNoStar l && (ap.endLine == p.line) && decide (l.length < 30) && ckE g o x && ckEs g es l
    | _ => false
  | .isi a ts, e => match e with
    | .Call (.Name x _) [y, .Tuple l _ _] [] _ => g.glo x == some .free && x == ("isinstance" : Str) && noStar y && decide (ts.length ≤ 100) && ckE g a y && tySs g ts l
    | .Call (.Name x _) [y, z] [] _ => g.glo x == some .free && x == ("isinstance" : Str) && allNoStar [y, z] && ckE g a y && tySs g ts [z]
    | _ => false
  | .notv a, e => match e with
    | .UnaryOp .Not x _ => ckE g a x
    | _ => false
  | .rpr a, e => match e with
    | .Call (.Name x _) [y] [] _ => g.gd && g.glo x == some .free && x == ("repr" : Str) && noStar y && ckE g a y
    | _ => false
def ckEs (g : G) : Es → List Expr → Bool
  | .nil, [] => true
  | .cons e es, x :: l => noStar x && ckE g e x && ckEs g es l
  | _, _ => false
def ckT (g : G) : T → Expr → Bool
  | .e a, e => plainTest e && ckE g a e
  | .cmp op a b, e => match e with
    | .Compare x [o] [y] _ => o == op.op && noSet y && ckE g a x && ckE g b y
    | _ => false
  | .chn o o2 a b c, e => match e with
    | .Compare x [p, p2] [y, z] _ => p == o.op && p2 == o2.op && noSet z && ckE g a x && ckE g b y && ckE g c z
    | _ => false
  | .not t, e => match e with
    | .UnaryOp .Not x _ => ckT g t x
    | _ => false
  | .and a b, e => match e with
    | .BoolOp .And (x :: y :: r) p => ckT g a x && (match r with
      | [] => ckT g b y
      | _ => ckT g b (.BoolOp .And (y :: r) p))
    | _ => false
  | .or a b, e => match e with
    | .BoolOp .Or (x :: y :: r) p => ckT g a x && (match r with
      | [] => ckT g b y
      | _ => ckT g b (.BoolOp .Or (y :: r) p))
    | _ => false
def ckF (g : G) : F → Expr → Bool
  | .lst es, e => match e with
    | .List l _ => ckEs g es l
    | _ => false
  | .lof a, e => match e with
    | .Call (.Name x _) [y] [] _ => g.glo x == some .free && x == ("list" : Str) && noStar y && ckE g a y
    | _ => false
  | .cat a b, e => match e with
    | .BinOp x .Add y _ => ckE g a x && ckE g b y
    | _ => false
  | .rep a b, e => match e with
    | .BinOp x .Mult y _ => ckE g a x && ckE g b y
    | _ => false
  | .sli a lo hi, e => match e with
    | .Subscript x (.Slice l h none _) _ => ckE g a x && ckO g lo l && ckO g hi h
    | _ => false
  | .spl o es, e => match e with
    | .Call (.Attribute x m ap) (y :: l) [] p => m == Str.ofString "split" && noSuper x && allNoStar (y :: l) && (ap.endLine == p.line) && decide ((y :: l).length < 30) && ckE g o x && ckEs g es (y :: l)
    | _ => false
  | .srt a, e => match e with
    | .Call (.Name x _) [y] [] _ => g.glo x == some .free && x == ("sorted" : Str) && noStar y && ckE g a y
    | _ => false
  | .comp own it tg c el, e => match e with
    | .ListComp x [⟨t, i, ifs, 0⟩] scope _ => own == (ownOf g.N scope).map (·.2) && blkC g.N g.sc scope (ownOf g.N scope) && tg.slots.all (fun i => own.contains i) && noSet i && ckI g it t i &&
      tgOk g.N (g.blk scope).st tg t && ckT2 (g.blk scope) c ifs && ckE (g.blk scope) el x
    | _ => false
def ckI (g : G) : It → Expr → Expr → Bool
  | .seq a, _, e => ckE g a e
  | .str a, _, e => ckE g a e
  | .rng1 a, _, e => match e with
    | .Call (.Name x _) [y] [] _ => g.glo x == some .free && x == ("range" : Str) && noStar y && ckE g a y
    | _ => false
  | .rng2 a b, _, e => match e with
    | .Call (.Name x _) [y, z] [] _ => g.glo x == some .free && x == ("range" : Str) && allNoStar [y, z] && ckE g a y && ckE g b z
    | _ => false
  | .enu a, t, e => match e with
    | .Call (.Name x _) [y] [] _ => isTup t && g.glo x == some .free && x == ("enumerate" : Str) && noStar y && ckE g a y
    | _ => false
  | .zip a b, t, e => match e with
    | .Call (.Name x _) [y, z] [] _ => isTup t && g.glo x == some .free && x == ("zip" : Str) && allNoStar [y, z] && ckE g a y && ckE g b z
    | _ => false
  | .alt a b, t, e => ckI g a t e && ckI g b t e
def ckO (g : G) : O2 → Option Expr → Bool
  | .no, none => true
  | .so a, some e => ckE g a e
  | _, _ => false
def ckT2 (g : G) : T2 → List Expr → Bool
  | .no, [] => true
  | .so t, [e] => ckT g t e
  | _, _ => false
end
end Ev
set_option maxRecDepth 100000
set_option maxHeartbeats 2000000
namespace Ev
open PySem PySem.Spec L2
open PyProof.Rows hiding St
structure Ok (X : Cx) (Z : Zp) (W : WX) (P : Pg) (cl : Cl) (k : Nat) (g : G) : Prop where
  hK : Z.K = X.K
  N : X.N = g.N
  nd : X.N.Nodup
  sc : X.env.scope = g.sc
  fn : ∀ x, g.fnB x = true → X.fn x = true
  calm : X.calm = true
  un : X.A.units + 65 < cLine
  room : Room (k + 1) X.A
  tk : Takes X W
  fnG : ∀ x i, g.gl.lookup x = some (.fn i) → ∃ f fd ps, X.mg x = some (.ref f) ∧ PySem.W.keepIn X.K (.ref f) = true ∧ Binds X.K fd ps [] ∧ FnOk X.prog X.w X.K X.mg X.base (L2.CX X.prog X.w) k f fd ps (spD Z cl i)
  clG : ∀ x c, g.gl.lookup x = some (.cls c) → X.mg x = some (.ref (Z.ca c))
  inG : ∀ c i, P.T.ini c = some i → ∃ f fd ps, Mk X.K (Z.ca c) f ∧ FnOk X.prog X.w X.K X.mg X.base (L2.CX X.prog X.w) k f fd ps (spD Z cl i) ∧ Binds X.K fd ps []
  vaG : ∀ x i, g.gl.lookup x = some (.val i) → ∃ u v, X.mg x = some u ∧ RelV v u ∧ ∀ m H, RV Z m H (P.gv i) v
  frG : ∀ x, g.gl.lookup x = some .free → X.mg x = none
  mtG : ∀ c mn i, P.T.mt c mn = some i → MthOk X Z cl k c mn i
  atG : ∀ c f, P.T.att c f = true → Cls X.K (Z.ca c) ∧ NoAttr X.K (Z.ca c) f
  gd : g.gd = true → X.A.guards = some []
theorem and2 {a b : Bool} (h : (a && b) = true) : a = true ∧ b = true := Bool.and_eq_true_iff.mp h
section
variable {X : Cx} {Z : Zp} {W : WX} {P : Pg} {cl : Cl} {k : Nat} {g : G}
theorem takesW0 {X : Cx} : Takes X W0 := fun _ _ x => by
  obtain ⟨_, _, _, _, _, _, _, _, _, _, _, _, _, _, _, _, z⟩ := x
  exact z.elim
theorem Ok.blk (c : Ok X Z W P cl k g) (s : Shared) (H : Hp) (scope : Scope) (C : Addr) (cls : List (Str × Addr)) (fp : List Addr) : Ok (X.blk s H scope (compEnvC scope cls C X.env) fp) Z W0 P cl k (g.blk scope) where
  hK := c.hK
  N := c.N
  nd := c.nd
  sc := by
    show relS scope X.env.scope = relS scope g.sc
    rw [c.sc]
  fn := fun x h => h
  calm := c.calm
  un := c.un
  room := c.room
  tk := takesW0
  fnG := c.fnG
  clG := c.clG
  inG := c.inG
  vaG := c.vaG
  frG := c.frG
  mtG := fun cc mn i e => ⟨(c.mtG cc mn i e).cls, (c.mtG cc mn i e).run⟩
  atG := c.atG
  gd := c.gd
theorem Ok.gl (c : Ok X Z W P cl k g) {x : Str} {o : Glo} (h : g.glo x = some o) : Gl X x ∧ (x == ("__debug__" : Str)) = false ∧ g.gl.lookup x = some o := by
  unfold G.glo at h
  split at h
  · rename_i h1
    split at h
    · cases h
    · rename_i h2
      refine ⟨?_, by simpa using h2, h⟩
      show X.env.scope.names.lookup x = some .globalImplicit
      rw [c.sc]
      exact beq_iff_eq.mp h1
  · cases h
theorem Ok.loc (c : Ok X Z W P cl k g) {x : Str} (h : g.st x = true) : Loc X.env.scope x ∧ (X.fn x = true ∨ X.env.scope.names.lookup x = some .local) := by
  unfold G.st at h
  rw [c.sc]
  unfold L2.Loc
  split at h
  · rename_i e; exact ⟨.inl e, .inr e⟩
  · rename_i e; exact ⟨.inr e, .inl (c.fn x h)⟩
  · cases h
theorem Ok.stOk (c : Ok X Z W P cl k g) : StOk X g.st := fun _ h => c.loc h
theorem pw_of_bool {op : BoolOp} {l : List Expr} {p : Pos} {t : TT} (h : PT X (.BoolOp op l p) t) : PW X (.BoolOp op l p) t := ⟨fun _ pins s σ H Q I q => h.run pins s σ H Q I q⟩
theorem boot_bf : ∀ b : Bf, bootBuiltins (Str.ofString b.name) = some b.val := by intro b; cases b <;> rfl
theorem bf_name : ∀ b : Bf, Str.ofString b.name ≠ ("__name__" : Str) ∧ (Str.ofString b.name == ("__debug__" : Str)) = false := by intro b; cases b <;> decide
theorem boot_ty : ∀ t : Ty, t ≠ .non → bootBuiltins (Str.ofString t.nm) = some (.type t.nm) ∧ Str.ofString t.nm ≠ ("__name__" : Str) ∧ (Str.ofString t.nm == ("__debug__" : Str)) = false := by
  intro t h
  cases t <;> first | exact absurd rfl h | exact ⟨rfl, by decide, by decide⟩
theorem alt_or {α β : Type} {ρ : Rl α β} {f f' : Sl → Hh → R α} {σ : St} {H : Hp} {Q : β → Hp → Prop} (q : tG ρ Z W (altR f f') σ H Q) : tG ρ Z W f σ H Q ∨ tG ρ Z W f' σ H Q := by
  obtain ⟨m, h, s, rs, rl, p⟩ := q
  unfold altR at p
  cases e : f s h with
  | stk => rw [e] at p; exact .inr ⟨m, h, s, rs, rl, p⟩
  | ok d h1 => rw [e] at p; exact .inl ⟨m, h, s, rs, rl, by rw [e]; exact p⟩
  | exc x h1 => rw [e] at p; exact .inl ⟨m, h, s, rs, rl, by rw [e]; exact p⟩
theorem altI_or {f f' : IF} {σ : St} {H : Hp} {Q : L2.It → Hp → Prop} (q : tIt Z W (altR f f') σ H Q) : tIt Z W f σ H Q ∨ tIt Z W f' σ H Q := by
  obtain ⟨m, h, s, rs, rl, p⟩ := q
  unfold altR at p
  cases e : f s h with
  | stk => rw [e] at p; exact .inr ⟨m, h, s, rs, rl, p⟩
  | ok d h1 => rw [e] at p; exact .inl ⟨m, h, s, rs, rl, by rw [e]; exact p⟩
  | exc x h1 => rw [e] at p; exact .inl ⟨m, h, s, rs, rl, by rw [e]; exact p⟩
theorem e_alt {e : Expr} {f f' : EF} (h1 : PE X e (tE Z W f)) (h2 : PE X e (tE Z W f')) : PE X e (tE Z W (altR f f')) := ⟨fun pins s σ H Q I q => (alt_or q).elim (h1.run pins s σ H Q I) (h2.run pins s σ H Q I)⟩
theorem i_alt {tg e : Expr} {f f' : IF} (h1 : PI X tg e (tIt Z W f)) (h2 : PI X tg e (tIt Z W f')) : PI X tg e (tIt Z W (altR f f')) := ⟨fun pins s σ H Q I q => (altI_or q).elim (h1.run pins s σ H Q I) (h2.run pins s σ H Q I)⟩
theorem e_stk {e : Expr} : PE X e (tE Z W fun _ _ => .stk) := ⟨fun _ _ _ _ _ _ ⟨_, _, _, _, _, p⟩ => p.elim⟩
theorem e_notv (hK : Z.K = X.K) {a : Expr} {f : EF} {pos : Pos} (ha : PE X a (tE Z W f)) : PE X (.UnaryOp .Not a pos) (tE Z W (notE f)) :=
  (pe_notT ha).imp fun σ H Q ⟨m, h, s, rs, rl, p⟩ => tG_then rs rl p fun m1 h1 H1 d v x1 rs1 rl1 r1 p1 => by
    cases e : truD h1 d with
    | none => rw [e] at p1; exact p1.elim
    | some b => rw [e] at p1; exact ⟨b, hK ▸ tru_some rs1 r1 e, GP.fin p1 rs1 (.bl _)⟩
theorem e_const {d : D} {e : Expr} (h : cOk d e = true) : PE X e (tE Z W fun _ h => .ok d h) := by
  unfold cOk at h
  split at h
  · exact e_c pe_non fun _ _ => .non
  · cases beq_iff_eq.mp h; exact e_c pe_bl fun _ _ => .bl _
  · cases beq_iff_eq.mp h; exact e_c pe_int fun _ _ => .int _
  · cases beq_iff_eq.mp h; exact e_c pe_str fun _ _ => .str _
  · cases h
theorem sTy (c : Ok X Z W P cl k g) {t : Ty} {e : Expr} (h : tyS g t e = true) : t ≠ .non ∧ noStar e = true ∧ PE X e (tE Z W (tyE t)) := by
  unfold tyS at h
  split at h
  · rename_i x p
    obtain ⟨h, h3⟩ := and2 h
    obtain ⟨h1, h2⟩ := and2 h
    have ht : t ≠ .non := by simpa using h3
    cases beq_iff_eq.mp h2
    obtain ⟨q1, q2, q3⟩ := c.gl (beq_iff_eq.mp h1)
    obtain ⟨b1, b2, b3⟩ := boot_ty t ht
    exact ⟨ht, rfl, e_ty q1 (c.frG _ q3) b1 b2 b3⟩
  · cases h
theorem sTys (c : Ok X Z W P cl k g) : ∀ {ts : List Ty} {l : List Expr}, tySs g ts l = true → (∀ t ∈ ts, t ≠ .non) ∧ PA X l (tLs Z W (tyL ts))
  | [], [], _ => ⟨fun _ h => (by cases h), a_nil⟩
  | t :: ts, e :: es, h => by
    obtain ⟨h1, h2⟩ := and2 (show (tyS g t e && tySs g ts es) = true from h)
    obtain ⟨a1, a2, a3⟩ := sTy c h1
    obtain ⟨b1, b2⟩ := sTys c h2
    refine ⟨fun u hu => ?_, a_cons a2 a3 b2⟩
    cases hu with
    | head => exact a1
    | tail _ hu => exact b1 u hu
  | [], _ :: _, h => by cases h
  | _ :: _, [], h => by cases h
theorem star1 {a b : Expr} (h : allNoStar [a, b] = true) : noStar a = true ∧ noStar b = true := by
  obtain ⟨h1, h2⟩ := and2 (show (noStar a && (noStar b && true)) = true from h)
  exact ⟨h1, (and2 h2).1⟩
theorem isTup_of {t : Expr} (h : isTup t = true) : ∃ l k p, t = .Tuple l k p := by
  cases t <;> first | exact ⟨_, _, _, rfl⟩ | cases h
end
mutual
theorem sE {X : Cx} {Z : Zp} {W : WX} {P : Pg} {cl : Cl} {k : Nat} {g : G} (c : Ok X Z W P cl k g) : ∀ (r : E) {e : Expr}, ckE g r e = true → PE X e (tE Z W (evE P cl r))
  | .stk, _, _ => e_stk
  | .c d, e, h => e_const h
  | .v i, e, h => by
    unfold ckE at h
    split at h
    · obtain ⟨h, h4⟩ := and2 h
      obtain ⟨h, h3⟩ := and2 h
      obtain ⟨h1, h2⟩ := and2 h
      refine e_v (pe_var (by rw [c.N]; exact beq_iff_eq.mp h1) ?_ (by simpa using h3) (by simpa using h4))
      unfold Vis
      rw [c.sc]
      unfold G.vis at h2
      split at h2 <;> first | exact .inl (by assumption) | exact .inr (.inl (by assumption)) | exact .inr (.inr (by assumption)) | cases h2
    · cases h
  | .g i, e, h => by
    unfold ckE at h
    split at h
    · obtain ⟨q1, q2, q3⟩ := c.gl (beq_iff_eq.mp h)
      obtain ⟨u, v, h1, h2, h3⟩ := c.vaG _ _ q3
      exact e_c (pe_glob q1 h1 h2 q2) h3
    · cases h
  | .tup es, e, h => by
    unfold ckE at h
    split at h
    · exact e_tup (sEs c es h)
    · cases h
  | .pur f, e, h => e_pur (sF c f h)
  | .new f, e, h => e_new (sF c f h)
  | .alt a b, e, h => by
    unfold ckE at h
    exact e_alt (sE c a (and2 h).1) (sE c b (and2 h).2)
  | .bin op a b, e, h => by
    unfold ckE at h
    split at h
    · obtain ⟨h, h3⟩ := and2 h
      obtain ⟨h1, h2⟩ := and2 h
      cases beq_iff_eq.mp h1
      exact e_bin c.hK (sE c a h2) (sE c b h3)
    · cases h
  | .neg a, e, h => by
    unfold ckE at h
    split at h
    · exact e_neg (sE c a h)
    · cases h
  | .tst t, e, h => by
    unfold ckE at h
    split at h
    · rename_i op a b x o y p
      obtain ⟨h, h4⟩ := and2 h
      obtain ⟨h, h3⟩ := and2 h
      obtain ⟨h1, h2⟩ := and2 h
      cases beq_iff_eq.mp h1
      exact e_cmp c.hK c.un h2 (sE c a h3) (sE c b h4)
    · rename_i o o2 a b d x p p2 y z q
      obtain ⟨h, h6⟩ := and2 h
      obtain ⟨h, h5⟩ := and2 h
      obtain ⟨h, h4⟩ := and2 h
      obtain ⟨h, h3⟩ := and2 h
      obtain ⟨h1, h2⟩ := and2 h
      cases beq_iff_eq.mp h1
      cases beq_iff_eq.mp h2
      exact e_chn c.hK c.un h3 (sE c a h4) (sE c b h5) (sE c d h6)
    · cases h
  | .and a b, e, h => by
    unfold ckE at h
    split at h
    · obtain ⟨h1, h2⟩ := and2 h
      split at h2
      · exact v_and c.hK (sE c a h1) (pe_one (sE c b h2))
      · exact v_and c.hK (sE c a h1) (sE c b h2)
    · cases h
  | .or a b, e, h => by
    unfold ckE at h
    split at h
    · obtain ⟨h1, h2⟩ := and2 h
      split at h2
      · exact v_or c.hK (sE c a h1) (pe_one (sE c b h2))
      · exact v_or c.hK (sE c a h1) (sE c b h2)
    · cases h
  | .ite t a b, e, h => by
    unfold ckE at h
    split at h
    · obtain ⟨h, h3⟩ := and2 h
      obtain ⟨h1, h2⟩ := and2 h
      exact e_ite (sT c t h1) (sE c a h2) (sE c b h3)
    · cases h
  | .ix a b, e, h => by
    unfold ckE at h
    split at h
    · obtain ⟨h, h3⟩ := and2 h
      obtain ⟨h1, h2⟩ := and2 h
      exact e_ix c.hK h1 (sE c a h2) (sE c b h3)
    · cases h
  | .sl a lo hi, e, h => by
    unfold ckE at h
    split at h
    · obtain ⟨h, h3⟩ := and2 h
      obtain ⟨h1, h2⟩ := and2 h
      exact e_sl c.hK (sE c a h1) (sO c lo h2) (sO c hi h3)
    · cases h
  | .blt b es, e, h => by
    unfold ckE at h
    split at h
    · obtain ⟨h, h4⟩ := and2 h
      obtain ⟨h, h3⟩ := and2 h
      obtain ⟨h1, h2⟩ := and2 h
      cases beq_iff_eq.mp h2
      obtain ⟨q1, q2, q3⟩ := c.gl (beq_iff_eq.mp h1)
      exact e_blt c.hK c.calm b q1 (c.frG _ q3) (boot_bf b) (bf_name b).1 (bf_name b).2 h3 (sEs c es h4)
    · cases h
  | .call i es, e, h => by
    unfold ckE at h
    split at h
    · rename_i x p l q
      obtain ⟨h, h3⟩ := and2 h
      obtain ⟨h1, h2⟩ := and2 h
      obtain ⟨q1, q2, q3⟩ := c.gl (beq_iff_eq.mp h1)
      obtain ⟨f, fd, ps, f1, f2, f3, f4⟩ := c.fnG _ _ q3
      cases l with
      | nil =>
        have he : es = .nil := by
          cases es with
          | nil => rfl
          | cons _ _ => cases h3
        subst he
        exact e_call0 f4 (c.room.mono (Nat.le_succ k)) q1 f1 f2 f3 c.tk q2
      | cons y l => exact e_call f4 (c.room.mono (Nat.le_succ k)) q1 f1 f2 f3 c.tk q2 h2 (sEs c es h3)
    · cases h
  | .mth mn o es, e, h => by
    unfold ckE at h
    split at h
    · rename_i x m ap l p
      obtain ⟨h, h7⟩ := and2 h
      obtain ⟨h, h6⟩ := and2 h
      obtain ⟨h, h5⟩ := and2 h
      obtain ⟨h, h4⟩ := and2 h
      obtain ⟨h, h3⟩ := and2 h
      obtain ⟨h1, h2⟩ := and2 h
      cases beq_iff_eq.mp h1
      refine e_mth (fun c' i e => c.mtG c' _ i e) (c.room.mono (Nat.le_succ k)) c.tk h2 h3 h4 (of_decide_eq_true h5) (fun e => ?_) (sE c o h6) (sEs c es h7)
      subst e
      cases es with
      | nil => rfl
      | cons _ _ => cases h7
    · cases h
  | .att f o, e, h => by
    unfold ckE at h
    split at h
    · obtain ⟨h, h3⟩ := and2 h
      obtain ⟨h1, h2⟩ := and2 h
      cases beq_iff_eq.mp h1
      exact e_att (fun c' e => c.atG c' _ e) h2 (sE c o h3)
    · cases h
  | .mk cc es, e, h => by
    unfold ckE at h
    split at h
    · rename_i x p l q
      obtain ⟨h, h3⟩ := and2 h
      obtain ⟨h1, h2⟩ := and2 h
      obtain ⟨q1, q2, q3⟩ := c.gl (beq_iff_eq.mp h1)
      have hm := c.clG _ _ q3
      show PE X _ (tE Z W (match P.T.ini cc with
        | some i => mkE cl cc i (evEs P cl es)
        | none => fun _ _ => .stk))
      cases ei : P.T.ini cc with
      | none => exact e_stk
      | some i =>
        obtain ⟨f, fd, ps, f1, f2, f3⟩ := c.inG _ _ ei
        cases l with
        | nil =>
          have he : es = .nil := by
            cases es with
            | nil => rfl
            | cons _ _ => cases h3
          subst he
          exact e_mk0 f1 f2 c.room q1 hm f3 c.tk q2
        | cons y l => exact e_mk f1 f2 c.room q1 hm f3 c.tk q2 h2 (sEs c es h3)
    · cases h
  | .bm b o es, e, h => by
    unfold ckE at h
    split at h
    · rename_i x m ap l p
      obtain ⟨h, h7⟩ := and2 h
      obtain ⟨h, h6⟩ := and2 h
      obtain ⟨h, h5⟩ := and2 h
      obtain ⟨h, h4⟩ := and2 h
      obtain ⟨h, h3⟩ := and2 h
      obtain ⟨h1, h2⟩ := and2 h
      cases l with
      | nil =>
        have he : es = .nil := by
          cases es with
          | nil => rfl
          | cons _ _ => cases h7
        subst he
        exact e_bm0 c.hK b (beq_iff_eq.mp h1) h2 h4 (sE c o h6)
      | cons y l => exact e_bm c.hK b (beq_iff_eq.mp h1) h2 h3 h4 (of_decide_eq_true h5) (sE c o h6) (sEs c es h7)
    · cases h
  | .isi a ts, e, h => by
    unfold ckE at h
    split at h
    · obtain ⟨h, h6⟩ := and2 h
      obtain ⟨h, h5⟩ := and2 h
      obtain ⟨h, h4⟩ := and2 h
      obtain ⟨h, h3⟩ := and2 h
      obtain ⟨h1, h2⟩ := and2 h
      cases beq_iff_eq.mp h2
      obtain ⟨q1, q2, q3⟩ := c.gl (beq_iff_eq.mp h1)
      obtain ⟨t1, t2⟩ := sTys c h6
      exact e_isiT c.hK t1 (of_decide_eq_true h4) q1 (c.frG _ q3) h3 (sE c a h5) t2
    · rename_i x p y z q hne
      obtain ⟨h, h5⟩ := and2 h
      obtain ⟨h, h4⟩ := and2 h
      obtain ⟨h, h3⟩ := and2 h
      obtain ⟨h1, h2⟩ := and2 h
      cases beq_iff_eq.mp h2
      obtain ⟨q1, q2, q3⟩ := c.gl (beq_iff_eq.mp h1)
      cases ts with
      | nil => cases h5
      | cons t ts =>
        obtain ⟨u1, u2⟩ := and2 (show (tyS g t z && tySs g ts []) = true from h5)
        cases ts with
        | nil =>
          obtain ⟨t1, t2, t3⟩ := sTy c u1
          exact e_isi c.hK t1 q1 (c.frG _ q3) h3 (sE c a h4) t3
        | cons _ _ => cases u2
    · cases h
  | .notv a, e, h => by
    unfold ckE at h
    split at h
    · exact e_notv c.hK (sE c a h)
    · cases h
  | .rpr a, e, h => by
    unfold ckE at h
    split at h
    · obtain ⟨h, h5⟩ := and2 h
      obtain ⟨h, h4⟩ := and2 h
      obtain ⟨h, h3⟩ := and2 h
      obtain ⟨h1, h2⟩ := and2 h
      cases beq_iff_eq.mp h3
      obtain ⟨q1, q2, q3⟩ := c.gl (beq_iff_eq.mp h2)
      exact e_repr c.hK (c.gd h1) c.un q1 (c.frG _ q3) h4 (sE c a h5)
    · cases h
theorem sEs {X : Cx} {Z : Zp} {W : WX} {P : Pg} {cl : Cl} {k : Nat} {g : G} (c : Ok X Z W P cl k g) : ∀ (r : Es) {l : List Expr}, ckEs g r l = true → PA X l (tLs Z W (evEs P cl r))
  | .nil, [], _ => a_nil
  | .nil, _ :: _, h => by cases h
  | .cons _ _, [], h => by cases h
  | .cons r rs, x :: l, h => by
    unfold ckEs at h
    obtain ⟨h, h3⟩ := and2 h
    obtain ⟨h1, h2⟩ := and2 h
    exact a_cons h1 (sE c r h2) (sEs c rs h3)
theorem sT {X : Cx} {Z : Zp} {W : WX} {P : Pg} {cl : Cl} {k : Nat} {g : G} (c : Ok X Z W P cl k g) : ∀ (r : T) {e : Expr}, ckT g r e = true → PT X e (tTt Z W (evT P cl r))
  | .e a, e, h => by
    unfold ckT at h
    obtain ⟨h1, h2⟩ := and2 h
    exact t_e c.hK h1 (sE c a h2)
  | .cmp op a b, e, h => by
    unfold ckT at h
    split at h
    · obtain ⟨h, h4⟩ := and2 h
      obtain ⟨h, h3⟩ := and2 h
      obtain ⟨h1, h2⟩ := and2 h
      cases beq_iff_eq.mp h1
      exact t_cmp c.hK c.un h2 (sE c a h3) (sE c b h4)
    · cases h
  | .chn o o2 a b d, e, h => by
    unfold ckT at h
    split at h
    · obtain ⟨h, h6⟩ := and2 h
      obtain ⟨h, h5⟩ := and2 h
      obtain ⟨h, h4⟩ := and2 h
      obtain ⟨h, h3⟩ := and2 h
      obtain ⟨h1, h2⟩ := and2 h
      cases beq_iff_eq.mp h1
      cases beq_iff_eq.mp h2
      exact t_chn c.hK c.un h3 (sE c a h4) (sE c b h5) (sE c d h6)
    · cases h
  | .not t, e, h => by
    unfold ckT at h
    split at h
    · exact t_not (sT c t h)
    · cases h
  | .and a b, e, h => by
    unfold ckT at h
    split at h
    · obtain ⟨h1, h2⟩ := and2 h
      split at h2
      · exact (w_and (sT c a h1) (pw_and1 (sT c b h2))).pt
      · exact (w_and (sT c a h1) (pw_of_bool (sT c b h2))).pt
    · cases h
  | .or a b, e, h => by
    unfold ckT at h
    split at h
    · obtain ⟨h1, h2⟩ := and2 h
      split at h2
      · exact (w_or (sT c a h1) (pw_or1 (sT c b h2))).pt
      · exact (w_or (sT c a h1) (pw_of_bool (sT c b h2))).pt
    · cases h
theorem sF {X : Cx} {Z : Zp} {W : WX} {P : Pg} {cl : Cl} {k : Nat} {g : G} (c : Ok X Z W P cl k g) : ∀ (r : F) {e : Expr}, ckF g r e = true → PE X e (tFr Z W (evF P cl r))
  | .lst es, e, h => by
    unfold ckF at h
    split at h
    · exact f_lst (sEs c es h)
    · cases h
  | .lof a, e, h => by
    unfold ckF at h
    split at h
    · obtain ⟨h, h4⟩ := and2 h
      obtain ⟨h, h3⟩ := and2 h
      obtain ⟨h1, h2⟩ := and2 h
      obtain ⟨q1, q2, q3⟩ := c.gl (beq_iff_eq.mp h1)
      exact f_lof c.hK q1 (c.frG _ q3) (beq_iff_eq.mp h2) h3 (sE c a h4)
    · cases h
  | .cat a b, e, h => by
    unfold ckF at h
    split at h
    · exact f_cat (sE c a (and2 h).1) (sE c b (and2 h).2)
    · cases h
  | .rep a b, e, h => by
    unfold ckF at h
    split at h
    · exact f_rep (sE c a (and2 h).1) (sE c b (and2 h).2)
    · cases h
  | .sli a lo hi, e, h => by
    unfold ckF at h
    split at h
    · obtain ⟨h, h3⟩ := and2 h
      obtain ⟨h1, h2⟩ := and2 h
      exact f_sli c.hK (sE c a h1) (sO c lo h2) (sO c hi h3)
    · cases h
  | .spl o es, e, h => by
    unfold ckF at h
    split at h
    · obtain ⟨h, h7⟩ := and2 h
      obtain ⟨h, h6⟩ := and2 h
      obtain ⟨h, h5⟩ := and2 h
      obtain ⟨h, h4⟩ := and2 h
      obtain ⟨h, h3⟩ := and2 h
      obtain ⟨h1, h2⟩ := and2 h
      exact f_spl (beq_iff_eq.mp h1) h2 h3 h4 (of_decide_eq_true h5) (sE c o h6) (sEs c es h7)
    · cases h
  | .srt a, e, h => by
    unfold ckF at h
    split at h
    · obtain ⟨h, h4⟩ := and2 h
      obtain ⟨h, h3⟩ := and2 h
      obtain ⟨h1, h2⟩ := and2 h
      obtain ⟨q1, q2, q3⟩ := c.gl (beq_iff_eq.mp h1)
      exact f_srt q1 (c.frG _ q3) (beq_iff_eq.mp h2) h3 (sE c a h4)
    · cases h
  | .comp own it tg cn el, e, h => by
    unfold ckF at h
    split at h
    · rename_i x t i ifs scope p
      obtain ⟨h, h8⟩ := and2 h
      obtain ⟨h, h7⟩ := and2 h
      obtain ⟨h, h6⟩ := and2 h
      obtain ⟨h, h5⟩ := and2 h
      obtain ⟨h, h4⟩ := and2 h
      obtain ⟨h, h3⟩ := and2 h
      obtain ⟨h1, h2⟩ := and2 h
      cases beq_iff_eq.mp h1
      have h3' : ∀ i ∈ tg.slots, i ∈ (ownOf g.N scope).map (·.2) := fun i hi => by simpa using (List.all_eq_true.mp h3) i hi
      exact f_comp c.hK c.calm c.nd (sI c it h5) (by rw [c.N, c.sc]; exact blkOk_by h2) h3'
        (fun s H C cls fp => pg_tg (c.blk s H scope C cls fp).stOk c.calm c.nd c.hK (by have e : (X.blk s H scope (compEnvC scope cls C X.env) fp).N = g.N := c.N; rw [e]; exact h6))
        (fun s H C cls fp => sT2 (c.blk s H scope C cls fp) cn h7) (fun s H C cls fp => sE (c.blk s H scope C cls fp) el h8) h4
    · cases h
theorem sI {X : Cx} {Z : Zp} {W : WX} {P : Pg} {cl : Cl} {k : Nat} {g : G} (c : Ok X Z W P cl k g) : ∀ (r : It) {t e : Expr}, ckI g r t e = true → PI X t e (tIt Z W (evI P cl r))
  | .seq a, t, e, h => i_seq c.hK (sE c a h)
  | .str a, t, e, h => i_str (sE c a h)
  | .rng1 a, t, e, h => by
    unfold ckI at h
    split at h
    · obtain ⟨h, h4⟩ := and2 h
      obtain ⟨h, h3⟩ := and2 h
      obtain ⟨h1, h2⟩ := and2 h
      cases beq_iff_eq.mp h2
      obtain ⟨q1, q2, q3⟩ := c.gl (beq_iff_eq.mp h1)
      exact i_rng1 q1 (c.frG _ q3) h3 (a_cons h3 (sE c a h4) a_nil)
    · cases h
  | .rng2 a b, t, e, h => by
    unfold ckI at h
    split at h
    · obtain ⟨h, h5⟩ := and2 h
      obtain ⟨h, h4⟩ := and2 h
      obtain ⟨h, h3⟩ := and2 h
      obtain ⟨h1, h2⟩ := and2 h
      cases beq_iff_eq.mp h2
      obtain ⟨q1, q2, q3⟩ := c.gl (beq_iff_eq.mp h1)
      exact i_rng2 q1 (c.frG _ q3) h3 (a_cons (star1 h3).1 (sE c a h4) (a_cons (star1 h3).2 (sE c b h5) a_nil))
    · cases h
  | .enu a, t, e, h => by
    unfold ckI at h
    split at h
    · obtain ⟨h, h4⟩ := and2 h
      obtain ⟨h, h3⟩ := and2 h
      obtain ⟨h, h2⟩ := and2 h
      obtain ⟨h0, h1⟩ := and2 h
      cases beq_iff_eq.mp h2
      obtain ⟨_, _, _, rfl⟩ := isTup_of h0
      obtain ⟨q1, q2, q3⟩ := c.gl (beq_iff_eq.mp h1)
      exact i_enu c.hK q1 (c.frG _ q3) h3 (a_cons h3 (sE c a h4) a_nil)
    · cases h
  | .zip a b, t, e, h => by
    unfold ckI at h
    split at h
    · obtain ⟨h, h5⟩ := and2 h
      obtain ⟨h, h4⟩ := and2 h
      obtain ⟨h, h3⟩ := and2 h
      obtain ⟨h, h2⟩ := and2 h
      obtain ⟨h0, h1⟩ := and2 h
      cases beq_iff_eq.mp h2
      obtain ⟨_, _, _, rfl⟩ := isTup_of h0
      obtain ⟨q1, q2, q3⟩ := c.gl (beq_iff_eq.mp h1)
      exact i_zip c.hK q1 (c.frG _ q3) h3 (a_cons (star1 h3).1 (sE c a h4) (a_cons (star1 h3).2 (sE c b h5) a_nil))
    · cases h
  | .alt a b, t, e, h => by
    unfold ckI at h
    exact i_alt (sI c a (and2 h).1) (sI c b (and2 h).2)
theorem sO {X : Cx} {Z : Zp} {W : WX} {P : Pg} {cl : Cl} {k : Nat} {g : G} (c : Ok X Z W P cl k g) : ∀ (r : O2) {e : Option Expr}, ckO g r e = true → PO X e (tOi Z W (evO P cl r))
  | .no, none, _ => o_no
  | .so a, some e, h => o_so (sE c a h)
  | .no, some _, h => by cases h
  | .so _, none, h => by cases h
theorem sT2 {X : Cx} {Z : Zp} {W : WX} {P : Pg} {cl : Cl} {k : Nat} {g : G} (c : Ok X Z W P cl k g) : ∀ (r : T2) {l : List Expr}, ckT2 g r l = true → PTs X l (tTt Z W (evT2 P cl r))
  | .no, [], _ => ts_nil
  | .so t, [e], h => ts_one (sT c t h)
  | .no, _ :: _, h => by cases h
  | .so _, [], h => by cases h
  | .so _, _ :: _ :: _, h => by cases h
end
end Ev
set_option maxRecDepth 100000
set_option maxHeartbeats 2000000
namespace Ev
open PySem PySem.Spec L2
open PyProof.Rows hiding St
/-! ### statements as data -/
mutual
inductive S where
  | stk | pass | brk | cont | ex (e : E) | ret (e : E) | retN | ife (t : T) (a b : Ss) | set (i : Nat) (e : E) | setP (i : Nat) (f : F) | setN (i : Nat) (f : F) | asg (t : Tgt) (e : E)
  | par (is : List Nat) (es : Es) | fld (f : Str) (o e : E) | aug (i : Nat) (e : E) | augI (o i e : E) | augF (f : Str) (o e : E) | for (it : It) (t : Tgt) (b : Ss) | whl (t : T) (b : Ss)
inductive Ss where
  | nil | cons (s : S) (ss : Ss)
inductive Tgt where
  | tg (t : Tg) | tup (ts : Tgts) | ix (o i : E)
inductive Tgts where
  | nil | cons (t : Tgt) (ts : Tgts)
end
def nameT (i : Nat) : TF := fun d s h => .ok (s.set i (some d)) h
def tgT (t : Tg) : TF := fun d s h => opt (bindT t d s) h
def Tgts.len : Tgts → Nat
  | .nil => 0
  | .cons _ ts => ts.len + 1
mutual
noncomputable def evTg (P : Pg) (cl : Cl) : Tgt → TF
  | .tg t => tgT t
  | .tup ts => tupT ts.len (evTgs P cl ts)
  | .ix o i => ixT (evE P cl o) (evE P cl i)
noncomputable def evTgs (P : Pg) (cl : Cl) : Tgts → TFs
  | .nil => nilT
  | .cons t ts => consT (evTg P cl t) (evTgs P cl ts)
end
mutual
noncomputable def evS (P : Pg) (cl : Cl) : S → SF
  | .stk => fun _ _ => .stk
  | .pass => nilS
  | .brk => fun s h => .bk s h
  | .cont => fun s h => .ct s h
  | .ex e => exprS (evE P cl e)
  | .ret e => retS (evE P cl e)
  | .retN => fun _ h => .rt .non h
  | .ife t a b => ifS (evT P cl t) (evSs P cl a) (evSs P cl b)
  | .set i e => asgS (evE P cl e) (nameT i)
  | .setP i f => asgS (purE (evF P cl f)) (nameT i)
  | .setN i f => asgS (newE (evF P cl f)) (nameT i)
  | .asg t e => asgS (evE P cl e) (evTg P cl t)
  | .par is es => parS is (evEs P cl es)
  | .fld f o e => fldS P.T f (evE P cl o) (evE P cl e)
  | .aug i e => augS i (evE P cl e)
  | .augI o i e => augIx (evE P cl o) (evE P cl i) (evE P cl e)
  | .augF f o e => augAt P.T f (evE P cl o) (evE P cl e)
  | .for it t b => forS (evI P cl it) (evTg P cl t) (evSs P cl b)
  | .whl t b => whileS (evT P cl t) (evSs P cl b)
noncomputable def evSs (P : Pg) (cl : Cl) : Ss → SF
  | .nil => nilS
  | .cons s ss => seqS (evS P cl s) (evSs P cl ss)
end
/-! ### the check -/
def lkB (g : G) : Str → Bool := fun x => g.sc.names.lookup x == some .local
def lcB (g : G) (i : Nat) (e : Expr) : Option Pos := match e with
  | .Name x p => if g.N[i]? == some x && g.sc.names.lookup x == some .local then some p else none
  | _ => none
mutual
def ckTg (g : G) : Tgt → Expr → Bool
  | .tg t, e => tgOk g.N g.st t e
  | .tup ts, e => match e with
    | .Tuple l _ _ => ckTgs g ts l
    | _ => false
  | .ix o i, e => match e with
    | .Subscript x y _ => noSlice y && ckE g o x && ckE g i y
    | _ => false
def ckTgs (g : G) : Tgts → List Expr → Bool
  | .nil, [] => true
  | .cons t ts, e :: l => noStar e && ckTg g t e && ckTgs g ts l
  | _, _ => false
end
def parB (g : G) (is : List Nat) (es : Es) (t v : Expr) : Bool := match t, v with
  | .Tuple ts _ _, .Tuple vs _ _ => ckEs g es vs && allNoStar vs && !swN (lkB g) ts vs && !vs.all (constantsAlone 8) && (match is, ts, vs with
    | [i, j], [x, y], [_, _] => (match lcB g i x, lcB g j y with
      | some p, some q => p.line == q.line && i != j
      | _, _ => false)
    | [i, j, l], [x, y, z], [_, _, _] => (match lcB g i x, lcB g j y, lcB g l z with
      | some p, some q, some r => p.line == q.line && p.line == r.line && i != j && i != l && j != l
      | _, _, _ => false)
    | _, _, _ => false)
  | _, _ => false
def setCB (g : G) (i : Nat) (f : F) (t v : Expr) : Bool := match t, v with
  | .Name y py, .ListComp x [⟨tt, it, ifs, 0⟩] scope pos => g.N[i]? == some y && g.sc.names.lookup y == some .local && py.line == pos.line &&
      !(scope.names.any fun z => z.1 == y && (z.2 == .local || z.2 == .cell)) && (match f with | .comp .. => true | _ => false) && ckF g f (.ListComp x [⟨tt, it, ifs, 0⟩] scope pos)
  | _, _ => false
mutual
def ckS (g : G) : S → Stmt → Bool
  | .stk, _ => true
  | .pass, s => match s with
    | .Pass _ => true
    | _ => false
  | .brk, s => match s with
    | .Break _ => true
    | _ => false
  | .cont, s => match s with
    | .Continue _ => true
    | _ => false
  | .ex e, s => match s with
    | .Expr x _ => noComp x && ckE g e x
    | _ => false
  | .ret e, s => match s with
    | .Return (some x) _ => ckE g e x
    | _ => false
  | .retN, s => match s with
    | .Return none _ => true
    | _ => false
  | .ife t a b, s => match s with
    | .If c x y _ => ckT g t c && ckSs g a x && ckSs g b y
    | _ => false
  | .set i e, s => match s with
    | .Assign [.Name x _] v _ => g.N[i]? == some x && g.st x && noComp v && ckE g e v
    | _ => false
  | .setP i f, s => match s with
    | .Assign [t] v _ => setCB g i f t v
    | _ => false
  | .setN i f, s => match s with
    | .Assign [t] v _ => setCB g i f t v
    | _ => false
  | .asg t e, s => match s with
    | .Assign [x] v _ => (noComp v || !isName x) && swNone (lkB g) x v && noStar x && ckTg g t x && ckE g e v
    | _ => false
  | .par is es, s => match s with
    | .Assign [x] v _ => parB g is es x v
    | _ => false
  | .fld f o e, s => match s with
    | .Assign [.Attribute x m _] v _ => m == f && ckE g o x && ckE g e v
    | _ => false
  | .aug i e, s => match s with
    | .AugAssign (.Name x _) .Add v _ => g.N[i]? == some x && g.st x && ckE g e v
    | _ => false
  | .augI o i e, s => match s with
    | .AugAssign (.Subscript x y _) .Add v _ => noSlice y && ckE g o x && ckE g i y && ckE g e v
    | _ => false
  | .augF f o e, s => match s with
    | .AugAssign (.Attribute x m _) .Add v _ => m == f && ckE g o x && ckE g e v
    | _ => false
  | .for it t b, s => match s with
    | .For x i l [] _ => noSet i && ckI g it x i && ckTg g t x && ckSs g b l
    | _ => false
  | .whl t b, s => match s with
    | .While c l [] _ => ckT g t c && ckSs g b l
    | _ => false
def ckSs (g : G) : Ss → List Stmt → Bool
  | .nil, [] => true
  | .cons s ss, x :: l => ckS g s x && ckSs g ss l
  | _, _ => false
end
section
variable {X : Cx} {Z : Zp} {W : WX} {P : Pg} {cl : Cl} {k : Nat} {g : G}
theorem swNone_name {lk : Str → Bool} {x : Str} {p : Pos} {v : Expr} : swNone lk (.Name x p) v = true := by cases v <;> rfl
theorem s_stk {st : Stmt} : PS X st (tSt Z W fun _ _ => .stk) := ⟨fun _ _ _ _ _ _ ⟨_, _, _, _, _, p⟩ => p.elim⟩
theorem lk_of (c : Ok X Z W P cl k g) {env : Env} (h : env.scope = X.env.scope) : lkOf env = lkB g := by
  funext x
  show (env.scope.names.lookup x == some .local) = (g.sc.names.lookup x == some .local)
  rw [h, c.sc]
theorem lc_of (c : Ok X Z W P cl k g) {i : Nat} {e : Expr} {p : Pos} (h : lcB g i e = some p) : ∃ x, e = .Name x p ∧ X.N[i]? = some x ∧ X.env.scope.names.lookup x = some .local := by
  unfold lcB at h
  split at h
  · split at h
    · rename_i h1
      cases h
      obtain ⟨h1, h2⟩ := and2 h1
      exact ⟨_, rfl, by rw [c.N]; exact beq_iff_eq.mp h1, by rw [c.sc]; exact beq_iff_eq.mp h2⟩
    · cases h
  · cases h
theorem Ok.W0 (c : Ok X Z W P cl k g) : Ok X Z Ev.W0 P cl k g := { c with tk := takesW0 }
theorem Tgts.len_of {g : G} : ∀ {ts : Tgts} {l : List Expr}, ckTgs g ts l = true → ts.len = l.length ∧ allNoStar l = true
  | .nil, [], _ => ⟨rfl, rfl⟩
  | .cons t ts, e :: l, h => by
    unfold ckTgs at h
    obtain ⟨h, h3⟩ := and2 h
    obtain ⟨h1, h2⟩ := and2 h
    obtain ⟨q1, q2⟩ := Tgts.len_of h3
    refine ⟨by show ts.len + 1 = l.length + 1; rw [q1], ?_⟩
    show (noStar e && allNoStar l) = true
    rw [h1, q2]; rfl
  | .nil, _ :: _, h => by cases h
  | .cons _ _, [], h => by cases h
theorem sPar (c : Ok X Z W P cl k g) {is : List Nat} {es : Es} {t v : Expr} {pos : Pos} (h : parB g is es t v = true) : PS X (.Assign [t] v pos) (tSt Z W (parS is (evEs P cl es))) := by
  unfold parB at h
  split at h
  · rename_i ts kt pt vs k2 p2
    obtain ⟨h, h5⟩ := and2 h
    obtain ⟨h, h4⟩ := and2 h
    obtain ⟨h, h3⟩ := and2 h
    obtain ⟨h1, h2⟩ := and2 h
    have h3' : swN (lkB g) ts vs = false := by simpa using h3
    have h4' : vs.all (constantsAlone 8) = false := by simpa using h4
    split at h5
    · split at h5
      · rename_i p q e1 e2
        obtain ⟨x, rfl, n1, l1⟩ := lc_of c e1
        obtain ⟨y, rfl, n2, l2⟩ := lc_of c e2
        obtain ⟨h5, h6⟩ := and2 h5
        refine s_par c.calm c.nd n1 n2 (by simpa using h6) l1 l2 (sEs c es h1) (fun env he => ?_) (beq_iff_eq.mp h5) h2 h4'
        rw [lk_of c he]; exact h3'
      · cases h5
    · split at h5
      · rename_i p q r e1 e2 e3
        obtain ⟨x, rfl, n1, l1⟩ := lc_of c e1
        obtain ⟨y, rfl, n2, l2⟩ := lc_of c e2
        obtain ⟨z, rfl, n3, l3⟩ := lc_of c e3
        obtain ⟨h5, h9⟩ := and2 h5
        obtain ⟨h5, h8⟩ := and2 h5
        obtain ⟨h5, h7⟩ := and2 h5
        obtain ⟨h5, h6⟩ := and2 h5
        refine s_par3 c.calm c.nd n1 n2 n3 (by simpa using h7) (by simpa using h8) (by simpa using h9) l1 l2 l3 (sEs c es h1) (fun env he => ?_) (beq_iff_eq.mp h5) (beq_iff_eq.mp h6) h2 h4'
        rw [lk_of c he]; exact h3'
      · cases h5
    · cases h5
  · cases h
theorem sSetC (c : Ok X Z W P cl k g) {i : Nat} {f : F} {t v : Expr} {pos : Pos} (h : setCB g i f t v = true) {tr : (Sl → Hh → R O) → EF} (htr : ∀ fr σ H Q, tE Z W (tr fr) σ H Q → tFr Z W fr σ H Q) :
    PS X (.Assign [t] v pos) (tSt Z W (asgS (tr (evF P cl f)) (nameT i))) := by
  unfold setCB at h
  split at h
  · rename_i y py x tt it ifs scope p
    obtain ⟨h, h6⟩ := and2 h
    obtain ⟨h, h5⟩ := and2 h
    obtain ⟨h, h4⟩ := and2 h
    obtain ⟨h, h3⟩ := and2 h
    obtain ⟨h1, h2⟩ := and2 h
    cases f with
    | comp own it' tg cn el =>
      unfold ckF at h6
      simp only at h6
      obtain ⟨h, k8⟩ := and2 h6
      obtain ⟨h, k7⟩ := and2 h
      obtain ⟨h, k6⟩ := and2 h
      obtain ⟨h, k5⟩ := and2 h
      obtain ⟨h, k4⟩ := and2 h
      obtain ⟨h, k3⟩ := and2 h
      obtain ⟨k1, k2⟩ := and2 h
      cases beq_iff_eq.mp k1
      have k3' : ∀ i ∈ tg.slots, i ∈ (ownOf g.N scope).map (·.2) := fun i hi => by simpa using (List.all_eq_true.mp k3) i hi
      exact s_setC c.hK c.calm c.nd (by rw [c.N]; exact beq_iff_eq.mp h1) (by rw [c.sc]; exact beq_iff_eq.mp h2) (beq_iff_eq.mp h3) (by simpa using h4) (sI c it' k5) (by rw [c.N, c.sc]; exact blkOk_by k2) k3'
        (fun s H C cls fp => pg_tg (c.blk s H scope C cls fp).stOk c.calm c.nd c.hK (by have e : (X.blk s H scope (compEnvC scope cls C X.env) fp).N = g.N := c.N; rw [e]; exact k6))
        (fun s H C cls fp => sT2 (c.blk s H scope C cls fp) cn k7) (fun s H C cls fp => sE (c.blk s H scope C cls fp) el k8) k4 (fun σ H Q q => htr _ σ H Q q)
    | _ => cases h5
  · cases h
end
mutual
theorem sTg {X : Cx} {Z : Zp} {W : WX} {P : Pg} {cl : Cl} {k : Nat} {g : G} (c : Ok X Z W P cl k g) : ∀ (r : Tgt) {e : Expr}, ckTg g r e = true → PG X e (tGt Z (evTg P cl r))
  | .tg t, e, h => g_tg (pg_tg c.stOk c.calm c.nd c.hK (by rw [c.N]; exact h))
  | .tup ts, e, h => by
    unfold ckTg at h
    split at h
    · obtain ⟨q1, q2⟩ := Tgts.len_of h
      show PG X _ (tGt Z (tupT ts.len (evTgs P cl ts)))
      rw [q1]
      exact g_tup c.hK c.calm q2 (sTgs c ts h)
    · cases h
  | .ix o i, e, h => by
    unfold ckTg at h
    split at h
    · obtain ⟨h, h3⟩ := and2 h
      obtain ⟨h1, h2⟩ := and2 h
      exact g_ix h1 (sE (W := W0) (c.W0) o h2) (sE (W := W0) (c.W0) i h3)
    · cases h
theorem sTgs {X : Cx} {Z : Zp} {W : WX} {P : Pg} {cl : Cl} {k : Nat} {g : G} (c : Ok X Z W P cl k g) : ∀ (r : Tgts) {l : List Expr}, ckTgs g r l = true → PGs X l (tGts Z (evTgs P cl r))
  | .nil, [], _ => gs_nil
  | .cons t ts, e :: l, h => by
    unfold ckTgs at h
    obtain ⟨h, h3⟩ := and2 h
    obtain ⟨h1, h2⟩ := and2 h
    exact gs_cons h1 (sTg c t h2) (sTgs c ts h3)
  | .nil, _ :: _, h => by cases h
  | .cons _ _, [], h => by cases h
end
mutual
theorem sS {X : Cx} {Z : Zp} {W : WX} {P : Pg} {cl : Cl} {k : Nat} {g : G} (c : Ok X Z W P cl k g) (hp : PassesOwn (model X.prog X.w) X.A X.env X.xe) : ∀ (r : S) {st : Stmt}, ckS g r st = true → PS X st (tSt Z W (evS P cl r))
  | .stk, _, _ => s_stk
  | .pass, st, h => by
    unfold ckS at h
    split at h
    · exact s_pass
    · cases h
  | .brk, st, h => by
    unfold ckS at h
    split at h
    · exact s_break
    · cases h
  | .cont, st, h => by
    unfold ckS at h
    split at h
    · exact s_cont
    · cases h
  | .ex e, st, h => by
    unfold ckS at h
    split at h
    · exact s_expr (sw_none (and2 h).1) (sE c e (and2 h).2)
    · cases h
  | .ret e, st, h => by
    unfold ckS at h
    split at h
    · exact s_ret (sE c e h)
    · cases h
  | .retN, st, h => by
    unfold ckS at h
    split at h
    · exact s_retN
    · cases h
  | .ife t a b, st, h => by
    unfold ckS at h
    split at h
    · obtain ⟨h, h3⟩ := and2 h
      obtain ⟨h1, h2⟩ := and2 h
      exact s_if (sT c t h1) (sSs c hp a h2) (sSs c hp b h3)
    · cases h
  | .set i e, st, h => by
    unfold ckS at h
    split at h
    · obtain ⟨h, h4⟩ := and2 h
      obtain ⟨h, h3⟩ := and2 h
      obtain ⟨h1, h2⟩ := and2 h
      exact s_asg (.inl h3) (fun env he => swNone_name) rfl (sE c e h4) (g_name (pg_name c.nd (by rw [c.N]; exact beq_iff_eq.mp h1) (c.loc h2).1 (c.loc h2).2))
    · cases h
  | .setP i f, st, h => by
    unfold ckS at h
    split at h
    · exact sSetC c h fun fr σ H Q q => pur_imp q
    · cases h
  | .setN i f, st, h => by
    unfold ckS at h
    split at h
    · exact sSetC c h fun fr σ H Q q => new_imp q
    · cases h
  | .asg t e, st, h => by
    unfold ckS at h
    split at h
    · obtain ⟨h, h5⟩ := and2 h
      obtain ⟨h, h4⟩ := and2 h
      obtain ⟨h, h3⟩ := and2 h
      obtain ⟨h1, h2⟩ := and2 h
      exact s_asg ((Bool.or_eq_true_iff.mp h1).imp id fun q => by simpa using q) (fun env he => by rw [lk_of c he]; exact h2) h3 (sE c e h5) (sTg c t h4)
    · cases h
  | .par is es, st, h => by
    unfold ckS at h
    split at h
    · exact sPar c h
    · cases h
  | .fld f o e, st, h => by
    unfold ckS at h
    split at h
    · obtain ⟨h, h3⟩ := and2 h
      obtain ⟨h1, h2⟩ := and2 h
      cases beq_iff_eq.mp h1
      exact s_fld (fun c' e => c.atG c' _ e) (sE c o h2) (sE c e h3)
    · cases h
  | .aug i e, st, h => by
    unfold ckS at h
    split at h
    · obtain ⟨h, h3⟩ := and2 h
      obtain ⟨h1, h2⟩ := and2 h
      exact s_aug c.nd (by rw [c.N]; exact beq_iff_eq.mp h1) (c.loc h2).1 (c.loc h2).2 (sE c e h3)
    · cases h
  | .augI o i e, st, h => by
    unfold ckS at h
    split at h
    · obtain ⟨h, h4⟩ := and2 h
      obtain ⟨h, h3⟩ := and2 h
      obtain ⟨h1, h2⟩ := and2 h
      exact s_augIx h1 (sE c o h2) (sE c i h3) (sE c e h4)
    · cases h
  | .augF f o e, st, h => by
    unfold ckS at h
    split at h
    · obtain ⟨h, h3⟩ := and2 h
      obtain ⟨h1, h2⟩ := and2 h
      cases beq_iff_eq.mp h1
      exact s_augAt (fun c' e => c.atG c' _ e) (sE c o h2) (sE c e h3)
    · cases h
  | .for it t b, st, h => by
    unfold ckS at h
    split at h
    · obtain ⟨h, h4⟩ := and2 h
      obtain ⟨h, h3⟩ := and2 h
      obtain ⟨h1, h2⟩ := and2 h
      exact s_for hp c.calm (sI c it h2) (sTg c t h3) (sSs c hp b h4) h1
    · cases h
  | .whl t b, st, h => by
    unfold ckS at h
    split at h
    · exact s_while hp (sT c t (and2 h).1) (sSs c hp b (and2 h).2)
    · cases h
theorem sSs {X : Cx} {Z : Zp} {W : WX} {P : Pg} {cl : Cl} {k : Nat} {g : G} (c : Ok X Z W P cl k g) (hp : PassesOwn (model X.prog X.w) X.A X.env X.xe) : ∀ (r : Ss) {l : List Stmt}, ckSs g r l = true → PSs X l (tSt Z W (evSs P cl r))
  | .nil, [], _ => s_nil
  | .cons s ss, x :: l, h => by
    unfold ckSs at h
    exact s_cons (sS c hp s (and2 h).1) (sSs c hp ss (and2 h).2)
  | .nil, _ :: _, h => by cases h
  | .cons _ _, [], h => by cases h
end
end Ev
set_option maxRecDepth 100000
set_option maxHeartbeats 2000000
namespace Ev
open PySem PySem.Spec L2
open PyProof.Rows hiding St
/-! ### what a def leaves behind is given back -/
mutual
/-- no object from number k on is named -/
def D.lo (k : Nat) : D → Bool
  | .tup xs => D.los k xs
  | .lst xs => D.los k xs
  | .frl xs => D.los k xs
  | .dic kvs => D.lok k kvs
  | .ref n => decide (n < k)
  | _ => true
def D.los (k : Nat) : List D → Bool
  | [] => true
  | d :: ds => d.lo k && D.los k ds
def D.lok (k : Nat) : List (Key × D) → Bool
  | [] => true
  | (_, d) :: ds => d.lo k && D.lok k ds
end
def D.lof (k : Nat) : List (Str × D) → Bool
  | [] => true
  | (_, d) :: ds => d.lo k && D.lof k ds
def O.lo (k : Nat) : O → Bool
  | .lst xs => D.los k xs
  | .dic kvs => D.lok k kvs
  | .ins _ fs => D.lof k fs
mutual
/-- the new lists and dicts as values that never change -/
def fzD (rec : D → Option D) (h : Hh) (k : Nat) : D → Option D
  | .tup xs => (fzDs rec h k xs).map .tup
  | .lst xs => (fzDs rec h k xs).map .lst
  | .frl xs => (fzDs rec h k xs).map .frl
  | .dic kvs => (fzDk rec h k kvs).map .dic
  | .ref n => if n < k then some (.ref n) else match h[n]? with
    | some (.lst xs) => (fzR rec xs).map .lst
    | some (.dic kvs) => (fzRk rec kvs).map .dic
    | _ => none
  | d => some d
def fzDs (rec : D → Option D) (h : Hh) (k : Nat) : List D → Option (List D)
  | [] => some []
  | d :: ds => match fzD rec h k d, fzDs rec h k ds with
    | some e, some es => some (e :: es)
    | _, _ => none
def fzDk (rec : D → Option D) (h : Hh) (k : Nat) : List (Key × D) → Option (List (Key × D))
  | [] => some []
  | (x, d) :: ds => match fzD rec h k d, fzDk rec h k ds with
    | some e, some es => some ((x, e) :: es)
    | _, _ => none
def fzR (rec : D → Option D) : List D → Option (List D)
  | [] => some []
  | d :: ds => match rec d, fzR rec ds with
    | some e, some es => some (e :: es)
    | _, _ => none
def fzRk (rec : D → Option D) : List (Key × D) → Option (List (Key × D))
  | [] => some []
  | (x, d) :: ds => match rec d, fzRk rec ds with
    | some e, some es => some ((x, e) :: es)
    | _, _ => none
end
def fz (h : Hh) (k : Nat) : Nat → D → Option D
  | 0 => fzD (fun _ => none) h k
  | n + 1 => fzD (fz h k n) h k
/-- the old objects name no new ones -/
def oldOk (h h' : Hh) : Prop := ∀ n, n < h.length → h'[n]? = h[n]? ∨ ∃ o, h'[n]? = some o ∧ o.lo h.length = true
noncomputable def finD (frz : Bool) (h : Hh) (d : D) (h' : Hh) : R D := open Classical in
  if frz = true then (if oldOk h h' then (match fz h' h.length 6 d with
    | some e => .ok e (h'.take h.length)
    | none => .stk) else .stk) else .ok d h'
noncomputable def finX (frz : Bool) (h : Hh) (e : Ex) (h' : Hh) : R D := open Classical in
  if frz = true then (if oldOk h h' then (match e.fld with
    | none => .exc e (h'.take h.length)
    | some d => match fz h' h.length 6 d with
      | some d' => .exc ⟨e.cls, some d'⟩ (h'.take h.length)
      | none => .stk) else .stk) else .exc e h'
noncomputable def fin (frz : Bool) (h : Hh) : SR → R D
  | .rt d h' => finD frz h d h'
  | .nx _ h' => finD frz h .non h'
  | .ex e _ h' => finX frz h e h'
  | _ => .stk
structure FnD where
  ps : List Str
  N : List Str
  frz : Bool
  body : Ss
def startD (N : List Str) (ds : List D) : Sl := ds.map some ++ List.replicate (N.length - ds.length) none
/-- what the defs do -/
noncomputable def run (P : Pg) (fns : Nat → Option FnD) : Nat → Cl
  | 0, _, _, _ => .stk
  | n + 1, i, ds, h => match fns i with
    | some f => if ds.length = f.ps.length then fin f.frz h (evSs P (run P fns n) f.body (startD f.N ds) h) else .stk
    | none => .stk
/-! ### the cut keeps the state -/
section
variable {Z : Zp} {m m0 : Mp} {H H0 : Hp} {h h0 : Hh}
def cutM (m0 m : Mp) (k : Nat) : Mp := ⟨fun n => if n < k then m n else none, m0.no⟩
theorem out_cut (x : Ext m0 H0 m H) {a : Addr} {k : Nat} (o : Out m a) : Out (cutM m0 m k) a := by
  refine ⟨fun n e => ?_, fun e => o.2 (x.nu a e)⟩
  have e' : (if n < k then m n else none) = some a := e
  split at e'
  · exact o.1 n e'
  · cases e'
theorem st_cut (x : Ext m0 H0 m H) {K : PySem.W.Frag} {a : Addr} {k : Nat} {vs : List V} (s : StT K m H a vs) : StT K (cutM m0 m k) H a vs := s.elim (fun q => .inl ⟨q.1, out_cut x q.2⟩) .inr
theorem sl_cut (x : Ext m0 H0 m H) {K : PySem.W.Frag} {a : Addr} {k : Nat} {vs : List V} (s : StL K m H a vs) : StL K (cutM m0 m k) H a vs := s.elim (fun q => .inl ⟨q.1, out_cut x q.2⟩) .inr
mutual
theorem RV.cut (x : Ext m0 H0 m H) (k : Nat) : ∀ {d : D} {v : V}, RV Z m H d v → d.lo k = true → RV Z (cutM m0 m k) H d v
  | _, _, .non, _ => .non
  | _, _, .bl b, _ => .bl b
  | _, _, .int b, _ => .int b
  | _, _, .str b, _ => .str b
  | _, _, .ty b, _ => .ty b
  | _, _, .tup s r, h => .tup (st_cut x s) (RVs.cut x k r (by simpa only [D.lo] using h))
  | _, _, .lst s o r, h => .lst s (out_cut x o) (RVs.cut x k r (by simpa only [D.lo] using h))
  | _, _, .frl s r, h => .frl (sl_cut x s) (RVs.cut x k r (by simpa only [D.lo] using h))
  | _, _, .dic s o r, h => .dic s (out_cut x o) (RVk.cut x k r (by simpa only [D.lo] using h))
  | _, _, .ref (n := n) (a := a) q, h => .ref (by
      have hn : n < k := of_decide_eq_true (by simpa only [D.lo] using h)
      show (if n < k then m n else none) = some a
      rw [if_pos hn]; exact q)
  | _, _, .fn i, _ => .fn i
  | _, _, .cls i, _ => .cls i
theorem RVs.cut (x : Ext m0 H0 m H) (k : Nat) : ∀ {ds : List D} {vs : List V}, RVs Z m H ds vs → D.los k ds = true → RVs Z (cutM m0 m k) H ds vs
  | _, _, .nil, _ => .nil
  | _, _, .cons r t, h => .cons (RV.cut x k r (and2 (by simpa only [D.los] using h)).1) (RVs.cut x k t (and2 (by simpa only [D.los] using h)).2)
theorem RVk.cut (x : Ext m0 H0 m H) (k : Nat) : ∀ {ds : List (Key × D)} {vs : List (Key × V)}, RVk Z m H ds vs → D.lok k ds = true → RVk Z (cutM m0 m k) H ds vs
  | _, _, .nil, _ => .nil
  | _, _, .cons r t, h => .cons (RV.cut x k r (and2 (by simpa only [D.lok] using h)).1) (RVk.cut x k t (and2 (by simpa only [D.lok] using h)).2)
end
theorem RVf.cut (x : Ext m0 H0 m H) (k : Nat) : ∀ {ds : List (Str × D)} {vs : List (Str × V)}, RVf Z m H ds vs → D.lof k ds = true → RVf Z (cutM m0 m k) H ds vs
  | _, _, .nil, _ => .nil
  | _, _, .cons r t, h => .cons (RV.cut x k r (and2 (by simpa only [D.lof] using h)).1) (RVf.cut x k t (and2 (by simpa only [D.lof] using h)).2)
mutual
theorem RV.lo (k : Nat) (hm : ∀ n a, m n = some a → n < k) : ∀ {d : D} {v : V}, RV Z m H d v → d.lo k = true
  | _, _, .non => by simp only [D.lo]
  | _, _, .bl b => by simp only [D.lo]
  | _, _, .int b => by simp only [D.lo]
  | _, _, .str b => by simp only [D.lo]
  | _, _, .ty b => by simp only [D.lo]
  | _, _, .tup s r => by simpa only [D.lo] using RVs.lo k hm r
  | _, _, .lst s o r => by simpa only [D.lo] using RVs.lo k hm r
  | _, _, .frl s r => by simpa only [D.lo] using RVs.lo k hm r
  | _, _, .dic s o r => by simpa only [D.lo] using RVk.lo k hm r
  | _, _, .ref q => by simp only [D.lo]; exact decide_eq_true (hm _ _ q)
  | _, _, .fn i => by simp only [D.lo]
  | _, _, .cls i => by simp only [D.lo]
theorem RVs.lo (k : Nat) (hm : ∀ n a, m n = some a → n < k) : ∀ {ds : List D} {vs : List V}, RVs Z m H ds vs → D.los k ds = true
  | _, _, .nil => by simp only [D.los]
  | _, _, .cons r t => by simp only [D.los]; rw [RV.lo k hm r, RVs.lo k hm t]; rfl
theorem RVk.lo (k : Nat) (hm : ∀ n a, m n = some a → n < k) : ∀ {ds : List (Key × D)} {vs : List (Key × V)}, RVk Z m H ds vs → D.lok k ds = true
  | _, _, .nil => by simp only [D.lok]
  | _, _, .cons r t => by simp only [D.lok]; rw [RV.lo k hm r, RVk.lo k hm t]; rfl
end
theorem RVf.lo (k : Nat) (hm : ∀ n a, m n = some a → n < k) : ∀ {ds : List (Str × D)} {vs : List (Str × V)}, RVf Z m H ds vs → D.lof k ds = true
  | _, _, .nil => by simp only [D.lof]
  | _, _, .cons r t => by simp only [D.lof]; rw [RV.lo k hm r, RVf.lo k hm t]; rfl
theorem RS.lo (rs : RS Z m h H) {n : Nat} {o : O} (e : h[n]? = some o) : o.lo h.length = true := by
  have hm : ∀ n a, m n = some a → n < h.length := fun n a z => (rs.dom n).mp ⟨a, z⟩
  have hn : n < h.length := (List.getElem?_eq_some_iff.mp e).1
  obtain ⟨a, ha⟩ := (rs.dom n).mpr hn
  cases o with
  | lst xs => obtain ⟨vs, _, r⟩ := rs.lst n a xs ha e; exact r.lo _ hm
  | dic xs => obtain ⟨vs, _, r⟩ := rs.dic n a xs ha e; exact r.lo _ hm
  | ins c fs => obtain ⟨dx, vs, _, r⟩ := rs.ins n a c fs ha e; exact r.lo _ hm
/-- the state, cut -/
theorem RS.cut (rs0 : RS Z m0 h0 H0) (x : Ext m0 H0 m H) (rs : RS Z m h H) (hl : h0.length ≤ h.length) (ok : oldOk h0 h) : RS Z (cutM m0 m h0.length) (h.take h0.length) H ∧ Ext m0 H0 (cutM m0 m h0.length) H := by
  have at_ : ∀ n a, (cutM m0 m h0.length) n = some a → n < h0.length ∧ m n = some a := fun n a e => by
    have e' : (if n < h0.length then m n else none) = some a := e
    split at e'
    · exact ⟨‹_›, e'⟩
    · cases e'
  have get : ∀ {n o}, (h.take h0.length)[n]? = some o → n < h0.length ∧ h[n]? = some o ∧ o.lo h0.length = true := fun {n o} e => by
    rw [List.getElem?_take] at e
    split at e
    · rename_i hn
      refine ⟨hn, e, ?_⟩
      rcases ok n hn with q | ⟨o', q1, q2⟩
      · rw [e] at q
        exact rs0.lo q.symm
      · rw [e] at q1; cases q1; exact q2
    · cases e
  refine ⟨⟨fun n => ?_, fun n n' a e1 e2 => rs.inj n n' a (at_ n a e1).2 (at_ n' a e2).2, fun n a e => rs.trk n a (at_ n a e).2, fun n a xs e q => ?_, fun n a xs e q => ?_, fun n a c fs e q => ?_, fun a e => rs.nok a (x.nu a e)⟩, ⟨fun n a e => ?_, fun n a e => x.new n a (at_ n a e).2, x.keep, x.old, fun a e => e, fun a e => .inl e⟩⟩
  · rw [List.length_take, Nat.min_eq_left hl]
    constructor
    · rintro ⟨a, e⟩; exact (at_ n a e).1
    · intro hn
      obtain ⟨a, ha⟩ := (rs.dom n).mpr (by omega)
      exact ⟨a, by show (if n < h0.length then m n else none) = some a; rw [if_pos hn]; exact ha⟩
  · obtain ⟨_, g2, g3⟩ := get q
    obtain ⟨vs, h1, h2⟩ := rs.lst n a xs (at_ n a e).2 g2
    exact ⟨vs, h1, h2.cut x _ g3⟩
  · obtain ⟨_, g2, g3⟩ := get q
    obtain ⟨vs, h1, h2⟩ := rs.dic n a xs (at_ n a e).2 g2
    exact ⟨vs, h1, h2.cut x _ g3⟩
  · obtain ⟨_, g2, g3⟩ := get q
    obtain ⟨dx, vs, h1, h2⟩ := rs.ins n a c fs (at_ n a e).2 g2
    exact ⟨dx, vs, h1, h2.cut x _ g3⟩
  · have hn : n < h0.length := (rs0.dom n).mp ⟨a, e⟩
    show (if n < h0.length then m n else none) = some a
    rw [if_pos hn]
    exact x.up n a e
/-- frozen values -/
theorem fz_step (rs0 : RS Z m0 h0 H0) (x : Ext m0 H0 m H) (rs : RS Z m h H) {rec : D → Option D} (hr : ∀ d v e, RV Z m H d v → rec d = some e → RV Z (cutM m0 m h0.length) H e v) :
    (∀ d v e, RV Z m H d v → fzD rec h h0.length d = some e → RV Z (cutM m0 m h0.length) H e v) := by
  have outR : ∀ {n a}, ¬ n < h0.length → m n = some a → Out (cutM m0 m h0.length) a := fun {n a} hn hm => by
    refine ⟨fun n' e => ?_, fun e => ?_⟩
    · have e' : (if n' < h0.length then m n' else none) = some a := e
      split at e'
      · have := rs.inj n n' a hm e'; omega
      · cases e'
    · rcases x.new n a hm with z | z
      · exact hn ((rs0.dom n).mp ⟨a, z⟩)
      · obtain ⟨o, q⟩ := rs0.nok a e
        rw [z] at q; cases q
  have recs : ∀ (ds : List D) (vs : List V) (es : List D), RVs Z m H ds vs → fzR rec ds = some es → RVs Z (cutM m0 m h0.length) H es vs := fun ds => by
    induction ds with
    | nil => intro vs es r e; cases r; unfold fzR at e; cases e; exact .nil
    | cons d ds ih =>
      intro vs es r e
      cases r with
      | cons r t =>
        unfold fzR at e
        split at e
        · rename_i e1 e2 e3 e4; cases e; exact .cons (hr _ _ _ r e3) (ih _ _ t e4)
        · cases e
  have reck : ∀ (ds : List (Key × D)) (vs : List (Key × V)) (es : List (Key × D)), RVk Z m H ds vs → fzRk rec ds = some es → RVk Z (cutM m0 m h0.length) H es vs := fun ds => by
    induction ds with
    | nil => intro vs es r e; cases r; unfold fzRk at e; cases e; exact .nil
    | cons d ds ih =>
      intro vs es r e
      cases r with
      | cons r t =>
        unfold fzRk at e
        split at e
        · rename_i e1 e2 e3 e4; cases e; exact .cons (hr _ _ _ r e3) (ih _ _ t e4)
        · cases e
  let M1 (d : D) : Prop := ∀ v e, RV Z m H d v → fzD rec h h0.length d = some e → RV Z (cutM m0 m h0.length) H e v
  let M2 (ds : List D) : Prop := ∀ vs es, RVs Z m H ds vs → fzDs rec h h0.length ds = some es → RVs Z (cutM m0 m h0.length) H es vs
  let M3 (ds : List (Key × D)) : Prop := ∀ vs es, RVk Z m H ds vs → fzDk rec h h0.length ds = some es → RVk Z (cutM m0 m h0.length) H es vs
  let M4 (p : Key × D) : Prop := M1 p.2
  refine fun d => D.rec (motive_1 := M1) (motive_2 := M2) (motive_3 := M3) (motive_4 := M4) ?_ ?_ ?_ ?_ ?_ ?_ ?_ ?_ ?_ ?_ ?_ ?_ ?_ ?_ ?_ ?_ ?_ d
  · intro v e r q; unfold fzD at q; cases q; cases r; exact .non
  · intro b v e r q; unfold fzD at q; cases q; cases r; exact .bl _
  · intro b v e r q; unfold fzD at q; cases q; cases r; exact .int _
  · intro b v e r q; unfold fzD at q; cases q; cases r; exact .str _
  · intro b v e r q; unfold fzD at q; cases q; cases r; exact .ty _
  · intro xs ih v e r q
    unfold fzD at q
    obtain ⟨es, q1, rfl⟩ := Option.map_eq_some_iff.mp q
    cases r with
    | tup s t => exact .tup (st_cut x s) (ih _ _ t q1)
  · intro xs ih v e r q
    unfold fzD at q
    obtain ⟨es, q1, rfl⟩ := Option.map_eq_some_iff.mp q
    cases r with
    | lst s o t => exact .lst s (out_cut x o) (ih _ _ t q1)
  · intro xs ih v e r q
    unfold fzD at q
    obtain ⟨es, q1, rfl⟩ := Option.map_eq_some_iff.mp q
    cases r with
    | frl s t => exact .frl (sl_cut x s) (ih _ _ t q1)
  · intro xs ih v e r q
    unfold fzD at q
    obtain ⟨es, q1, rfl⟩ := Option.map_eq_some_iff.mp q
    cases r with
    | dic s o t => exact .dic s (out_cut x o) (ih _ _ t q1)
  · intro n v e r q
    unfold fzD at q
    cases r with
    | @ref _ a hm =>
      split at q
      · rename_i hn
        cases q
        refine .ref ?_
        show (if n < h0.length then m n else none) = some a
        rw [if_pos hn]; exact hm
      · rename_i hn
        split at q
        · rename_i xs e1
          obtain ⟨es, q1, rfl⟩ := Option.map_eq_some_iff.mp q
          obtain ⟨vs, h1, h2⟩ := rs.lst _ _ _ hm e1
          exact .lst h1 (outR hn hm) (recs _ _ _ h2 q1)
        · rename_i xs e1
          obtain ⟨es, q1, rfl⟩ := Option.map_eq_some_iff.mp q
          obtain ⟨vs, h1, h2⟩ := rs.dic _ _ _ hm e1
          exact .dic h1 (outR hn hm) (reck _ _ _ h2 q1)
        · cases q
  · intro i v e r q; unfold fzD at q; cases q; cases r; exact .fn _
  · intro i v e r q; unfold fzD at q; cases q; cases r; exact .cls _
  · intro vs es r q; unfold fzDs at q; cases q; cases r; exact .nil
  · intro d ds ih1 ih2 vs es r q
    cases r with
    | cons r t =>
      unfold fzDs at q
      split at q
      · rename_i e1 e2 e3 e4; cases q; exact .cons (ih1 _ _ r e3) (ih2 _ _ t e4)
      · cases q
  · intro vs es r q; unfold fzDk at q; cases q; cases r; exact .nil
  · rintro ⟨kk, d⟩ ds ih1 ih2 vs es r q
    cases r with
    | cons r t =>
      unfold fzDk at q
      split at q
      · rename_i e1 e2 e3 e4; cases q; exact .cons (ih1 _ _ r e3) (ih2 _ _ t e4)
      · cases q
  · intro kk d ih; exact ih
theorem fz_ok (rs0 : RS Z m0 h0 H0) (x : Ext m0 H0 m H) (rs : RS Z m h H) : ∀ (n : Nat) (d : D) (v : V) (e : D), RV Z m H d v → fz h h0.length n d = some e → RV Z (cutM m0 m h0.length) H e v
  | 0 => fz_step rs0 x rs fun d v e _ q => by cases q
  | n + 1 => fz_step rs0 x rs (fz_ok rs0 x rs n)
theorem RS.grow (rs0 : RS Z m0 h0 H0) (x : Ext m0 H0 m H) (rs : RS Z m h H) : h0.length ≤ h.length := by
  cases q : h0.length with
  | zero => exact Nat.zero_le _
  | succ n =>
    obtain ⟨a, ha⟩ := (rs0.dom n).mpr (by omega)
    have := (rs.dom n).mp ⟨a, x.up n a ha⟩
    omega
/-- the end of a def -/
theorem fin_ok {W : WX} {E : XK} {Q : VK} (frz : Bool) (hW : W = fun c d _ H => E c d H) (rs0 : RS Z m0 h0 H0) (r : SR) (p : GP rhoE Z W m0 [] H0 Q (fin frz h0 r)) : SP2 Z W m0 H0 { nx := fun _ H' => Q .non H', rt := Q } r := by
  have rtOk : ∀ d h, GP rhoE Z W m0 [] H0 Q (finD frz h0 d h) → ∀ m' H' v, Ext m0 H0 m' H' → RS Z m' h H' → RV Z m' H' d v → Q v H' := fun d h p m' H' v x rs rv => by
    unfold finD at p
    split at p
    · split at p
      · rename_i ok
        split at p
        · rename_i e e1
          obtain ⟨rs1, x1⟩ := rs0.cut x rs (rs0.grow x rs) ok
          exact p _ H' v x1 rs1 (fz_ok rs0 x rs 6 _ _ _ rv e1)
        · exact p.elim
      · exact p.elim
    · exact p m' H' v x rs rv
  cases r with
  | nx s h => exact fun m' H' σ x rs _ => rtOk .non h p m' H' .non x rs .non
  | rt d h => exact fun m' H' v x rs rv => rtOk d h p m' H' v x rs rv
  | bk s h => exact p.elim
  | ct s h => exact p.elim
  | stk => exact p.elim
  | ex e s h =>
    intro m' H' σ c dx x rs _ rx
    have p : GP rhoE Z W m0 [] H0 Q (finX frz h0 e h) := p
    subst hW
    unfold finX at p
    split at p
    · split at p
      · rename_i ok
        obtain ⟨rs1, x1⟩ := rs0.cut x rs (rs0.grow x rs) ok
        obtain ⟨ec, ef⟩ := e
        cases ef with
        | none => exact p _ H' c dx x1 rs1 ⟨rx.1, rx.2⟩
        | some d =>
          simp only at p
          split at p
          · rename_i d' e1
            obtain ⟨a, f, v, q1, q2, q3⟩ := rx.2
            exact p _ H' c dx x1 rs1 ⟨rx.1, a, f, v, q1, q2, fz_ok rs0 x rs 6 _ _ _ q3 e1⟩
          · exact p.elim
      · exact p.elim
    · exact p m' H' c dx x rs rx
theorem rsl_start {N : List Str} {ds : List D} {vs : List V} (r : RVs Z m H ds vs) : RSl Z m H (startD N ds) (L2.start N vs) := by
  have hl := r.length
  refine ⟨by simp [startD, L2.start, hl], fun i d e => ?_⟩
  unfold startD at e
  unfold L2.start
  by_cases hi : i < ds.length
  · rw [List.getElem?_append_left (by simpa using hi)] at e
    rw [List.getElem?_append_left (by simpa [← hl] using hi)]
    simp only [List.getElem?_map, Option.map_eq_some_iff] at e
    obtain ⟨d', e1, e2⟩ := e
    cases e2
    obtain ⟨v, h1, h2⟩ := r.get e1
    exact ⟨v, by simp [h1], h2⟩
  · rw [List.getElem?_append_right (by simpa using hi)] at e
    simp [List.getElem?_replicate] at e
end
/-! ### the text -/
structure FnIn (K : PySem.W.Frag) (gl : List (Str × Glo)) (f : FnD) (a : Addr) (fd : FuncData) : Prop where
  fn : ∃ x qual args body scope, FunD K x qual args body scope [] [] a fd ∧ FnScope f.N f.ps scope ∧ ckSs ⟨f.N, scope, fun _ => true, gl, false⟩ f.body body = true
  kp : PySem.W.keepIn K (.ref a) = true
  bd : Binds K fd f.ps []
structure Txt (K : PySem.W.Frag) (mg : Str → Option Value) (Z : Zp) (P : Pg) (gl : List (Str × Glo)) (fns : Nat → Option FnD) (fdo : Nat → FuncData) : Prop where
  hK : Z.K = K
  fn : ∀ i f, fns i = some f → FnIn K gl f (Z.fa i) (fdo i)
  fnG : ∀ x i, gl.lookup x = some (.fn i) → (∃ f, fns i = some f) ∧ mg x = some (.ref (Z.fa i))
  clG : ∀ x c, gl.lookup x = some (.cls c) → mg x = some (.ref (Z.ca c))
  inG : ∀ c i, P.T.ini c = some i → (∃ f, fns i = some f) ∧ Mk K (Z.ca c) (Z.fa i)
  vaG : ∀ x i, gl.lookup x = some (.val i) → ∃ u v, mg x = some u ∧ RelV v u ∧ ∀ m H, RV Z m H (P.gv i) v
  frG : ∀ x, gl.lookup x = some .free → mg x = none
  mtG : ∀ c mn i, P.T.mt c mn = some i → (∃ f, fns i = some f) ∧ Cls K (Z.ca c) ∧ Meth K (Z.ca c) mn (Z.fa i)
  atG : ∀ c f, P.T.att c f = true → Cls K (Z.ca c) ∧ NoAttr K (Z.ca c) f
section
variable {Pr : Program} {w : World} {K : PySem.W.Frag} {mg : Str → Option Value} {base : Heap} {Z : Zp} {P : Pg} {gl : List (Str × Glo)} {fns : Nat → Option FnD} {fdo : Nat → FuncData}
theorem fn_len {n i : Nat} {f : FnD} (e : fns i = some f) {vs : List V} {H : Hp} {Q : VK} {E : XK} (h : spD Z (run P fns n) i vs H Q E) : vs.length = f.ps.length := by
  obtain ⟨m, h, ds, rs, r, p⟩ := h
  cases n with
  | zero => exact p.elim
  | succ n =>
    unfold run at p
    rw [e] at p
    simp only at p
    split at p
    · rename_i hl; rw [← r.length]; exact hl
    · exact p.elim
/-- a body in its place -/
theorem body_ok (t : Txt K mg Z P gl fns fdo) {n : Nat} (ih : ∀ i f, fns i = some f → FnOk Pr w K mg base (L2.CX Pr w) (2 * n) (Z.fa i) (fdo i) f.ps (spD Z (run P fns n) i)) {f : FnD} {a : Addr} {qual : Str} {scope : Scope} {cdv : Value} {A : Around} {outer : List Env} {s : Shared} {H : Hp} {E : XK}
    (hr : Room (2 * n + 1) (A.deeper (envOfC qual scope s.heap.objs.size a cdv))) (S : FnScope f.N f.ps scope) (gd : Bool) (hgd : gd = true → (A.deeper (envOfC qual scope s.heap.objs.size a cdv)).guards = some []) : Ok (cxOf (L2.CX Pr w) Pr w K mg base f.N qual scope a cdv A outer s H E) Z (fun c d _ H => E c d H) P (run P fns n) (2 * n) ⟨f.N, scope, fun _ => true, gl, gd⟩ where
  hK := t.hK
  N := rfl
  nd := S.nd
  sc := rfl
  fn := fun _ _ => rfl
  calm := rfl
  un := by
    have := hr.un
    show (A.deeper (envOfC qual scope s.heap.objs.size a cdv)).units + 65 < cLine
    omega
  room := hr
  tk := takes_of rfl rfl rfl rfl
  fnG := fun x i e => by
    obtain ⟨⟨g, hg⟩, hm⟩ := t.fnG x i e
    exact ⟨_, _, _, hm, (t.fn i g hg).kp, (t.fn i g hg).bd, ih i g hg⟩
  clG := t.clG
  inG := fun c i e => by
    obtain ⟨⟨g, hg⟩, hm⟩ := t.inG c i e
    exact ⟨_, _, _, hm, ih i g hg, (t.fn i g hg).bd⟩
  vaG := t.vaG
  frG := t.frG
  mtG := fun c mn i e => by
    obtain ⟨⟨g, hg⟩, h1, h2⟩ := t.mtG c mn i e
    exact ⟨h1, _, _, _, h2, (t.fn i g hg).bd, ih i g hg⟩
  atG := t.atG
  gd := hgd
theorem fn_all (t : Txt K mg Z P gl fns fdo) : ∀ n i f, fns i = some f → FnOk Pr w K mg base (L2.CX Pr w) (2 * n) (Z.fa i) (fdo i) f.ps (spD Z (run P fns n) i)
  | 0, i, f, _ => ⟨fun _ _ _ _ ⟨_, _, _, _, _, p⟩ => p.elim, fun _ _ _ _ _ _ _ _ _ _ _ _ _ ⟨_, _, _, _, _, p⟩ => p.elim⟩
  | n + 1, i, f, e => by
    obtain ⟨x, qual, args, body, scope, F, S, ck⟩ := (t.fn i f e).fn
    refine F.ok (k := 2 * n + 1) S (fun vs H Q E h => fn_len e h) fun cdv A outer s H vs Q E hr h => ?_
    have c := body_ok (Pr := Pr) (w := w) (base := base) (outer := outer) (s := s) (H := H) (E := E) t (fn_all t n) (f := f) (a := Z.fa i) hr S false (fun z => by cases z)
    refine ⟨_, sSs c (passes_of rfl) f.body ck, ?_⟩
    obtain ⟨m, h, ds, rs, r, p⟩ := h
    unfold run at p
    rw [e] at p
    simp only at p
    split at p
    · exact ⟨m, h, startD f.N ds, rs, rsl_start r, fin_ok f.frz rfl rs _ p⟩
    · exact p.elim
end
end Ev
set_option maxRecDepth 100000
set_option maxHeartbeats 2000000
namespace Ev
open PySem PySem.Spec L2
open PyProof.Rows hiding St
/-- a def of the text -/
structure Row where
  at_ : Str × Option Str
  qual : Str
  st : Stmt
  f : FnD
def Row.name (r : Row) : Str := match r.at_.2 with
  | some m => m
  | none => r.at_.1
def Row.d (r : Row) : He.DefD := ⟨r.at_, r.name, r.qual, defArgs r.st, defBody r.st, defScope r.st, [], []⟩
structure Tx where
  rows : List Row
  classes : List Str
  gl : List (Str × Glo)
  vals : List D
  mts : List ((Nat × Str) × Nat)
  inis : List (Nat × Nat)
  atts : List (Nat × Str)
namespace Tx
def fns (t : Tx) (i : Nat) : Option FnD := (t.rows[i]?).map (·.f)
def pg (t : Tx) : Pg := ⟨⟨fun c m => t.mts.lookup (c, m), fun c => t.inis.lookup c, fun c f => t.atts.contains (c, f)⟩, fun i => (t.vals[i]?).getD .non⟩
def cn (t : Tx) (c : Nat) : Str := (t.classes[c]?).getD Str.empty
def zp (t : Tx) (K : PySem.W.Frag) : Zp := ⟨K, fun i => match t.rows[i]? with
  | some r => He.fAd K r.at_
  | none => 0, fun c => He.ga K (t.cn c)⟩
/-- what is asked of the heap behind the top -/
def need (t : Tx) : List He.Fa :=
  t.gl.flatMap (fun p => match p.2 with
    | .fn _ => [.glo p.1]
    | .cls _ => [.glo p.1]
    | .free => [.free p.1]
    | .val i => match t.vals[i]? with
      | some (.int k) => [.int p.1 k]
      | some (.str s) => [.str p.1 s]
      | _ => []) ++
  t.mts.flatMap (fun p => [.cls (t.cn p.1.1), .meth (t.cn p.1.1) p.1.2]) ++ t.inis.map (fun p => .mkr (t.cn p.1)) ++ t.atts.flatMap fun p => [.cls (t.cn p.1), .noat (t.cn p.1) p.2]
/-- the text's own order -/
def fits (t : Tx) : Bool :=
  t.gl.all (fun p => match p.2 with
    | .fn i => (t.rows[i]?).map (·.at_) == some (p.1, none)
    | .cls c => t.classes[c]? == some p.1
    | .free => true
    | .val i => match t.vals[i]? with
      | some (.int _) => true
      | some (.str _) => true
      | _ => false) &&
  t.mts.all (fun p => (t.rows[p.2]?).map (·.at_) == some (t.cn p.1.1, some p.1.2)) && t.inis.all fun p => (t.rows[p.2]?).map (·.at_) == some (t.cn p.1, some ("__init__" : Str))
def rowOk (t : Tx) (r : Row) : Bool := C8.scC r.f.N r.f.ps (defScope r.st) && ckSs ⟨r.f.N, defScope r.st, fun _ => true, t.gl, false⟩ r.f.body (defBody r.st)
/-- every parameter is given -/
def BindR (r : Row) : Prop := ∀ (kV doc pm : Value) (an : Option Addr) (cdv ct : Value) (us : List Value), us.length = r.f.ps.length → bindArgs (PySem.W.fnOf r.name r.qual (defArgs r.st) (defBody r.st) (defScope r.st) .none kV doc pm an cdv ct) ⟨us, []⟩ = pure (r.f.ps.zip us)
theorem lookup_mem {α β : Type} [BEq α] [LawfulBEq α] {l : List (α × β)} {x : α} {y : β} (h : l.lookup x = some y) : (x, y) ∈ l := by
  induction l with
  | nil => cases h
  | cons p l ih =>
    obtain ⟨a, b⟩ := p
    unfold List.lookup at h
    split at h
    · rename_i e
      cases h
      cases beq_iff_eq.mp e
      exact List.mem_cons_self
    · exact List.mem_cons_of_mem _ (ih h)
theorem txt (t : Tx) {fa : List He.Fa} {K : PySem.W.Frag} {h : Heap} {mg : Str → Option Value} (X : K.In h) (G : h.Ns mainGlobals mg) {fn : List He.DefD} (c : He.SaysD fa fn K) (hfn : ∀ r ∈ t.rows, r.d ∈ fn) (hn : ∀ f ∈ t.need, f ∈ fa) (hf : t.fits = true) (hr : ∀ r ∈ t.rows, t.rowOk r = true) (hb : ∀ r ∈ t.rows, BindR r) :
    ∃ fdo, Txt K mg (t.zp K) t.pg t.gl t.fns fdo := by
  obtain ⟨hf, f3⟩ := and2 hf
  obtain ⟨f1, f2⟩ := and2 hf
  have defs : ∀ i : Nat, ∃ fd, ∀ (r : Row), t.rows[i]? = some r → FunD K r.name r.qual (defArgs r.st) (defBody r.st) (defScope r.st) [] [] (He.fAd K r.at_) fd := fun i => by
    cases e : t.rows[i]? with
    | none => exact ⟨default, fun r h => by cases h⟩
    | some r =>
      obtain ⟨fd, q⟩ := c.defs (hfn r (List.mem_of_getElem? e))
      exact ⟨fd, fun r' h => by cases h; exact q⟩
  have fact : ∀ f, f ∈ t.need → f.ok K = true := fun f h => c.facts (hn f h)
  have fact1 : ∀ p ∈ t.gl, ∀ f ∈ (match p.2 with
    | .fn _ => [He.Fa.glo p.1]
    | .cls _ => [.glo p.1]
    | .free => [.free p.1]
    | .val i => match t.vals[i]? with
      | some (.int k) => [.int p.1 k]
      | some (.str s) => [.str p.1 s]
      | _ => []), f.ok K = true := fun p hp f hf => fact f (by
    unfold need
    refine List.mem_append_left _ (List.mem_append_left _ (List.mem_append_left _ (List.mem_flatMap.mpr ⟨p, hp, hf⟩)))) 
  have zfa : ∀ {i : Nat} {r : Row}, t.rows[i]? = some r → (t.zp K).fa i = He.fAd K r.at_ := fun {i r} e => by
    show (match t.rows[i]? with
      | some r => He.fAd K r.at_
      | none => 0) = _
    rw [e]
  have some_of : ∀ {i : Nat} {r : Row}, t.rows[i]? = some r → ∃ f, t.fns i = some f := fun {i r} e => ⟨r.f, by unfold fns; rw [e]; rfl⟩
  refine ⟨fun i => (defs i).choose, rfl, fun i f e => ?_, fun x i e => ?_, fun x cc e => ?_, fun cc i e => ?_, fun x i e => ?_, fun x e => ?_, fun cc mn i e => ?_, fun cc f e => ?_⟩
  · unfold fns at e
    obtain ⟨r, e1, rfl⟩ := Option.map_eq_some_iff.mp e
    have hm := List.mem_of_getElem? e1
    have F := (defs i).choose_spec r e1
    obtain ⟨k1, k2⟩ := and2 (hr r hm)
    rw [zfa e1]
    exact ⟨⟨_, _, _, _, _, F, C8.fnScope_by k1, k2⟩, F.kp, F.bindsN (hb r hm)⟩
  · have hm := lookup_mem e
    have q := List.all_eq_true.mp f1 _ hm
    obtain ⟨r, e1, e2⟩ := Option.map_eq_some_iff.mp (beq_iff_eq.mp q)
    refine ⟨some_of e1, ?_⟩
    rw [zfa e1, e2]
    exact He.glo_ok X G (fact1 _ hm (.glo x) (List.mem_singleton.mpr rfl))
  · have hm := lookup_mem e
    have q : t.classes[cc]? = some x := beq_iff_eq.mp (List.all_eq_true.mp f1 _ hm)
    show mg x = some (.ref (He.ga K (t.cn cc)))
    unfold cn
    rw [q]
    exact He.glo_ok X G (fact1 _ hm (.glo x) (List.mem_singleton.mpr rfl))
  · have hm := lookup_mem (show t.inis.lookup cc = some i from e)
    have q := List.all_eq_true.mp f3 _ hm
    obtain ⟨r, e1, e2⟩ := Option.map_eq_some_iff.mp (beq_iff_eq.mp q)
    refine ⟨some_of e1, ?_⟩
    rw [zfa e1, e2]
    exact He.mkr_ok (fact _ (List.mem_append_left _ (List.mem_append_right _ (List.mem_map.mpr ⟨_, hm, rfl⟩))))
  · have hm := lookup_mem e
    have q := List.all_eq_true.mp f1 _ hm
    have fx := fact1 _ hm
    simp only at q fx
    split at q
    · rename_i k e1
      rw [e1] at fx
      obtain ⟨tk, hk⟩ := He.int_ok X G (fx _ (List.mem_singleton.mpr rfl))
      refine ⟨_, .int k, hk, ⟨tk, rfl⟩, fun m H => ?_⟩
      show RV (t.zp K) m H ((t.vals[i]?).getD .non) (.int k)
      rw [e1]; exact .int k
    · rename_i k e1
      rw [e1] at fx
      obtain ⟨tk, hk⟩ := He.str_ok X G (fx _ (List.mem_singleton.mpr rfl))
      refine ⟨_, .str k, hk, ⟨tk, rfl⟩, fun m H => ?_⟩
      show RV (t.zp K) m H ((t.vals[i]?).getD .non) (.str k)
      rw [e1]; exact .str k
    · cases q
  · exact He.free_ok X G (fact1 _ (lookup_mem e) (.free x) (List.mem_singleton.mpr rfl))
  · have hm := lookup_mem (show t.mts.lookup (cc, mn) = some i from e)
    have q := List.all_eq_true.mp f2 _ hm
    obtain ⟨r, e1, e2⟩ := Option.map_eq_some_iff.mp (beq_iff_eq.mp q)
    refine ⟨some_of e1, ?_⟩
    rw [zfa e1, e2]
    have fm : ∀ f ∈ [He.Fa.cls (t.cn cc), .meth (t.cn cc) mn], f.ok K = true := fun f hf => fact f (by
      unfold need
      exact List.mem_append_left _ (List.mem_append_left _ (List.mem_append_right _ (List.mem_flatMap.mpr ⟨_, hm, hf⟩))))
    exact ⟨He.cls_ok (fm _ List.mem_cons_self), He.meth_ok (fm _ (List.mem_cons_of_mem _ List.mem_cons_self))⟩
  · have hm : (cc, f) ∈ t.atts := by simpa using (show t.atts.contains (cc, f) = true from e)
    have fm : ∀ g ∈ [He.Fa.cls (t.cn cc), .noat (t.cn cc) f], g.ok K = true := fun g hg => fact g (by
      unfold need
      exact List.mem_append_right _ (List.mem_flatMap.mpr ⟨_, hm, hg⟩))
    exact ⟨He.cls_ok (fm _ List.mem_cons_self), He.noat_ok (fm _ (List.mem_cons_of_mem _ List.mem_cons_self))⟩
end Tx
end Ev
set_option maxRecDepth 100000
set_option maxHeartbeats 2000000
namespace Ev
open PySem PySem.Spec L2
open PyProof.Rows hiding St
/-- a def called by the law's asker alone: nothing around it -/
def TopOk (P : Program) (w : World) (K : PySem.W.Frag) (mg : Str → Option Value) (base : Heap) (CX : CXT) (f : Addr) (fd : FuncData) (ps : List Str) (sp : Sp) : Prop :=
  ∀ (s : Shared) (H : Hp) (us : List Value) (vs : List V) (Q : VK) (E : XK), Env0 P w K mg base callerA [] s H → BindsTo s fd ⟨us, []⟩ (ps.zip us) → Vals vs us → sp vs H Q E →
    codeAny (model P w) callerA (.call (.ref f) ⟨us, []⟩) (CR CX [] P w H s Q E) s
theorem noneIn (b : Addr) : b ∉ ([] : List Addr) := fun z => by cases z
section
variable {P : Program} {w : World} {K : PySem.W.Frag} {mg mb : Str → Option Value} {CX : CXT} {fa a : Addr} {fd : FuncData} {x : Str} {sp : Sp} {s1 : Shared} {vs : List Value} {ns : List Int}
/-- what stays outside the script -/
theorem hid_in {H : Hp} {h : Heap} (one : ∀ b, H b ≠ none → b = a) {b : Addr} (ne : b ≠ a) {o : Obj} (e : h.get? b = some o) : (hidT h H).get? b = some o :=
  hidT_get e (Classical.byContradiction fun z => ne (one b z))
theorem top_from {H : Hp} (KX : K.In s1.heap) (gN : s1.heap.Ns mainGlobals mg) (bN : s1.heap.Ns builtinsNs mb) (bB : ∀ y : Str, y ≠ "__name__" → mb y = bootBuiltins y) (lim : s1.heap.NoLimit) (gens : s1.gens = #[])
    (ha : s1.heap.get? a = some { cls := .type "list", data := .seq vs.toArray }) (one : ∀ b, H b ≠ none → b = a) (hO : Only H) (hok : HOk P w H s1.heap) (kA : H a ≠ none → K.lookup a = none)
    (F : ∀ base : Heap, K.In base → base.Ns mainGlobals mg → TopOk P w K mg base CX fa fd [x] sp) (bind : ∀ (s : Shared) (u : Value), BindsTo s fd ⟨[u], []⟩ [(x, u)]) (hs : sp [.ref a] H (fun v _ => v = .bl true) fun _ _ _ => False)
    (noX : ∀ H e s', CX [] H s1 (fun _ _ _ => False) e s' → False) :
    codeAny (model P w) callerA (.call (.ref fa) ⟨[.ref a], []⟩) (fun r s' => r = .ok (.ret (.bool true)) ∧ OldK s1.heap s'.heap ∧ s'.os = s1.os ∧ AllBare s'.gens) s1 := by
  have nsIn : ∀ {b : Addr} {m : Str → Option Value}, s1.heap.Ns b m → (hidT s1.heap H).Ns b m := by
    rintro b m ⟨o, es, ep, e, dat, rest⟩
    refine ⟨o, es, ep, hid_in one (fun z => ?_) e, dat, rest⟩
    subst z
    rw [ha] at e
    cases e
    cases (show Data.seq vs.toArray _ = Data.dict es ep from dat)
  have KB : K.In (hidT s1.heap H) := fun b o e => hidT_get (KX b o e) (by
    rcases q : H b with _ | u
    · rfl
    · cases one b (by rw [q]; exact Option.some_ne_none u)
      rw [kA (by rw [q]; exact Option.some_ne_none u)] at e
      cases e)
  obtain ⟨ml, l1, l2⟩ := lim
  have M : Mod K mg (hidT s1.heap H) := ⟨KB, nsIn gN, ⟨mb, nsIn bN, bB⟩, ml, nsIn l1, l2⟩
  have E0 : Env0 P w K mg (hidT s1.heap H) callerA [] s1 H :=
    { frames := rfl, mod := M, bs := fun _ _ e => of_hidT e, bsz := Nat.le_of_eq (hidT_size ..), funs := trivial, frf := fun b z => (noneIn b z).elim, hok := hok, bare := .of_eq gens }
  refine codeAny_mono (F _ KB (nsIn gN) s1 H [.ref a] [.ref a] _ _ E0 (bind s1 (.ref a)) (.cons rfl .nil) hs) fun r s' q => ?_
  rcases r with e | fl
  · exact (noX H e s' q).elim
  · rcases fl with _ | _ | _ | u <;> first | exact False.elim q | skip
    obtain ⟨v, H', os, bare, un, hok', rv, rfl⟩ := q
    cases (show u = Value.bool true from rv)
    refine ⟨rfl, .of_keep fun b o e => ?_, os, bare⟩
    obtain z | ⟨ob, xs, z⟩ := hO b
    · exact un.keep b o e z (noneIn b) (noneIn b)
    · have k1 := (hok b _ z).1
      have k2 := (hok' b _ (un.frzs b ob _ z)).1
      rw [e] at k1
      cases k1
      exact k2
theorem top_call (KX : K.In s1.heap) (gN : s1.heap.Ns mainGlobals mg) (bN : s1.heap.Ns builtinsNs mb) (bB : ∀ y : Str, y ≠ "__name__" → mb y = bootBuiltins y) (lim : s1.heap.NoLimit) (gens : s1.gens = #[])
    (ha : s1.heap.get? a = some { cls := .type "list", data := .seq vs.toArray }) (hi : IntsAre vs ns) (hl : ns.length ≤ sizeLine)
    (F : ∀ base : Heap, K.In base → base.Ns mainGlobals mg → TopOk P w K mg base CX fa fd [x] sp) (bind : ∀ (s : Shared) (u : Value), BindsTo s fd ⟨[u], []⟩ [(x, u)])
    (hs : ∀ H : Hp, Only H → SqL K H a (ns.map V.int) → sp [.ref a] H (fun v _ => v = .bl true) fun _ _ _ => False) (noX : ∀ H e s', CX [] H s1 (fun _ _ _ => False) e s' → False) :
    codeAny (model P w) callerA (.call (.ref fa) ⟨[.ref a], []⟩) (fun r s' => r = .ok (.ret (.bool true)) ∧ OldK s1.heap s'.heap ∧ s'.os = s1.os ∧ AllBare s'.gens) s1 := by
  have rel := vals_ints hi
  have len := hi.length
  rcases hk : K.lookup a with _ | o
  · let H : Hp := fun b => if b = a then some (.frz { cls := .type "list", data := .seq vs.toArray } (.lst (ns.map V.int))) else none
    have at_ : ∀ b u, H b = some u → b = a ∧ u = .frz { cls := .type "list", data := .seq vs.toArray } (.lst (ns.map V.int)) := fun b u z => by
      by_cases q : b = a
      · exact ⟨q, (Option.some.inj ((if_pos q).symm.trans z)).symm⟩
      · cases (if_neg q).symm.trans z
    have one : ∀ b, H b ≠ none → b = a := fun b z => by
      rcases q : H b with _ | u
      · exact absurd q z
      · exact (at_ b u q).1
    have only : Only H := fun b => by
      rcases q : H b with _ | u
      · exact .inl rfl
      · exact .inr ⟨_, _, congrArg some (at_ b u q).2⟩
    refine top_from KX gN bN bB lim gens ha one only (fun b u z => ?_) (fun _ => hk) F bind (hs H only (.inl (.inr ⟨_, if_pos rfl⟩))) noX
    obtain ⟨rfl, rfl⟩ := at_ b u z
    exact ⟨ha, by rw [List.length_map]; exact hl, vs, _, rel, ha⟩
  · have e := KX a o hk
    rw [ha] at e
    cases e
    have only : Only (fun _ => none) := fun _ => .inl rfl
    refine top_from KX gN bN bB lim gens ha (fun b z => absurd rfl z) only (fun b u z => ?_) (fun z => absurd rfl z) F bind (hs _ only (.inr ⟨_, vs.toArray, _, hk, rfl, rfl, rfl, ?_, by simpa using rel⟩)) noX
    · cases (show (none : Option HO) = some u from z)
    · rw [List.size_toArray, len]; exact hl
/-- the goal that the head leaves, by a def that is called by the asker alone -/
theorem walk_top {l : PySem.W.OpenLaw} {n : Nat} {q : Program} {loose : List Str} {XP : (Str → Option Value) → Heap → Prop} {YP : World → Heap → Prop} {d : DefRec} {CX : World → CXT} {x : Str} (hn : l.most = some n) (hn2 : n ≤ sizeLine) (hdf : d.params.defaults = [])
    (F : ∀ (w : World) (mg : Str → Option Value) (fa : Addr) (h : Heap), YP w h → h.Ns mainGlobals mg → mg d.name = some (.ref fa) → ∃ (K : PySem.W.Frag) (fd : FuncData) (sp : Sp), K.In h ∧ (∀ (s : Shared) (u : Value), BindsTo s fd ⟨[u], []⟩ [(x, u)]) ∧
      (∀ (H : Hp) (a : Addr) (ns : List Int), ns.length ≤ n → Only H → SqL K H a (ns.map V.int) → sp [.ref a] H (fun v _ => v = .bl true) fun _ _ _ => False) ∧ ∀ base : Heap, K.In base → base.Ns mainGlobals mg → TopOk l.prog w K mg base (CX w) fa fd [x] sp)
    (noX : ∀ (w : World) (H : Hp) (s : Shared) (e : Value) (s' : Shared), CX w [] H s (fun _ _ _ => False) e s' → False) : PySem.W.WalkO q loose XP YP l.row.toRowW d [] (fun f vs => PySem.call f vs) :=
  Att.attach_call hn hdf fun w s0 s1 mg mb fa o pm cd doc a vs ns G Y ho hd hcd hmg hobj hints hlen hg => by
    obtain ⟨K, fd, sp, KX, hb, hsp, hF⟩ := F w mg fa _ Y G.T.g hmg
    exact top_call KX G.T.g G.T.b G.T.builtins G.T.nolimit hg hobj hints (Nat.le_trans hlen hn2) hF hb (fun H hO hS => hsp H a ns hlen hO hS) (fun H e s' => noX w H s1 e s')
end
/-! ### the law's own def -/
def spT (Z : Zp) (P : Pg) (fns : Nat → Option FnD) (n : Nat) (f : FnD) : Sp := fun vs H Q E => ∃ m h ds, RS Z m h H ∧ RVs Z m H ds vs ∧ vs.length = f.ps.length ∧ GP rhoE Z (fun c d _ H' => E c d H') m [] H Q (fin f.frz h (evSs P (run P fns n) f.body (startD f.N ds) h))
section
variable {Pr : Program} {w : World} {K : PySem.W.Frag} {mg : Str → Option Value} {base : Heap} {Z : Zp} {P : Pg} {gl : List (Str × Glo)} {fns : Nat → Option FnD} {fdo : Nat → FuncData}
theorem top_ok (t : Txt K mg Z P gl fns fdo) {n : Nat} {f : FnD} {a : Addr} {fd : FuncData} {x qual : Str} {args : Arguments} {body : List Stmt} {scope : Scope} (F : FunD K x qual args body scope [] [] a fd) (S : FnScope f.N f.ps scope)
    (ck : ckSs ⟨f.N, scope, fun _ => true, gl, true⟩ f.body body = true) (room : Room (2 * n + 2) callerA) : TopOk Pr w K mg base (L2.CX Pr w) a fd f.ps (spT Z P fns n f) := by
  intro s H us vs Q E e0 hb rel hsp
  obtain ⟨m, h, ds, rs, rds, hl, hp⟩ := hsp
  obtain ⟨oc, od, dV, kV, doc, pm, an, cdv, ct, osl, rfl, lk, hcd, _, _⟩ := F.ex
  have KX : K.In s.heap := e0.mod.kin.keeps fun b o e => (e0.bs b o e).1
  have lim : s.heap.NoLimit := e0.mod.nolimit.keeps fun b o e => (e0.bs b o e).1
  refine codeAny_call_function room.depth (KX _ _ lk) rfl S.co S.gen rfl (PySem.W.codeRec_of KX hcd) (hb _ _ _ _ ?_)
  have kinds : ∀ y ∈ f.ps.zip us, scope.names.lookup y.1 = some .local ∨ (scope.names.lookup y.1 = some .cell ∧ ((cellsFrom (s.heap.objs.size + 1) scope.names []).lookup y.1).isSome = true) := by
    rintro ⟨y, v⟩ hy
    exact (S.par y (List.of_mem_zip hy).1).imp id fun q => ⟨q, PySem.W.cellsFrom_some _ _ _ (.inl q)⟩
  refine wpAny_newFunctionEnv_cells S.kind kinds fun env he s1 x1 => ?_
  subst he
  refine ⟨lim.keeps x1.toInCall.keep, codeAny_func ?_⟩
  have c := body_ok (Pr := Pr) (w := w) (base := base) (outer := []) (s := s) (H := H) (E := E) (A := callerA) t (fn_all t n) (f := f) (a := a) (qual := qual) (cdv := cdv) (room.deeper _) S true (fun _ => rfl)
  have I : Inv (cxOf (L2.CX Pr w) Pr w K mg base f.N qual scope a cdv callerA [] s H E) [] (L2.start f.N vs) H s1 := inv_start S room.hd e0 hl rel x1
  refine wpAny_mono ((sSs c (passes_of rfl) f.body ck).run [] s1 (L2.start f.N vs) H { nx := fun _ H' => Q .non H', rt := Q } I ⟨m, h, startD f.N ds, rs, rsl_start rds, fin_ok f.frz rfl rs _ hp⟩) (fun fl s' q => ?_) fun e s' q => q
  rcases fl with _ | _ | _ | u
  · obtain ⟨σ', H', J, q⟩ := q
    exact ⟨.non, H', J.os, J.bare, J.base, J.hok, rfl, q⟩
  · obtain ⟨_, _, _, q⟩ := q
    exact q.elim
  · obtain ⟨_, _, _, q⟩ := q
    exact q.elim
  · obtain ⟨v, σ', H', J, rv, q⟩ := q
    exact ⟨v, H', J.os, J.bare, J.base, J.hok, rv, q⟩
/-- from the law's value to its promise -/
theorem law_sp {H : Hp} {a : Addr} {ns : List Int} {n : Nat} {f : FnD} {p : Str} (hps : f.ps = [p]) (hS : SqL Z.K H a (ns.map V.int)) {h' : Hh} (val : fin f.frz [] (evSs P (run P fns n) f.body (startD f.N [.frl (ns.map .int)]) []) = .ok (.bl true) h') :
    spT Z P fns n f [.ref a] H (fun v _ => v = .bl true) fun _ _ _ => False := by
  have out : Out (⟨fun _ => none, fun _ => False⟩ : Mp) a := ⟨fun _ e => (by cases e), fun e => e⟩
  have rints : ∀ (l : List Int) (m : Mp), RVs Z m H (l.map D.int) (l.map V.int) := fun l m => rvs_map (fun i => .int i) l
  refine ⟨⟨fun _ => none, fun _ => False⟩, [], [.frl (ns.map .int)], ⟨fun k => ⟨fun ⟨_, e⟩ => (by cases e), fun e => (by cases e)⟩, fun _ _ _ e => (by cases e), fun _ _ e => (by cases e), fun _ _ _ e => (by cases e), fun _ _ _ e => (by cases e), fun _ _ _ _ e => (by cases e), fun _ e => e.elim⟩,
    .cons (.frl (hS.elim (fun q => .inl ⟨q, out⟩) .inr) (rints ns _)) .nil, by rw [hps]; rfl, ?_⟩
  rw [val]
  intro m' H' v x rs rv
  cases rv
  rfl
end
/-- from the head's facts to the law -/
theorem law_end {l : PySem.W.OpenLaw} (t : Tx) (rl : Row) {n lim : Nat} {p : Str} (hat : rl.at_ = (("law" : Str), none)) (hps : rl.f.ps = [p]) (hfits : t.fits = true) (hr : ∀ r ∈ t.rows, t.rowOk r = true) (hb : ∀ r ∈ t.rows, Tx.BindR r) (hbl : Tx.BindR rl)
    (hsc : C8.scC rl.f.N rl.f.ps (defScope rl.st) = true) (ck : ckSs ⟨rl.f.N, defScope rl.st, fun _ => true, t.gl, true⟩ rl.f.body (defBody rl.st) = true) (room : Room (2 * n + 2) callerA)
    (val : ∀ ns : List Int, ns.length ≤ lim → ∃ h', fin rl.f.frz [] (evSs t.pg (run t.pg t.fns n) rl.f.body (startD rl.f.N [.frl (ns.map .int)]) []) = .ok (.bl true) h')
    (w : World) (mg : Str → Option Value) (fa : Addr) (h : Heap) (Y : ∃ K : PySem.W.Frag, K.In h ∧ He.SaysD (.glo "law" :: t.need) (rl.d :: t.rows.map Row.d) K) (G : h.Ns mainGlobals mg) (hmg : mg ("law" : Str) = some (.ref fa)) :
    ∃ (K : PySem.W.Frag) (fd : FuncData) (sp : Sp), K.In h ∧ (∀ (s : Shared) (u : Value), BindsTo s fd ⟨[u], []⟩ [(p, u)]) ∧
      (∀ (H : Hp) (a : Addr) (ns : List Int), ns.length ≤ lim → Only H → SqL K H a (ns.map V.int) → sp [.ref a] H (fun v _ => v = .bl true) fun _ _ _ => False) ∧ ∀ base : Heap, K.In base → base.Ns mainGlobals mg → TopOk l.prog w K mg base (L2.CX l.prog w) fa fd [p] sp := by
  obtain ⟨K, KX, c⟩ := Y
  obtain ⟨fd, F⟩ := c.defs (d := rl.d) List.mem_cons_self
  have e := (He.glo_ok KX G (c.facts (f := .glo "law") List.mem_cons_self)).symm.trans hmg
  have ea : He.fAd K rl.d.at_ = fa := by
    show He.fAd K rl.at_ = fa
    rw [hat]
    cases e
    rfl
  rw [ea] at F
  have F' : FunD K rl.name rl.qual (defArgs rl.st) (defBody rl.st) (defScope rl.st) [] [] fa fd := F
  obtain ⟨fdo, T⟩ := t.txt KX G c (fun r hr => List.mem_cons_of_mem _ (List.mem_map_of_mem hr)) (fun f hf => List.mem_cons_of_mem _ hf) hfits hr hb
  refine ⟨K, fd, spT (t.zp K) t.pg t.fns n rl.f, KX, fun s u => ?_, fun H a ns hl _ hS => ?_, fun base KB GB => ?_⟩
  · have q := F'.bindsA hbl s [u] (by rw [hps]; rfl)
    rw [hps] at q
    exact q
  · obtain ⟨h', v⟩ := val ns hl
    exact law_sp hps hS v
  · obtain ⟨fdo', T'⟩ := t.txt KB GB c (fun r hr => List.mem_cons_of_mem _ (List.mem_map_of_mem hr)) (fun f hf => List.mem_cons_of_mem _ hf) hfits hr hb
    have q := top_ok (Pr := l.prog) (w := w) (base := base) T' F' (C8.fnScope_by hsc) ck room
    rw [hps] at q
    exact q
end Ev
set_option maxRecDepth 100000
namespace Ev
open PySem PySem.Spec L2
open PyProof.Rows hiding St
/-! ### looking at a def's value, step by step -/
section
variable {P : Pg} {cl : Cl} {s : Sl} {h : Hh}
theorem run_of {fns : Nat → Option FnD} {n i : Nat} {ds : List D} {f : FnD} {st : Sl} {b : Bool} {bd : Ss} (e : fns i = some f) (hl : ds.length = f.ps.length) (hs : startD f.N ds = st) (hb : f.frz = b) (hd : f.body = bd) : run P fns (n + 1) i ds h = fin b h (evSs P (run P fns n) bd st h) := by
  unfold run
  rw [e]
  simp only [hl, hs, hb, hd, if_true]
@[simp] theorem ap_seq {f g : SF} : seqS f g s h = (f s h).andThen g := (rfl)
@[simp] theorem ap_nil : nilS s h = .nx s h := (rfl)
@[simp] theorem ap_Ss_nil : evSs P cl .nil s h = .nx s h := (rfl)
@[simp] theorem ap_Ss_cons {x : S} {xs : Ss} : evSs P cl (.cons x xs) s h = (evS P cl x s h).andThen (evSs P cl xs) := (rfl)
@[simp] theorem ap_S_ex {e : E} : evS P cl (.ex e) s h = (evE P cl e s h).thenS s fun _ h1 => .nx s h1 := (rfl)
@[simp] theorem ap_S_ret {e : E} : evS P cl (.ret e) s h = (evE P cl e s h).thenS s fun d h1 => .rt d h1 := (rfl)
@[simp] theorem ap_S_ife {t : T} {a b : Ss} : evS P cl (.ife t a b) s h = (evT P cl t s h).thenS s fun c h1 => if c = true then evSs P cl a s h1 else evSs P cl b s h1 := (rfl)
@[simp] theorem ap_S_set {i : Nat} {e : E} : evS P cl (.set i e) s h = (evE P cl e s h).thenS s fun d h1 => .nx (s.set i (some d)) h1 := (rfl)
@[simp] theorem ap_S_setP {i : Nat} {f : F} : evS P cl (.setP i f) s h = (purE (evF P cl f) s h).thenS s fun d h1 => .nx (s.set i (some d)) h1 := (rfl)
@[simp] theorem ap_S_setN {i : Nat} {f : F} : evS P cl (.setN i f) s h = (newE (evF P cl f) s h).thenS s fun d h1 => .nx (s.set i (some d)) h1 := (rfl)
@[simp] theorem ap_S_asg {t : Tgt} {e : E} : evS P cl (.asg t e) s h = (evE P cl e s h).thenS s fun d h1 => match evTg P cl t d s h1 with
  | .ok s' h2 => .nx s' h2
  | _ => .stk := (rfl)
@[simp] theorem ap_S_par {is : List Nat} {es : Es} : evS P cl (.par is es) s h = (evEs P cl es s h).thenS s fun ds h1 => if ds.length = is.length then .nx (setAll is ds s) h1 else .stk := (rfl)
@[simp] theorem ap_S_for {it : It} {t : Tgt} {b : Ss} : evS P cl (.for it t b) s h = (evI P cl it s h).thenS s fun iv h1 => forL iv.gs (evTg P cl t) (evSs P cl b) iv.xs s h1 := (rfl)
@[simp] theorem ap_S_whl {t : T} {b : Ss} : evS P cl (.whl t b) s h = whileS (evT P cl t) (evSs P cl b) s h := (rfl)
@[simp] theorem ap_S_stk : evS P cl .stk s h = .stk := (rfl)
@[simp] theorem ap_S_pass : evS P cl .pass s h = .nx s h := (rfl)
@[simp] theorem ap_S_brk : evS P cl .brk s h = .bk s h := (rfl)
@[simp] theorem ap_S_aug {i : Nat} {e : E} : evS P cl (.aug i e) s h = augS i (evE P cl e) s h := (rfl)
@[simp] theorem ap_Tg_tg {t : Tg} {d : D} : evTg P cl (.tg t) d s h = opt (bindT t d s) h := (rfl)
@[simp] theorem ap_Tg_tup {ts : Tgts} {d : D} : evTg P cl (.tup ts) d s h = tupT ts.len (evTgs P cl ts) d s h := (rfl)
@[simp] theorem ap_tup_tup {n : Nat} {f : TFs} {ds : List D} : tupT n f (.tup ds) s h = if ds.length = n then f ds s h else .stk := (rfl)
@[simp] theorem ap_Tg_ix {o i : E} {d : D} : evTg P cl (.ix o i) d s h = (sure (evE P cl o s h)).bind fun x h1 => (sure (evE P cl i s h1)).bind fun y h2 => match setD h2 x y d with
  | some h3 => .ok s h3
  | none => .stk := (rfl)
@[simp] theorem ap_Tgs_nil : evTgs P cl .nil [] s h = .ok s h := (rfl)
@[simp] theorem ap_Tgs_cons {t : Tgt} {ts : Tgts} {d : D} {ds : List D} : evTgs P cl (.cons t ts) (d :: ds) s h = (sure (evTg P cl t d s h)).bind fun s1 h1 => evTgs P cl ts ds s1 h1 := (rfl)
@[simp] theorem ap_bind_n {i : Nat} {d : D} : bindT (.n i) d s = some (s.set i (some d)) := (rfl)
@[simp] theorem ap_bind_t {is : List Nat} {ds : List D} : bindT (.t is) (.tup ds) s = if ds.length = is.length then some (setAll is ds s) else none := (rfl)
@[simp] theorem ap_setAll_nil {s : Sl} {ds : List D} : setAll [] ds s = s := (rfl)
@[simp] theorem ap_setAll_cons {i : Nat} {is : List Nat} {d : D} {ds : List D} : setAll (i :: is) (d :: ds) s = setAll is ds (s.set i (some d)) := (rfl)
@[simp] theorem ap_sure_ok {α : Type} {a : α} : sure (R.ok a h) = .ok a h := (rfl)
@[simp] theorem ap_E_stk : evE P cl .stk s h = .stk := (rfl)
@[simp] theorem ap_E_c {d : D} : evE P cl (.c d) s h = .ok d h := (rfl)
theorem ap_E_v {i : Nat} : evE P cl (.v i) s h = match s[i]? with
  | some (some d) => .ok d h
  | _ => .stk := (rfl)
@[simp] theorem ap_E_v0 {d : D} {s : Sl} : evE P cl (.v 0) (some d :: s) h = .ok d h := (rfl)
@[simp] theorem ap_E_v1 {d : D} {x0 : Option D} {s : Sl} : evE P cl (.v 1) (x0 :: some d :: s) h = .ok d h := (rfl)
@[simp] theorem ap_E_v2 {d : D} {x0 x1 : Option D} {s : Sl} : evE P cl (.v 2) (x0 :: x1 :: some d :: s) h = .ok d h := (rfl)
@[simp] theorem ap_E_v3 {d : D} {x0 x1 x2 : Option D} {s : Sl} : evE P cl (.v 3) (x0 :: x1 :: x2 :: some d :: s) h = .ok d h := (rfl)
@[simp] theorem ap_E_v4 {d : D} {x0 x1 x2 x3 : Option D} {s : Sl} : evE P cl (.v 4) (x0 :: x1 :: x2 :: x3 :: some d :: s) h = .ok d h := (rfl)
@[simp] theorem ap_E_v5 {d : D} {x0 x1 x2 x3 x4 : Option D} {s : Sl} : evE P cl (.v 5) (x0 :: x1 :: x2 :: x3 :: x4 :: some d :: s) h = .ok d h := (rfl)
@[simp] theorem ap_E_v6 {d : D} {x0 x1 x2 x3 x4 x5 : Option D} {s : Sl} : evE P cl (.v 6) (x0 :: x1 :: x2 :: x3 :: x4 :: x5 :: some d :: s) h = .ok d h := (rfl)
@[simp] theorem ap_E_v7 {d : D} {x0 x1 x2 x3 x4 x5 x6 : Option D} {s : Sl} : evE P cl (.v 7) (x0 :: x1 :: x2 :: x3 :: x4 :: x5 :: x6 :: some d :: s) h = .ok d h := (rfl)
@[simp] theorem ap_E_v8 {d : D} {x0 x1 x2 x3 x4 x5 x6 x7 : Option D} {s : Sl} : evE P cl (.v 8) (x0 :: x1 :: x2 :: x3 :: x4 :: x5 :: x6 :: x7 :: some d :: s) h = .ok d h := (rfl)
@[simp] theorem ap_E_v9 {d : D} {x0 x1 x2 x3 x4 x5 x6 x7 x8 : Option D} {s : Sl} : evE P cl (.v 9) (x0 :: x1 :: x2 :: x3 :: x4 :: x5 :: x6 :: x7 :: x8 :: some d :: s) h = .ok d h := (rfl)
@[simp] theorem ap_E_v10 {d : D} {x0 x1 x2 x3 x4 x5 x6 x7 x8 x9 : Option D} {s : Sl} : evE P cl (.v 10) (x0 :: x1 :: x2 :: x3 :: x4 :: x5 :: x6 :: x7 :: x8 :: x9 :: some d :: s) h = .ok d h := (rfl)
@[simp] theorem ap_E_v11 {d : D} {x0 x1 x2 x3 x4 x5 x6 x7 x8 x9 x10 : Option D} {s : Sl} : evE P cl (.v 11) (x0 :: x1 :: x2 :: x3 :: x4 :: x5 :: x6 :: x7 :: x8 :: x9 :: x10 :: some d :: s) h = .ok d h := (rfl)
@[simp] theorem ap_E_v12 {d : D} {x0 x1 x2 x3 x4 x5 x6 x7 x8 x9 x10 x11 : Option D} {s : Sl} : evE P cl (.v 12) (x0 :: x1 :: x2 :: x3 :: x4 :: x5 :: x6 :: x7 :: x8 :: x9 :: x10 :: x11 :: some d :: s) h = .ok d h := (rfl)
@[simp] theorem ap_E_g {i : Nat} : evE P cl (.g i) s h = .ok (P.gv i) h := (rfl)
@[simp] theorem ap_E_tup {es : Es} : evE P cl (.tup es) s h = (evEs P cl es s h).bind fun ds h1 => opt (gd (lim ds.length) (.tup ds)) h1 := (rfl)
@[simp] theorem ap_E_pur {f : F} : evE P cl (.pur f) s h = purE (evF P cl f) s h := (rfl)
@[simp] theorem ap_E_new {f : F} : evE P cl (.new f) s h = newE (evF P cl f) s h := (rfl)
@[simp] theorem ap_E_alt {a b : E} : evE P cl (.alt a b) s h = altR (evE P cl a) (evE P cl b) s h := (rfl)
@[simp] theorem ap_E_bin {op : BO} {a b : E} : evE P cl (.bin op a b) s h = (evE P cl a s h).bind fun x h1 => (evE P cl b s h1).bind fun y h2 => opt (binD op h2 x y) h2 := (rfl)
@[simp] theorem ap_E_neg {a : E} : evE P cl (.neg a) s h = negE (evE P cl a) s h := (rfl)
@[simp] theorem ap_E_tst {t : T} : evE P cl (.tst t) s h = (evT P cl t s h).bind fun b h1 => .ok (.bl b) h1 := (rfl)
@[simp] theorem ap_E_and {a b : E} : evE P cl (.and a b) s h = (evE P cl a s h).bind fun x h1 => (opt (truD h1 x) h1).bind fun c h1 => if c = true then evE P cl b s h1 else .ok x h1 := (rfl)
@[simp] theorem ap_E_or {a b : E} : evE P cl (.or a b) s h = (evE P cl a s h).bind fun x h1 => (opt (truD h1 x) h1).bind fun c h1 => if c = true then .ok x h1 else evE P cl b s h1 := (rfl)
@[simp] theorem ap_E_ite {t : T} {a b : E} : evE P cl (.ite t a b) s h = (evT P cl t s h).bind fun c h1 => if c = true then evE P cl a s h1 else evE P cl b s h1 := (rfl)
@[simp] theorem ap_E_ix {a b : E} : evE P cl (.ix a b) s h = (evE P cl a s h).bind fun x h1 => (evE P cl b s h1).bind fun y h2 => opt (ixD h2 x y) h2 := (rfl)
@[simp] theorem ap_E_sl {a : E} {lo hi : O2} : evE P cl (.sl a lo hi) s h = (evE P cl a s h).bind fun x h1 => (evO P cl lo s h1).bind fun l h2 => (evO P cl hi s h2).bind fun u h3 => opt (slD h3 x l u) h3 := (rfl)
@[simp] theorem ap_E_blt {b : Bf} {es : Es} : evE P cl (.blt b es) s h = (evEs P cl es s h).bind fun ds h1 => opt (bltD b h1 ds) h1 := (rfl)
@[simp] theorem ap_E_call {i : Nat} {es : Es} : evE P cl (.call i es) s h = (evEs P cl es s h).bind fun ds h1 => cl i ds h1 := (rfl)
@[simp] theorem ap_E_bm {b : Bm} {o : E} {es : Es} : evE P cl (.bm b o es) s h = bmE b (evE P cl o) (evEs P cl es) s h := (rfl)
@[simp] theorem ap_E_isi {a : E} {ts : List Ty} : evE P cl (.isi a ts) s h = (evE P cl a s h).bind fun x h1 => opt ((tyN h1 x).map fun t => .bl (ts.any t.is)) h1 := (rfl)
@[simp] theorem ap_E_notv {a : E} : evE P cl (.notv a) s h = (evE P cl a s h).bind fun x h1 => (opt (truD h1 x) h1).bind fun b h1 => .ok (.bl (!b)) h1 := (rfl)
@[simp] theorem ap_E_rpr {a : E} : evE P cl (.rpr a) s h = (evE P cl a s h).bind fun x h1 => opt (reprD x) h1 := (rfl)
@[simp] theorem ap_Es_nil : evEs P cl .nil s h = .ok [] h := (rfl)
@[simp] theorem ap_Es_cons {e : E} {es : Es} : evEs P cl (.cons e es) s h = (evE P cl e s h).bind fun d h1 => (evEs P cl es s h1).bind fun ds h2 => .ok (d :: ds) h2 := (rfl)
@[simp] theorem ap_T_e {a : E} : evT P cl (.e a) s h = (evE P cl a s h).bind fun x h1 => opt (truD h1 x) h1 := (rfl)
@[simp] theorem ap_T_cmp {op : CO} {a b : E} : evT P cl (.cmp op a b) s h = (evE P cl a s h).bind fun x h1 => (evE P cl b s h1).bind fun y h2 => opt (cmpB op h2 x y) h2 := (rfl)
@[simp] theorem ap_T_chn {o o2 : CO} {a b c : E} : evT P cl (.chn o o2 a b c) s h = (evE P cl a s h).bind fun x h1 => (evE P cl b s h1).bind fun y h2 => (opt (cmpB o h2 x y) h2).bind fun q h2 => if q = true then (evE P cl c s h2).bind fun w h3 => opt (cmpB o2 h3 y w) h3 else .ok false h2 := (rfl)
@[simp] theorem ap_T_not {t : T} : evT P cl (.not t) s h = (evT P cl t s h).bind fun b h1 => .ok (!b) h1 := (rfl)
@[simp] theorem ap_T_and {a b : T} : evT P cl (.and a b) s h = (evT P cl a s h).bind fun c h1 => if c = true then evT P cl b s h1 else .ok false h1 := (rfl)
@[simp] theorem ap_T_or {a b : T} : evT P cl (.or a b) s h = (evT P cl a s h).bind fun c h1 => if c = true then .ok true h1 else evT P cl b s h1 := (rfl)
@[simp] theorem ap_O_no : evO P cl .no s h = .ok none h := (rfl)
@[simp] theorem ap_O_so {a : E} : evO P cl (.so a) s h = (evE P cl a s h).bind fun x h1 => match x with
  | .int i => .ok (some i) h1
  | _ => .stk := (rfl)
@[simp] theorem ap_F_lst {es : Es} : evF P cl (.lst es) s h = (evEs P cl es s h).bind fun ds h1 => if lim ds.length then .ok (.lst ds) h1 else .stk := (rfl)
@[simp] theorem ap_F_lof {a : E} : evF P cl (.lof a) s h = (evE P cl a s h).bind fun x h1 => opt ((sofD h1 x).map .lst) h1 := (rfl)
@[simp] theorem ap_F_cat {a b : E} : evF P cl (.cat a b) s h = (evE P cl a s h).bind fun x h1 => (evE P cl b s h1).bind fun y h2 => opt (catO h2 x y) h2 := (rfl)
@[simp] theorem ap_F_rep {a b : E} : evF P cl (.rep a b) s h = (evE P cl a s h).bind fun x h1 => (evE P cl b s h1).bind fun y h2 => opt (repO h2 x y) h2 := (rfl)
@[simp] theorem ap_F_sli {a : E} {lo hi : O2} : evF P cl (.sli a lo hi) s h = sliF (evE P cl a) (evO P cl lo) (evO P cl hi) s h := (rfl)
@[simp] theorem ap_F_spl {o : E} {es : Es} : evF P cl (.spl o es) s h = splF (evE P cl o) (evEs P cl es) s h := (rfl)
@[simp] theorem ap_F_comp {own : List Nat} {it : It} {tg : Tg} {c : T2} {e : E} : evF P cl (.comp own it tg c e) s h = (evI P cl it s h).bind fun iv h1 => (sure (compL iv.gs tg (evT2 P cl c) (evE P cl e) (wipeD s own) iv.xs h1)).bind fun ys h2 => if lim ys.length then .ok (.lst ys) h2 else .stk := (rfl)
@[simp] theorem ap_I_seq {a : E} : evI P cl (.seq a) s h = (evE P cl a s h).bind fun x h1 => opt (srcD h1 x) h1 := (rfl)
@[simp] theorem ap_I_rng1 {a : E} : evI P cl (.rng1 a) s h = (evE P cl a s h).bind fun x h1 => opt (rngO1 [x]) h1 := by
  show ((evE P cl a s h).bind fun d h1 => (R.ok [] h1).bind fun ds h2 => .ok (d :: ds) h2).bind _ = _
  cases evE P cl a s h <;> rfl
@[simp] theorem ap_I_rng2 {a b : E} : evI P cl (.rng2 a b) s h = (evE P cl a s h).bind fun x h1 => (evE P cl b s h1).bind fun y h2 => opt (rngO2 [x, y]) h2 := by
  show ((evE P cl a s h).bind fun d h1 => ((evE P cl b s h1).bind fun d h2 => (R.ok [] h2).bind fun ds h3 => .ok (d :: ds) h3).bind fun ds h2 => .ok (d :: ds) h2).bind _ = _
  cases evE P cl a s h with
  | ok x h1 => simp only [R.bind_ok]; cases evE P cl b s h1 <;> rfl
  | _ => rfl
@[simp] theorem ap_I_enu {a : E} : evI P cl (.enu a) s h = (evE P cl a s h).bind fun x h1 => opt (enuO h1 [x]) h1 := by
  show ((evE P cl a s h).bind fun d h1 => (R.ok [] h1).bind fun ds h2 => .ok (d :: ds) h2).bind _ = _
  cases evE P cl a s h <;> rfl
@[simp] theorem ap_I_zip {a b : E} : evI P cl (.zip a b) s h = (evE P cl a s h).bind fun x h1 => (evE P cl b s h1).bind fun y h2 => opt (zipO h2 [x, y]) h2 := by
  show ((evE P cl a s h).bind fun d h1 => ((evE P cl b s h1).bind fun d h2 => (R.ok [] h2).bind fun ds h3 => .ok (d :: ds) h3).bind fun ds h2 => .ok (d :: ds) h2).bind _ = _
  cases evE P cl a s h with
  | ok x h1 => simp only [R.bind_ok]; cases evE P cl b s h1 <;> rfl
  | _ => rfl
@[simp] theorem ap_I_str {a : E} : evI P cl (.str a) s h = strI (evE P cl a) s h := (rfl)
@[simp] theorem ap_T2_no : evT2 P cl .no s h = .ok true h := (rfl)
@[simp] theorem ap_T2_so {t : T} : evT2 P cl (.so t) s h = evT P cl t s h := (rfl)
@[simp] theorem fin_rt {h' : Hh} {d : D} : fin false h (.rt d h') = .ok d h' := by simp [fin, finD]
@[simp] theorem fin_nx {h' : Hh} {s' : Sl} : fin false h (.nx s' h') = .ok .non h' := by simp [fin, finD]
@[simp] theorem fin_ex {h' : Hh} {s' : Sl} {e : Ex} : fin false h (.ex e s' h') = .exc e h' := by simp [fin, finX]
@[simp] theorem ap_gd {c : Prop} [Decidable c] {d : D} : opt (gd c d) h = if c then .ok d h else .stk := by unfold gd; split <;> rfl
theorem lim_le {n : Nat} (q : n ≤ 16777216) : lim n := by show n ≤ sizeLine; rw [sizeLine_eq]; exact q
end
theorem gok_nil {h : Hh} : gok [] h := fun p hp => by cases hp
theorem compL_nil {gs : Gs} {tg : Tg} {cond : BF} {elt : EF} {s0 : Sl} {h : Hh} (g : gok gs h) : compL gs tg cond elt s0 [] h = .ok [] h := by
  unfold compL; exact if_pos g
theorem compL_cons {gs : Gs} {tg : Tg} {cond : BF} {elt : EF} {s0 : Sl} {h : Hh} {x : D} {xs : List D} (g : gok gs h) : compL gs tg cond elt s0 (x :: xs) h = match bindT tg x s0 with
    | some s1 => (cond s1 h).bind fun b h1 => if b = true then (elt s1 h1).bind fun y h2 => (compL gs tg cond elt s0 xs h2).bind fun ys h3 => .ok (y :: ys) h3 else compL gs tg cond elt s0 xs h1
    | none => .stk := by
  conv => lhs; unfold compL
  exact if_pos g
theorem forL_nil {gs : Gs} {t : TF} {b : SF} {s : Sl} {h : Hh} (g : gok gs h) : forL gs t b [] s h = .nx s h := by
  unfold forL; exact if_pos g
theorem forL_cons {gs : Gs} {t : TF} {b : SF} {s : Sl} {h : Hh} {x : D} {xs : List D} (g : gok gs h) : forL gs t b (x :: xs) s h = match t x s h with
    | .ok s1 h1 => match b s1 h1 with
      | .nx s2 h2 => forL gs t b xs s2 h2
      | .ct s2 h2 => forL gs t b xs s2 h2
      | .bk s2 h2 => .nx s2 h2
      | r => r
    | _ => .stk := by
  conv => lhs; unfold forL
  exact if_pos g
/-- a comprehension that leaves the heap: each part's value by f -/
theorem comp_map {α : Type} {tg : Tg} {cond : BF} {elt : EF} {s0 : Sl} {h : Hh} {inj f : α → D} : ∀ (xs : List α), (∀ x ∈ xs, ∃ s1, bindT tg (inj x) s0 = some s1 ∧ cond s1 h = .ok true h ∧ elt s1 h = .ok (f x) h) → compL [] tg cond elt s0 (xs.map inj) h = .ok (xs.map f) h
  | [], _ => compL_nil gok_nil
  | x :: xs, q => by
    obtain ⟨s1, q1, q2, q3⟩ := q x List.mem_cons_self
    have ih := comp_map (f := f) xs fun y hy => q y (List.mem_cons_of_mem _ hy)
    rw [List.map_cons, compL_cons gok_nil]
    simp only [q1, q2, R.bind_ok, if_true, q3, ih, List.map_cons]
/-- a loop that changes the slots and the heap by a fold with an invariant -/
theorem for_inv {α : Type} {t : TF} {b : SF} {inj : α → D} (I : List α → Sl → Hh → Prop) (hs : ∀ x xs s h, I (x :: xs) s h → ∃ s1 h1 s2 h2, t (inj x) s h = .ok s1 h1 ∧ (b s1 h1 = .nx s2 h2 ∨ b s1 h1 = .ct s2 h2) ∧ I xs s2 h2) :
    ∀ (xs : List α) (s : Sl) (h : Hh), I xs s h → ∃ s' h', forL [] t b (xs.map inj) s h = .nx s' h' ∧ I [] s' h'
  | [], s, h, i => ⟨s, h, forL_nil gok_nil, i⟩
  | x :: xs, s, h, i => by
    obtain ⟨s1, h1, s2, h2, e1, e2, i2⟩ := hs x xs s h i
    obtain ⟨s', h', e3, i3⟩ := for_inv I hs xs s2 h2 i2
    refine ⟨s', h', ?_, i3⟩
    rw [List.map_cons, forL_cons gok_nil]
    rcases e2 with e2 | e2 <;> simp only [e1, e2, e3]
def signO : D → Option Iv
  | .str z => some ⟨signL z.cps.toList, []⟩
  | _ => none
section
variable {h : Hh} {s : Sl}
@[simp] theorem ap_purE {f : Sl → Hh → R O} : purE f s h = (f s h).bind fun o h1 => match o with
  | .lst xs => .ok (.lst xs) h1
  | .dic kvs => .ok (.dic kvs) h1
  | .ins _ _ => .stk := (rfl)
@[simp] theorem ap_newE {f : Sl → Hh → R O} : newE f s h = (f s h).bind fun o h1 => .ok (.ref h1.length) (h1 ++ [o]) := (rfl)
@[simp] theorem ty_non : tyN h .non = some .non := (rfl)
@[simp] theorem ty_bl {i : Bool} : tyN h (.bl i) = some .bool := (rfl)
@[simp] theorem ty_int {i : Int} : tyN h (.int i) = some .int := (rfl)
@[simp] theorem ty_tup {i : List D} : tyN h (.tup i) = some .tup := (rfl)
@[simp] theorem ty_lst {i : List D} : tyN h (.lst i) = some .lst := (rfl)
@[simp] theorem ty_str {i : Str} : tyN h (.str i) = some .str := (rfl)
@[simp] theorem is_1 : Ty.is .int .int = true := (rfl)
@[simp] theorem is_2 : Ty.is .int .bool = false := (rfl)
@[simp] theorem is_3 : Ty.is .bool .int = true := (rfl)
@[simp] theorem is_4 : Ty.is .bool .bool = true := (rfl)
@[simp] theorem is_5 : Ty.is .tup .tup = true := (rfl)
@[simp] theorem is_6 : Ty.is .str .str = true := (rfl)
@[simp] theorem tru_bl {b : Bool} : truD h (.bl b) = some b := (rfl)
@[simp] theorem cmp_le {i j : Int} : cmpB .le h (.int i) (.int j) = some (decide (i ≤ j)) := (rfl)
@[simp] theorem cmp_lt {i j : Int} : cmpB .lt h (.int i) (.int j) = some (decide (i < j)) := (rfl)
@[simp] theorem cmp_ge {i j : Int} : cmpB .ge h (.int i) (.int j) = some (decide (j ≤ i)) := (rfl)
@[simp] theorem cmp_gt {i j : Int} : cmpB .gt h (.int i) (.int j) = some (decide (j < i)) := (rfl)
theorem shaped_int {i : Int} : SeqAt.shaped (.int i) = true := rfl
/-- signs that a text may hold -/
def asc (l : List Nat) : Prop := ∀ c ∈ l, c < 128
theorem shaped_str {i : List Nat} (a : asc i) : SeqAt.shaped (.str (SX.S i)) = true := by
  have e : PyData.strOk (SX.S i) = true := by
    unfold PyData.strOk
    rw [← Array.all_toList]
    refine List.all_eq_true.mpr fun c hc => ?_
    have := a c hc
    simp
    omega
  unfold SeqAt.shaped
  simp [PyData.canLay0, PyData.depth, e]
theorem eqD_ints (h : Hh) {i j : Int} : eqD h (.int i) (.int j) = some (decide (i = j)) := by
  have e : eqD h (.int i) (.int j) = if SeqAt.shaped (.int i) = true ∧ SeqAt.shaped (.int j) = true then some (PyData.eqv (.int i) (.int j)) else none := rfl
  rw [e, if_pos ⟨shaped_int, shaped_int⟩]
  simp only [PyData.eqv]
  rfl
theorem eqD_strs (h : Hh) {i j : List Nat} (a : asc i) (b : asc j) : eqD h (.str (SX.S i)) (.str (SX.S j)) = some (decide (i = j)) := by
  have e : eqD h (.str (SX.S i)) (.str (SX.S j)) = if SeqAt.shaped (.str (SX.S i)) = true ∧ SeqAt.shaped (.str (SX.S j)) = true then some (PyData.eqv (.str (SX.S i)) (.str (SX.S j))) else none := rfl
  rw [e, if_pos ⟨shaped_str a, shaped_str b⟩]
  simp only [PyData.eqv, SX.S_beq_eq]
@[simp] theorem cmp_eq {i j : Int} : cmpB .eq h (.int i) (.int j) = some (decide (i = j)) := eqD_ints h
@[simp] theorem cmp_ne {i j : Int} : cmpB .ne h (.int i) (.int j) = some (!decide (i = j)) := by
  have e : cmpB .ne h (.int i) (.int j) = (eqD h (.int i) (.int j)).map not := rfl
  rw [e, eqD_ints]; rfl
theorem cmp_eqS {i j : List Nat} (a : asc i) (b : asc j) : cmpB .eq h (.str (SX.S i)) (.str (SX.S j)) = some (decide (i = j)) := eqD_strs h a b
theorem cmp_neS {i j : List Nat} (a : asc i) (b : asc j) : cmpB .ne h (.str (SX.S i)) (.str (SX.S j)) = some (!decide (i = j)) := by
  have e : cmpB .ne h (.str (SX.S i)) (.str (SX.S j)) = (eqD h (.str (SX.S i)) (.str (SX.S j))).map not := rfl
  rw [e, eqD_strs h a b]; rfl
@[simp] theorem cmp_is_n : cmpB .is_ h .non .non = some true := (rfl)
@[simp] theorem cmp_is_i {i : Int} : cmpB .is_ h (.int i) .non = some false := (rfl)
@[simp] theorem cmp_is_t {i : List D} : cmpB .is_ h (.tup i) .non = some false := (rfl)
@[simp] theorem cmp_isn_n : cmpB .isn h .non .non = some false := (rfl)
@[simp] theorem cmp_isn_i {i : Int} : cmpB .isn h (.int i) .non = some true := (rfl)
@[simp] theorem cmp_isn_t {i : List D} : cmpB .isn h (.tup i) .non = some true := (rfl)
@[simp] theorem bin_addI {i j : Int} : binD .add h (.int i) (.int j) = some (.int (i + j)) := (rfl)
@[simp] theorem bin_subI {i j : Int} : binD .sub h (.int i) (.int j) = some (.int (i - j)) := (rfl)
@[simp] theorem bin_mulI {i j : Int} : binD .mul h (.int i) (.int j) = gd (mulOk i j) (.int (i * j)) := (rfl)
@[simp] theorem bin_fdivI {i j : Int} : binD .fdiv h (.int i) (.int j) = gd (divOk i j) (.int (i.fdiv j)) := (rfl)
@[simp] theorem bin_modI {i j : Int} : binD .mod h (.int i) (.int j) = gd (j ≠ 0) (.int (i.fmod j)) := (rfl)
@[simp] theorem bin_powI {i j : Int} : binD .pow h (.int i) (.int j) = gd (powOk i j) (.int (i ^ j.toNat)) := (rfl)
@[simp] theorem bin_addS {i j : List Nat} : binD .add h (.str (SX.S i)) (.str (SX.S j)) = gd (lim (i.length + j.length)) (.str (SX.S (i ++ j))) := by
  show gd (lim ((SX.S i).length + (SX.S j).length)) (.str (SX.S i ++ SX.S j)) = _
  rw [SX.S_len, SX.S_len, SX.S_cat]
@[simp] theorem bin_addT {i j : List D} : binD .add h (.tup i) (.tup j) = gd (lim (i.length + j.length)) (.tup (i ++ j)) := (rfl)
@[simp] theorem len_tup {i : List D} : bltD .len h [.tup i] = some (.int i.length) := (rfl)
@[simp] theorem len_lst {i : List D} : bltD .len h [.lst i] = some (.int i.length) := (rfl)
@[simp] theorem len_str {i : List Nat} : bltD .len h [.str (SX.S i)] = gd (lim i.length) (.int i.length) := by
  show gd (lim (SX.S i).length) (.int (SX.S i).length) = _
  rw [SX.S_len]
@[simp] theorem abs_int {i : Int} : bltD .abs h [.int i] = some (.int (if i < 0 then -i else i)) := (rfl)
@[simp] theorem int_int {i : Int} : bltD .int h [.int i] = some (.int i) := (rfl)
@[simp] theorem min_ints {i j : Int} : bltD .min2 h [.int i, .int j] = some (.int (if j < i then j else i)) := (rfl)
@[simp] theorem str_nat {n : Nat} : bltD .str h [.int n] = gd (n.log2 < 1920) (.str (SX.S (TL.numL n))) := by
  show gd ((n : Int).natAbs.log2 < 1920) (.str (toString ((n : Nat) : Int))) = _
  rw [← SX.num_S]
  rfl
@[simp] theorem tuple_lst {i : List D} : bltD .tuple h [.lst i] = some (.tup i) := (rfl)
@[simp] theorem tuple_tup {i : List D} : bltD .tuple h [.tup i] = some (.tup i) := (rfl)
@[simp] theorem src_tup {i : List D} : srcD h (.tup i) = some ⟨i, []⟩ := (rfl)
@[simp] theorem src_lst {i : List D} : srcD h (.lst i) = some ⟨i, []⟩ := (rfl)
@[simp] theorem src_frl {i : List D} (hh : Hh) : sofD hh (.frl i) = none := (rfl)
@[simp] theorem enu_tup {i : List D} : enuO h [.tup i] = some ⟨enumL 0 i, []⟩ := (rfl)
@[simp] theorem enu_lst {i : List D} : enuO h [.lst i] = some ⟨enumL 0 i, []⟩ := (rfl)
@[simp] theorem zip_tup {i j : List D} : zipO h [.tup i, .tup j] = some ⟨zipL i j, []⟩ := (rfl)
theorem asAll_map {α : Type} {f : D → Option α} {g : α → D} (hf : ∀ a, f (g a) = some a) : ∀ l : List α, asAll f (l.map g) = some l
  | [] => rfl
  | a :: l => by
    show (match f (g a), asAll f (l.map g) with
      | some a, some as => some (a :: as)
      | _, _ => none) = _
    rw [hf, asAll_map hf l]
@[simp] theorem all_bls {l : List Bool} : bltD .all h [.lst (l.map .bl)] = some (.bl (l.all id)) := by
  show ((asAll asB (l.map D.bl)).map _) = _
  rw [asAll_map (f := asB) (g := D.bl) (fun _ => rfl)]; rfl
@[simp] theorem sum_lst {l : List Int} : bltD .sum h [.lst (l.map .int)] = some (.int l.sum) := by
  show ((asAll asI (l.map D.int)).map _) = _
  rw [asAll_map (f := asI) (g := D.int) (fun _ => rfl)]; rfl
@[simp] theorem sum_tup {l : List Int} : bltD .sum h [.tup (l.map .int)] = some (.int l.sum) := by
  show ((asAll asI (l.map D.int)).map _) = _
  rw [asAll_map (f := asI) (g := D.int) (fun _ => rfl)]; rfl
@[simp] theorem ix_tup0 {x : D} {xs : List D} : ixD h (.tup (x :: xs)) (.int 0) = some x := by
  show atI (x :: xs) 0 = _
  simp [atI, ixN]
@[simp] theorem ix_tup1 {x y : D} {xs : List D} : ixD h (.tup (x :: y :: xs)) (.int 1) = some y := by
  show atI (x :: y :: xs) 1 = _
  have : (1 : Int) < ((x :: y :: xs).length : Nat) := by simp only [List.length_cons]; omega
  simp only [atI, ixN, this]; rfl
@[simp] theorem ap_wipe_nil : wipeD s [] = s := (rfl)
@[simp] theorem ap_wipe_cons {i : Nat} {is : List Nat} : wipeD s (i :: is) = (wipeD s is).set i none := (rfl)
@[simp] theorem cmp_in_S {c : Nat} {l : List Nat} : cmpB .in_ h (.str (SX.S [c])) (.str (SX.S l)) = some (decide (c ∈ l)) := by
  show some (!(Builtin.Str.occurrences (SX.S l) (SX.S [c]) 0 (SX.S l).length 1).isEmpty) = _
  rw [SX.in_one]
@[simp] theorem ap_strI {f : EF} : strI f s h = (f s h).bind fun x h1 => opt (signO x) h1 := by
  unfold strI
  cases f s h with
  | ok x h1 => cases x <;> rfl
  | _ => rfl
@[simp] theorem signO_S {l : List Nat} : signO (.str (SX.S l)) = some ⟨signL l, []⟩ := (rfl)
end
end Ev
set_option maxRecDepth 100000
namespace Ev
open PySem PySem.Spec L2
open PyProof.Rows hiding St
/-! ### texts as lists of signs -/
def sD (l : List Nat) : D := .str (SX.S l)
theorem signL_map : ∀ l : List Nat, signL l = l.map fun c => sD [c]
  | [] => rfl
  | c :: r => by
    show D.str ⟨#[c]⟩ :: signL r = _
    rw [signL_map r]; rfl
theorem numL_asc (k : Nat) : asc (TL.numL k) := fun c hc => by
  have := TL.numL_digits k c hc
  omega
theorem asc_app {a b : List Nat} (ha : asc a) (hb : asc b) : asc (a ++ b) := fun c hc => (List.mem_append.mp hc).elim (ha c) (hb c)
theorem asc_join {s : List Nat} (hs : asc s) : ∀ {l : List (List Nat)}, (∀ p ∈ l, asc p) → asc (TL.joinL s l)
  | [], _ => fun c hc => by cases hc
  | [p], h => by
    show asc p
    exact h p List.mem_cons_self
  | p :: q :: r, h => by
    show asc (p ++ (s ++ TL.joinL s (q :: r)))
    exact asc_app (h p List.mem_cons_self) (asc_app hs (asc_join hs fun x hx => h x (List.mem_cons_of_mem _ hx)))
theorem numL_head : ∀ k : Nat, 1 ≤ k → ∃ c r, TL.numL k = c :: r ∧ c ≠ 48 := by
  intro k
  induction k using Nat.strongRecOn with
  | ind k ih =>
    intro h
    by_cases hk : k < 10
    · exact ⟨48 + k, [], TL.numL_lt hk, by omega⟩
    · obtain ⟨c, r, e, hc⟩ := ih (k / 10) (by omega) (by omega)
      exact ⟨c, r ++ [48 + k % 10], by rw [TL.numL_step (by omega), e]; rfl, hc⟩
section
variable {h : Hh} {s : Sl}
theorem ix_str0 {c : Nat} {l : List Nat} (q : (c :: l).length ≤ 16777216) : ixD h (.str (SX.S (c :: l))) (.int 0) = some (.str (SX.S [c])) := by
  show (if lim (SX.S (c :: l)).length then (atI (c :: l) 0).map (fun c => D.str ⟨#[c]⟩) else none) = _
  rw [SX.S_len, if_pos (lim_le q)]
  simp [atI, ixN]
theorem int_num (h : Hh) {k : Nat} (q : (TL.numL k).length ≤ 640) : bltD .int h [.str (SX.S (TL.numL k))] = some (.int k) := by
  show (match PySem.intText? (SX.S (TL.numL k)) with
    | some n => gd ((SX.S (TL.numL k)).length ≤ 640) (.int n)
    | none => none) = _
  rw [← SX.num_S, TL.int_num (by omega)]
  simp only
  rw [SX.num_S, SX.S_len]
  exact if_pos q
@[simp] theorem ap_splF {f : EF} {g : LF} : splF f g s h = (f s h).bind fun x h1 => if (asS x).isSome = true then (g s h1).bind fun ds h2 => opt (splO x ds) h2 else .stk := (rfl)
@[simp] theorem asS_str {x : Str} : asS (.str x) = some x := (rfl)
theorem splO_S {a b : List Nat} (hb : b ≠ []) (hk : b.all (· < 256) = true) (ha : a.length ≤ 16777214) : splO (.str (SX.S a)) [.str (SX.S b)] = some (.lst ((TL.spl b 0 [] a).map sD)) := by
  show (if ((SX.S b).length == 0) = false ∧ (SX.S a).length + 2 ≤ sizeLine then some (O.lst ((Txt.split (SX.S a) (SX.S b)).map .str)) else none) = _
  rw [SX.S_len, SX.S_len, if_pos, SX.split_S hb hk, List.map_map]
  · rfl
  · refine ⟨?_, by rw [sizeLine_eq]; omega⟩
    cases b with
    | nil => exact absurd rfl hb
    | cons _ _ => rfl
@[simp] theorem ap_bmE {b : Bm} {f : EF} {g : LF} : bmE b f g s h = (f s h).bind fun x h1 => if tyB b h1 x = true then (g s h1).bind fun ds h2 => noX (meD b h2 x ds) else .stk := (rfl)
theorem asAll_S : ∀ ls : List (List Nat), asAll asS (ls.map sD) = some (ls.map SX.S)
  | [] => rfl
  | l :: ls => by
    rw [List.map_cons, List.map_cons]
    unfold asAll
    rw [asAll_S ls]; rfl
@[simp] theorem tyB_join {x : Str} : tyB .join h (.str x) = true := (rfl)
theorem join_S {a : List Nat} {ls : List (List Nat)} (q : (ls.map List.length).sum + ls.length * a.length ≤ 16777216) : noX (meD .join h (.str (SX.S a)) [.lst (ls.map sD)]) = .ok (.str (SX.S (TL.joinL a ls))) h := by
  have e : meD .join h (.str (SX.S a)) [.lst (ls.map sD)] = opt (glue (SX.S a) (ls.map SX.S)) h := by
    show (match (D.str (SX.S a)), strsOf h (.lst (ls.map sD)) with
      | .str a, some ys => opt (glue a ys) h
      | _, _ => R.stk) = _
    have : strsOf h (.lst (ls.map sD)) = some (ls.map SX.S) := asAll_S ls
    rw [this]
  rw [e]
  unfold glue
  rw [SX.join_S]
  unfold gd
  rw [if_pos]
  · rfl
  · rw [SX.lens, SX.S_len, List.length_map]; exact q
end
end Ev
set_option maxRecDepth 100000
namespace Ev
open PySem PySem.Spec L2
open PyProof.Rows hiding St
/-! ### a list of a def's own, at the heap's end -/
theorem fzD_id (rec : D → Option D) (h : Hh) (k : Nat) : ∀ d : D, d.lo k = true → fzD rec h k d = some d := by
  let M1 (d : D) : Prop := d.lo k = true → fzD rec h k d = some d
  let M2 (ds : List D) : Prop := D.los k ds = true → fzDs rec h k ds = some ds
  let M3 (ds : List (Key × D)) : Prop := D.lok k ds = true → fzDk rec h k ds = some ds
  let M4 (p : Key × D) : Prop := M1 p.2
  refine fun d => D.rec (motive_1 := M1) (motive_2 := M2) (motive_3 := M3) (motive_4 := M4) ?_ ?_ ?_ ?_ ?_ ?_ ?_ ?_ ?_ ?_ ?_ ?_ ?_ ?_ ?_ ?_ ?_ d
  · intro _; unfold fzD; rfl
  · intro b _; unfold fzD; rfl
  · intro b _; unfold fzD; rfl
  · intro b _; unfold fzD; rfl
  · intro b _; unfold fzD; rfl
  · intro xs ih q; unfold fzD; rw [ih (by simpa only [D.lo] using q)]; rfl
  · intro xs ih q; unfold fzD; rw [ih (by simpa only [D.lo] using q)]; rfl
  · intro xs ih q; unfold fzD; rw [ih (by simpa only [D.lo] using q)]; rfl
  · intro xs ih q; unfold fzD; rw [ih (by simpa only [D.lo] using q)]; rfl
  · intro n q
    unfold fzD
    rw [if_pos (of_decide_eq_true (by simpa only [D.lo] using q))]
  · intro b _; unfold fzD; rfl
  · intro b _; unfold fzD; rfl
  · intro _; unfold fzDs; rfl
  · intro d ds i1 i2 q
    obtain ⟨q1, q2⟩ := and2 (show (d.lo k && D.los k ds) = true by simpa only [D.los] using q)
    unfold fzDs
    rw [i1 q1, i2 q2]
  · intro _; unfold fzDk; rfl
  · rintro ⟨x, d⟩ ds i1 i2 q
    obtain ⟨q1, q2⟩ := and2 (show (d.lo k && D.lok k ds) = true by simpa only [D.lok] using q)
    unfold fzDk
    rw [i1 q1, i2 q2]
  · intro x d i; exact i
theorem fz_id {h : Hh} {k : Nat} {d : D} (q : d.lo k = true) : ∀ n, fz h k n d = some d
  | 0 => fzD_id _ h k d q
  | n + 1 => fzD_id _ h k d q
theorem fin_app {h g : Hh} {d : D} (q : d.lo h.length = true) : finD true h d (h ++ g) = .ok d h := by
  unfold finD
  rw [if_pos rfl, if_pos, fz_id q]
  · simp
  · intro n hn
    exact .inl (List.getElem?_append_left hn)
theorem fin_rt_app {h g : Hh} {d : D} (q : d.lo h.length = true) : fin true h (.rt d (h ++ g)) = .ok d h := fin_app q
@[simp] theorem lo_non {k : Nat} : D.lo k .non = true := by simp only [D.lo]
@[simp] theorem lo_int {k : Nat} {i : Int} : D.lo k (.int i) = true := by simp only [D.lo]
@[simp] theorem lo_bl {k : Nat} {i : Bool} : D.lo k (.bl i) = true := by simp only [D.lo]
@[simp] theorem lo_str {k : Nat} {i : Str} : D.lo k (.str i) = true := by simp only [D.lo]
@[simp] theorem lo_tup {k : Nat} {i : List D} : D.lo k (.tup i) = D.los k i := by simp only [D.lo]
@[simp] theorem lo_lst {k : Nat} {i : List D} : D.lo k (.lst i) = D.los k i := by simp only [D.lo]
@[simp] theorem lo_nil {k : Nat} : D.los k [] = true := by simp only [D.los]
@[simp] theorem lo_cons {k : Nat} {d : D} {i : List D} : D.los k (d :: i) = (d.lo k && D.los k i) := by simp only [D.los]
theorem los_map {α : Type} {k : Nat} {f : α → D} : ∀ {l : List α}, (∀ x ∈ l, (f x).lo k = true) → D.los k (l.map f) = true
  | [], _ => by simp
  | a :: l, q => by
    rw [List.map_cons, lo_cons, q a List.mem_cons_self, los_map fun x hx => q x (List.mem_cons_of_mem _ hx)]; rfl
section
variable {h g : Hh} {xs : List D} {y : D}
@[simp] theorem get_end {o : O} : (h ++ [o])[h.length]? = some o := List.getElem?_concat_length
@[simp] theorem set_end {o o' : O} : (h ++ [o]).set h.length o' = h ++ [o'] := by
  rw [List.set_append_right _ _ (Nat.le_refl _), Nat.sub_self]; rfl
@[simp] theorem refL_end : refL (h ++ [.lst xs]) (.ref h.length) = some (h.length, xs) := by
  unfold refL
  simp only [get_end]
@[simp] theorem lofD_end : lofD (h ++ [.lst xs]) (.ref h.length) = some xs := by
  unfold lofD
  simp only [get_end]
@[simp] theorem srcD_end : srcD (h ++ [.lst xs]) (.ref h.length) = some ⟨xs, [(h.length, xs)]⟩ := by
  unfold srcD
  simp only [get_end]
theorem gok_end : gok [(h.length, xs)] (h ++ [O.lst xs]) := fun p hp => by
  cases List.mem_singleton.mp hp
  exact get_end
@[simp] theorem tyB_append : tyB .append (h ++ [.lst xs]) (.ref h.length) = true := by
  show (lofD (h ++ [.lst xs]) (.ref h.length)).isSome = true
  rw [lofD_end]; rfl
theorem append_end (q : xs.length < 16777216) : noX (meD .append (h ++ [.lst xs]) (.ref h.length) [y]) = .ok .non (h ++ [.lst (xs ++ [y])]) := by
  have e : meD .append (h ++ [.lst xs]) (.ref h.length) [y] = if xs.length < sizeLine then .ok .non ((h ++ [O.lst xs]).set h.length (.lst (xs ++ [y]))) else .stk := by
    unfold meD
    simp only [refL_end]
  rw [e, if_pos (by rw [sizeLine_eq]; exact q), set_end]; rfl
@[simp] theorem tuple_end : bltD .tuple (h ++ [.lst xs]) [.ref h.length] = some (.tup xs) := by
  show (sofD (h ++ [.lst xs]) (.ref h.length)).map D.tup = _
  have : sofD (h ++ [.lst xs]) (.ref h.length) = some xs := lofD_end
  rw [this]; rfl
@[simp] theorem ix_lst0 {x : D} {l : List D} : ixD h (.lst (x :: l)) (.int 0) = some x := by
  show atI (x :: l) 0 = _
  simp [atI, ixN]
@[simp] theorem ix_lst1 {x y : D} {l : List D} : ixD h (.lst (x :: y :: l)) (.int 1) = some y := by
  show atI (x :: y :: l) 1 = _
  have : (1 : Int) < ((x :: y :: l).length : Nat) := by simp only [List.length_cons]; omega
  simp only [atI, ixN, this]; rfl
@[simp] theorem ix_lst2 {x y z : D} {l : List D} : ixD h (.lst (x :: y :: z :: l)) (.int 2) = some z := by
  show atI (x :: y :: z :: l) 2 = _
  have : (2 : Int) < ((x :: y :: z :: l).length : Nat) := by simp only [List.length_cons]; omega
  simp only [atI, ixN, this]; rfl
@[simp] theorem ix_lst_last {x : D} {l : List D} : ixD h (.lst (l ++ [x])) (.int (-1)) = some x := by
  show atI (l ++ [x]) (-1) = _
  unfold atI ixN
  rw [if_neg (by decide), if_pos (by simp; omega)]
  have : (-1 + ((l ++ [x]).length : Int)).toNat = l.length := by simp; omega
  rw [Option.bind_some, this]
  exact List.getElem?_concat_length
theorem cut_init {x : D} {l : List D} : cutD (l ++ [x]) none (some (-1)) = l := by
  unfold cutD HT.sIx
  simp
  rw [List.take_append_of_le_length (by omega), List.take_of_length_le (by omega)]
@[simp] theorem ap_sliF {s : Sl} {f : EF} {lo hi : OF} : sliF f lo hi s h = (f s h).bind fun x h1 => (lo s h1).bind fun l h2 => (hi s h2).bind fun u h3 => opt ((lofD h3 x).map fun xs => .lst (cutD xs l u)) h3 := (rfl)
@[simp] theorem lofD_lst : lofD h (.lst xs) = some xs := (rfl)
@[simp] theorem ap_negE {s : Sl} {i : Int} {f : EF} (e : f s h = .ok (.int i) h) : negE f s h = .ok (.int (-i)) h := by
  unfold negE
  rw [e]; rfl
end
/-- a comprehension that leaves the heap, over a list that stands still -/
theorem comp_mapG {α : Type} {gs : Gs} {tg : Tg} {cond : BF} {elt : EF} {s0 : Sl} {h : Hh} {inj f : α → D} (g : gok gs h) : ∀ (xs : List α), (∀ x ∈ xs, ∃ s1, bindT tg (inj x) s0 = some s1 ∧ cond s1 h = .ok true h ∧ elt s1 h = .ok (f x) h) → compL gs tg cond elt s0 (xs.map inj) h = .ok (xs.map f) h
  | [], _ => compL_nil g
  | x :: xs, q => by
    obtain ⟨s1, q1, q2, q3⟩ := q x List.mem_cons_self
    have ih := comp_mapG (f := f) g xs fun y hy => q y (List.mem_cons_of_mem _ hy)
    rw [List.map_cons, compL_cons g]
    simp only [q1, q2, R.bind_ok, if_true, q3, ih, List.map_cons]
/-! ### None among values -/
theorem in_none {h : Hh} {ds : List D} {ps : List PyData} (e : pyDs ds = some ps) (sh : SeqAt.shaped (.tuple ps) = true) (nn : ∀ p ∈ ps, PyData.eqv p .none = false) : cmpB .in_ h .non (.tup ds) = some false := by
  have e1 : pyH h (.tup ds) = some (.tuple ps) := by
    show (pyDs ds).map PyData.tuple = _
    rw [e]; rfl
  have e2 : cmpB .in_ h .non (.tup ds) = if SeqAt.shaped .none = true ∧ SeqAt.shaped (.tuple ps) = true then some (inSeq .none ps) else none := by
    show (match pyD .non, pyH h (.tup ds) with
      | some a, some (.list bs) => if SeqAt.shaped a = true ∧ SeqAt.shaped (.list bs) = true then some (inSeq a bs) else none
      | some a, some (.tuple bs) => if SeqAt.shaped a = true ∧ SeqAt.shaped (.tuple bs) = true then some (inSeq a bs) else none
      | _, _ => none) = _
    rw [e1]; rfl
  rw [e2, if_pos ⟨rfl, sh⟩]
  congr 1
  unfold inSeq
  rw [List.any_eq_false]
  intro p hp
  rw [nn p hp]; simp
theorem ite_lim {α : Type} {n : Nat} {a b : α} (q : n ≤ 16777216) : (if lim n then a else b) = a := if_pos (lim_le q)
theorem ite_log {α : Type} {n : Nat} {a b : α} (q : n < 2 ^ 60) : (if n.log2 < 1920 then a else b) = a := if_pos (by
  rcases Nat.eq_zero_or_pos n with z | z
  · subst z; decide
  · have : n.log2 < 60 := (Nat.log2_lt (by omega)).mpr q
    omega)
end Ev
set_option maxRecDepth 100000
namespace Ev
open PySem PySem.Spec L2
open PyProof.Rows hiding St
/-! ### the laws' hand: what the script still gives -/
structure Hd where
  cells : List Int
  at_ : Nat
  left : Int
  st : Int
  turn : Int
def Hd.o (x : Hd) : O := .lst [.lst (x.cells.map .int), .int x.at_, .int x.left, .int x.st, .int x.turn]
section
variable {x : Hd} {g : Hh}
theorem lofD_h : lofD (x.o :: g) (.ref 0) = some [.lst (x.cells.map .int), .int x.at_, .int x.left, .int x.st, .int x.turn] := rfl
@[simp] theorem ix_h0 : ixD (x.o :: g) (.ref 0) (.int 0) = some (.lst (x.cells.map .int)) := (rfl)
@[simp] theorem ix_h1 : ixD (x.o :: g) (.ref 0) (.int 1) = some (.int x.at_) := (rfl)
@[simp] theorem ix_h2 : ixD (x.o :: g) (.ref 0) (.int 2) = some (.int x.left) := (rfl)
@[simp] theorem ix_h3 : ixD (x.o :: g) (.ref 0) (.int 3) = some (.int x.st) := (rfl)
@[simp] theorem ix_h4 : ixD (x.o :: g) (.ref 0) (.int 4) = some (.int x.turn) := (rfl)
@[simp] theorem set_h1 {v : Nat} : setD (x.o :: g) (.ref 0) (.int 1) (.int v) = some ({ x with at_ := v }.o :: g) := (rfl)
@[simp] theorem set_h1s : setD (x.o :: g) (.ref 0) (.int 1) (.int ((x.at_ : Int) + 1)) = some ({ x with at_ := x.at_ + 1 }.o :: g) := set_h1 (v := x.at_ + 1)
@[simp] theorem set_h2 {v : Int} : setD (x.o :: g) (.ref 0) (.int 2) (.int v) = some ({ x with left := v }.o :: g) := (rfl)
@[simp] theorem set_h3 {v : Int} : setD (x.o :: g) (.ref 0) (.int 3) (.int v) = some ({ x with st := v }.o :: g) := (rfl)
@[simp] theorem set_h4 {v : Int} : setD (x.o :: g) (.ref 0) (.int 4) (.int v) = some ({ x with turn := v }.o :: g) := (rfl)
theorem ix_lst_at {h : Hh} {l : List D} {i : Nat} {d : D} (e : l[i]? = some d) : ixD h (.lst l) (.int i) = some d := by
  show atI l i = _
  have hl := (List.getElem?_eq_some_iff.mp e).1
  unfold atI ixN
  rw [if_pos (by omega), if_pos (by omega)]
  simpa using e
theorem ix_tup_at {h : Hh} {l : List D} {i : Nat} {d : D} (e : l[i]? = some d) : ixD h (.tup l) (.int i) = some d := by
  show atI l i = _
  have hl := (List.getElem?_eq_some_iff.mp e).1
  unfold atI ixN
  rw [if_pos (by omega), if_pos (by omega)]
  simpa using e
end
theorem mul_r {i j : Int} (h : -(2 ^ 64) < j ∧ j < 2 ^ 64) : mulOk i j := .inl (.inr h)
theorem mul_l {i j : Int} (h : -(2 ^ 64) < i ∧ i < 2 ^ 64) : mulOk i j := .inl (.inl h)
theorem div_small {i j : Int} (h : 0 < j) (h2 : j < 2 ^ 60) : divOk i j := by
  refine ⟨by omega, ?_⟩
  have : j.natAbs.log2 < 60 := (Nat.log2_lt (by omega)).mpr (by omega)
  omega
theorem ite_mulR {α : Type} {i j : Int} {a b : α} (h : -(2 ^ 64) < j ∧ j < 2 ^ 64) : (if mulOk i j then a else b) = a := if_pos (mul_r h)
theorem ite_mulL {α : Type} {i j : Int} {a b : α} (h : -(2 ^ 64) < i ∧ i < 2 ^ 64) : (if mulOk i j then a else b) = a := if_pos (mul_l h)
theorem ite_div {α : Type} {i j : Int} {a b : α} (h : 0 < j ∧ j < 2 ^ 60) : (if divOk i j then a else b) = a := if_pos (div_small h.1 h.2)
/-- a hand that stands right -/
def Hd.Ok (x : Hd) : Prop := x.at_ ≤ x.cells.length
end Ev
set_option maxRecDepth 100000
namespace Ev
open PySem PySem.Spec L2
open PyProof.Rows hiding St
/-! ### a list of a def's own behind the hand -/
section
variable {o : O} {g : Hh} {l : List D}
theorem get_t : (o :: (g ++ [O.lst l]))[g.length + 1]? = some (.lst l) := by
  rw [List.getElem?_cons_succ]; exact List.getElem?_concat_length
theorem lof_t : lofD (o :: (g ++ [O.lst l])) (.ref (g.length + 1)) = some l := by
  unfold lofD
  simp only [get_t]
theorem refL_t : refL (o :: (g ++ [O.lst l])) (.ref (g.length + 1)) = some (g.length + 1, l) := by
  unfold refL
  simp only [get_t]
theorem ix_t {i : Nat} {d : D} (e : l[i]? = some d) : ixD (o :: (g ++ [O.lst l])) (.ref (g.length + 1)) (.int i) = some d := by
  show (match sofD (o :: (g ++ [O.lst l])) (.ref (g.length + 1)) with
    | some xs => atI xs i
    | none => none) = _
  rw [show sofD (o :: (g ++ [O.lst l])) (.ref (g.length + 1)) = some l from lof_t]
  have hl := (List.getElem?_eq_some_iff.mp e).1
  show atI l i = _
  unfold atI ixN
  rw [if_pos (by omega), if_pos (by omega)]
  simpa using e
theorem set_t {i : Nat} {d : D} (hi : i < l.length) : setD (o :: (g ++ [O.lst l])) (.ref (g.length + 1)) (.int i) d = some (o :: (g ++ [O.lst (l.set i d)])) := by
  unfold setD
  simp only [refL_t]
  have : ixN l.length (i : Int) = some i := by
    unfold ixN
    rw [if_pos (by omega), if_pos (by omega)]; simp
  rw [this]
  show some ((o :: (g ++ [O.lst l])).set (g.length + 1) _) = _
  rw [List.set_cons_succ, List.set_append_right _ _ (Nat.le_refl _), Nat.sub_self]; rfl
@[simp] theorem tuple_t : bltD .tuple (o :: (g ++ [O.lst l])) [.ref (g.length + 1)] = some (.tup l) := by
  show (sofD (o :: (g ++ [O.lst l])) (.ref (g.length + 1))).map D.tup = _
  rw [show sofD (o :: (g ++ [O.lst l])) (.ref (g.length + 1)) = some l from lof_t]; rfl
@[simp] theorem tyB_append_t : tyB .append (o :: (g ++ [O.lst l])) (.ref (g.length + 1)) = true := by
  show (lofD (o :: (g ++ [O.lst l])) (.ref (g.length + 1))).isSome = true
  rw [lof_t]; rfl
theorem append_t {y : D} (q : l.length < 16777216) : noX (meD .append (o :: (g ++ [O.lst l])) (.ref (g.length + 1)) [y]) = .ok .non (o :: (g ++ [O.lst (l ++ [y])])) := by
  unfold meD
  simp only [refL_t]
  rw [if_pos (by rw [sizeLine_eq]; exact q)]
  show R.ok D.non ((o :: (g ++ [O.lst l])).set (g.length + 1) _) = _
  rw [List.set_cons_succ, List.set_append_right _ _ (Nat.le_refl _), Nat.sub_self]; rfl
end
theorem rngL_map : ∀ (n : Nat) (lo : Nat), rngL lo n = (List.range' lo n).map fun i => .int (i : Nat)
  | 0, _ => rfl
  | n + 1, lo => by
    have := rngL_map n (lo + 1)
    show D.int lo :: rngL ((lo : Int) + 1) n = _
    rw [show ((lo : Int) + 1) = ((lo + 1 : Nat) : Int) by omega, this]
    rfl
theorem rng1_nat {n : Nat} (h : n < 2 ^ 60) : rngO1 [.int (n : Nat)] = some ⟨(List.range n).map fun i => .int (i : Nat), []⟩ := by
  have e : rngL 0 n = (List.range n).map fun i => D.int (i : Nat) := by
    rw [List.range_eq_range']
    exact rngL_map n 0
  unfold rngO1
  have c : -(2 ^ 62) ≤ (n : Int) ∧ (n : Int) < 2 ^ 62 := by constructor <;> omega
  simp only [if_pos c, Int.toNat_natCast, e]
theorem comp_filter {α : Type} {gs : Gs} {tg : Tg} {cond : BF} {elt : EF} {s0 : Sl} {h : Hh} {inj f : α → D} {p : α → Bool} (g : gok gs h) : ∀ (xs : List α), (∀ x ∈ xs, ∃ s1, bindT tg (inj x) s0 = some s1 ∧ cond s1 h = .ok (p x) h ∧ elt s1 h = .ok (f x) h) → compL gs tg cond elt s0 (xs.map inj) h = .ok ((xs.filter p).map f) h
  | [], _ => compL_nil g
  | x :: xs, q => by
    obtain ⟨s1, q1, q2, q3⟩ := q x List.mem_cons_self
    have ih := comp_filter (f := f) (p := p) g xs fun y hy => q y (List.mem_cons_of_mem _ hy)
    rw [List.map_cons, compL_cons g]
    simp only [q1, q2, R.bind_ok]
    cases e : p x with
    | true => simp only [if_true, q3, R.bind_ok, ih, List.filter_cons, e, List.map_cons]
    | false =>
      rw [if_neg Bool.false_ne_true, ih, List.filter_cons, e]; rfl
end Ev
set_option maxRecDepth 100000
set_option maxHeartbeats 0
namespace TX
open PySem PySem.Spec L2 Ev
open PyProof.Rows hiding St
def top (i : Nat) : Stmt := PySem.Challenge.pw_harmonicdues_k45_whole_texts_of_rows_lot.main.body.getD i (.Pass ⟨0, 0, 0, 0⟩)
def clsB (s : Stmt) (j : Nat) : Stmt := match s with
  | .ClassDef (body := b) .. => b.getD j (.Pass ⟨0, 0, 0, 0⟩)
  | s => s
-- 0: is_integer ['thing']
def b_is_integer : Ss := .cons (.ret (.and (.isi (.v 0) [.int]) (.notv (.isi (.v 0) [.bool])))) .nil
def f_is_integer : FnD := ⟨["thing"], ["thing"], false, b_is_integer⟩
def r_is_integer : Ev.Row := ⟨("is_integer", none), "is_integer", top 1, f_is_integer⟩
-- 1: is_within ['thing', 'low', 'high']
def b_is_within : Ss := .cons (.ret (.and (.call 0 (.cons (.v 0) .nil)) (.tst (.chn .le .le (.v 1) (.v 0) (.v 2))))) .nil
def f_is_within : FnD := ⟨["thing", "low", "high"], ["thing", "low", "high"], false, b_is_within⟩
def r_is_within : Ev.Row := ⟨("is_within", none), "is_within", top 2, f_is_within⟩
-- 2: is_pair ['thing']
def b_is_pair : Ss := .cons (.ret (.and (.isi (.v 0) [.tup]) (.tst (.cmp .eq (.blt .len (.cons (.v 0) .nil)) (.c (.int 2)))))) .nil
def f_is_pair : FnD := ⟨["thing"], ["thing"], false, b_is_pair⟩
def r_is_pair : Ev.Row := ⟨("is_pair", none), "is_pair", top 3, f_is_pair⟩
-- 3: is_lot ['thing', 'many', 'one', 'other']
def b_is_lot : Ss := .cons (.ife (.or (.not (.e (.isi (.v 0) [.tup]))) (.not (.e (.blt .all (.cons (.pur (.comp [2] (.seq (.v 0)) (.n 2) .no (.call 1 (.cons (.v 2) (.cons (.c (.int 0)) (.cons (.bin .sub (.v 1) (.c (.int 1))) .nil)))))) .nil))))) (.cons (.ret (.c (.bl false))) .nil) .nil) (.cons (.ret (.blt .all (.cons (.pur (.comp [2, 3] (.zip (.v 0) (.sl (.v 0) (.so (.c (.int 1))) .no)) (.t [2, 3]) .no (.tst (.cmp .lt (.v 2) (.v 3))))) .nil))) .nil)
def f_is_lot : FnD := ⟨["thing", "many"], ["thing", "many", "one", "other"], false, b_is_lot⟩
def r_is_lot : Ev.Row := ⟨("is_lot", none), "is_lot", top 4, f_is_lot⟩
-- 4: divisor ['one', 'other']
def b_divisor : Ss := .cons (.whl (.cmp .ne (.v 1) (.c (.int 0))) (.cons (.par [0, 1] (.cons (.v 1) (.cons (.bin .mod (.v 0) (.v 1)) .nil))) .nil)) (.cons (.ret (.blt .abs (.cons (.v 0) .nil))) .nil)
def f_divisor : FnD := ⟨["one", "other"], ["one", "other"], false, b_divisor⟩
def r_divisor : Ev.Row := ⟨("divisor", none), "divisor", top 14, f_divisor⟩
-- 5: is_fraction ['thing']
def b_is_fraction : Ss := .cons (.ife (.or (.not (.e (.call 2 (.cons (.v 0) .nil)))) (.or (.not (.e (.call 0 (.cons (.ix (.v 0) (.c (.int 0))) .nil)))) (.or (.not (.e (.call 0 (.cons (.ix (.v 0) (.c (.int 1))) .nil)))) (.cmp .lt (.ix (.v 0) (.c (.int 1))) (.c (.int 1)))))) (.cons (.ret (.c (.bl false))) .nil) .nil) (.cons (.ret (.tst (.cmp .eq (.call 4 (.cons (.ix (.v 0) (.c (.int 0))) (.cons (.ix (.v 0) (.c (.int 1))) .nil))) (.c (.int 1))))) .nil)
def f_is_fraction : FnD := ⟨["thing"], ["thing"], false, b_is_fraction⟩
def r_is_fraction : Ev.Row := ⟨("is_fraction", none), "is_fraction", top 15, f_is_fraction⟩
-- 6: check_people ['n']
def b_check_people : Ss := .cons (.ife (.not (.e (.call 1 (.cons (.v 0) (.cons (.c (.int 1)) (.cons (.g 0) .nil)))))) (.cons (.stk) .nil) .nil) .nil
def f_check_people : FnD := ⟨["n"], ["n"], false, b_check_people⟩
def r_check_people : Ev.Row := ⟨("check_people", none), "check_people", top 20, f_check_people⟩
-- 7: check_things ['n', 'm']
def b_check_things : Ss := .cons (.ex (.call 6 (.cons (.v 0) .nil))) (.cons (.ife (.not (.e (.call 1 (.cons (.v 1) (.cons (.c (.int 1)) (.cons (.v 0) .nil)))))) (.cons (.stk) .nil) .nil) .nil)
def f_check_things : FnD := ⟨["n", "m"], ["n", "m"], false, b_check_things⟩
def r_check_things : Ev.Row := ⟨("check_things", none), "check_things", top 21, f_check_things⟩
-- 8: are_shares ['n', 'm', 'thing', 'top']
def b_are_shares : Ss := .cons (.ife (.or (.not (.e (.call 2 (.cons (.v 2) .nil)))) (.or (.not (.e (.call 1 (.cons (.ix (.v 2) (.c (.int 0))) (.cons (.c (.int 1)) (.cons (.g 1) .nil)))))) (.not (.e (.isi (.ix (.v 2) (.c (.int 1))) [.tup]))))) (.cons (.ret (.c (.bl false))) .nil) .nil) (.cons (.ife (.or (.cmp .ne (.blt .len (.cons (.ix (.v 2) (.c (.int 1))) .nil)) (.v 0)) (.not (.e (.blt .all (.cons (.pur (.comp [3] (.seq (.ix (.v 2) (.c (.int 1)))) (.n 3) .no (.call 1 (.cons (.v 3) (.cons (.c (.int 0)) (.cons (.ix (.v 2) (.c (.int 0))) .nil)))))) .nil))))) (.cons (.ret (.c (.bl false))) .nil) .nil) (.cons (.ret (.tst (.cmp .eq (.blt .sum (.cons (.ix (.v 2) (.c (.int 1))) .nil)) (.bin .mul (.v 1) (.ix (.v 2) (.c (.int 0))))))) .nil))
def f_are_shares : FnD := ⟨["n", "m", "thing"], ["n", "m", "thing", "top"], false, b_are_shares⟩
def r_are_shares : Ev.Row := ⟨("are_shares", none), "are_shares", top 22, f_are_shares⟩
-- 9: first_wrong ['n', 'm', 'row', 'at', 'shares']
def b_first_wrong : Ss := .cons (.ife (.or (.not (.e (.isi (.v 2) [.tup]))) (.cmp .gt (.blt .len (.cons (.v 2) .nil)) (.g 2))) (.cons (.ret (.neg (.c (.int 1)))) .nil) .nil) (.cons (.for (.enu (.v 2)) (.tg (.t [3, 4])) (.cons (.ife (.not (.e (.call 8 (.cons (.v 0) (.cons (.v 1) (.cons (.v 4) .nil)))))) (.cons (.ret (.v 3)) .nil) .nil) .nil)) (.cons (.ret (.c .non)) .nil))
def f_first_wrong : FnD := ⟨["n", "m", "row"], ["n", "m", "row", "at", "shares"], false, b_first_wrong⟩
def r_first_wrong : Ev.Row := ⟨("first_wrong", none), "first_wrong", top 23, f_first_wrong⟩
-- 10: check_row ['n', 'm', 'row', 'at']
def b_check_row : Ss := .cons (.ex (.call 7 (.cons (.v 0) (.cons (.v 1) .nil)))) (.cons (.set 3 (.call 9 (.cons (.v 0) (.cons (.v 1) (.cons (.v 2) .nil))))) (.cons (.ife (.cmp .isn (.v 3) (.c .non)) (.cons (.stk) .nil) .nil) .nil))
def f_check_row : FnD := ⟨["n", "m", "row"], ["n", "m", "row", "at"], false, b_check_row⟩
def r_check_row : Ev.Row := ⟨("check_row", none), "check_row", top 24, f_check_row⟩
-- 11: number_in ['word', 'sign']
def b_number_in : Ss := .cons (.ife (.or (.not (.chn .le .le (.c (.int 1)) (.blt .len (.cons (.v 0) .nil)) (.g 4))) (.not (.e (.blt .all (.cons (.pur (.comp [1] (.str (.v 0)) (.n 1) .no (.tst (.cmp .in_ (.v 1) (.g 3))))) .nil))))) (.cons (.ret (.c .non)) .nil) .nil) (.cons (.ret (.ite (.and (.cmp .gt (.blt .len (.cons (.v 0) .nil)) (.c (.int 1))) (.cmp .eq (.ix (.v 0) (.c (.int 0))) (.c (.str (SX.S [48]))))) (.c .non) (.blt .int (.cons (.v 0) .nil)))) .nil)
def f_number_in : FnD := ⟨["word"], ["word", "sign"], false, b_number_in⟩
def r_number_in : Ev.Row := ⟨("number_in", none), "number_in", top 29, f_number_in⟩
-- 12: numbers_in ['word', 'found', 'one']
def b_numbers_in : Ss := .cons (.set 1 (.blt .tuple (.cons (.pur (.comp [2] (.seq (.pur (.spl (.v 0) (.cons (.c (.str (SX.S [44]))) .nil)))) (.n 2) .no (.call 11 (.cons (.v 2) .nil)))) .nil))) (.cons (.ret (.ite (.cmp .in_ (.c .non) (.v 1)) (.c .non) (.v 1))) .nil)
def f_numbers_in : FnD := ⟨["word"], ["word", "found", "one"], false, b_numbers_in⟩
def r_numbers_in : Ev.Row := ⟨("numbers_in", none), "numbers_in", top 30, f_numbers_in⟩
-- 13: numbers_text ['numbers', 'number']
def b_numbers_text : Ss := .cons (.ret (.bm .join (.c (.str (SX.S [44]))) (.cons (.pur (.comp [1] (.seq (.v 0)) (.n 1) .no (.blt .str (.cons (.v 1) .nil)))) .nil))) .nil
def f_numbers_text : FnD := ⟨["numbers"], ["numbers", "number"], false, b_numbers_text⟩
def r_numbers_text : Ev.Row := ⟨("numbers_text", none), "numbers_text", top 31, f_numbers_text⟩
-- 14: fraction_text ['thing']
def b_fraction_text : Ss := .cons (.ife (.not (.e (.call 5 (.cons (.v 0) .nil)))) (.cons (.stk) .nil) .nil) (.cons (.ret (.ite (.cmp .eq (.ix (.v 0) (.c (.int 1))) (.c (.int 1))) (.blt .str (.cons (.ix (.v 0) (.c (.int 0))) .nil)) (.bin .add (.bin .add (.blt .str (.cons (.ix (.v 0) (.c (.int 0))) .nil)) (.c (.str (SX.S [47])))) (.blt .str (.cons (.ix (.v 0) (.c (.int 1))) .nil))))) .nil)
def f_fraction_text : FnD := ⟨["thing"], ["thing"], false, b_fraction_text⟩
def r_fraction_text : Ev.Row := ⟨("fraction_text", none), "fraction_text", top 32, f_fraction_text⟩
-- 15: row_text ['n', 'm', 'row', 'found', 'bottom', 'tops', 'line']
def b_row_text : Ss := .cons (.ex (.call 10 (.cons (.v 0) (.cons (.v 1) (.cons (.v 2) .nil))))) (.cons (.set 3 (.new (.lst (.cons (.bin .add (.bin .add (.bin .add (.c (.str (SX.S [114, 111, 119, 32]))) (.blt .str (.cons (.v 0) .nil))) (.c (.str (SX.S [32])))) (.blt .str (.cons (.v 1) .nil))) .nil)))) (.cons (.for (.seq (.v 2)) (.tg (.t [4, 5])) (.cons (.ex (.bm .append (.v 3) (.cons (.bin .add (.bin .add (.bin .add (.c (.str (SX.S [115, 104, 97, 114, 101, 115, 32]))) (.blt .str (.cons (.v 4) .nil))) (.c (.str (SX.S [32])))) (.call 13 (.cons (.v 5) .nil))) .nil))) .nil)) (.cons (.ret (.bm .join (.c (.str (SX.S []))) (.cons (.pur (.comp [6] (.seq (.v 3)) (.n 6) .no (.bin .add (.v 6) (.c (.str (SX.S [10])))))) .nil))) .nil)))
def f_row_text : FnD := ⟨["n", "m", "row"], ["n", "m", "row", "found", "bottom", "tops", "line"], true, b_row_text⟩
def r_row_text : Ev.Row := ⟨("row_text", none), "row_text", top 33, f_row_text⟩
-- 16: lines_in ['text', 'lines']
def b_lines_in : Ss := .cons (.ife (.not (.e (.isi (.v 0) [.str]))) (.cons (.stk) .nil) .nil) (.cons (.set 1 (.pur (.spl (.v 0) (.cons (.c (.str (SX.S [10]))) .nil)))) (.cons (.ret (.tup (.cons (.pur (.sli (.v 1) .no (.so (.neg (.c (.int 1)))))) (.cons (.ix (.v 1) (.neg (.c (.int 1)))) .nil)))) .nil))
def f_lines_in : FnD := ⟨["text"], ["text", "lines"], false, b_lines_in⟩
def r_lines_in : Ev.Row := ⟨("lines_in", none), "lines_in", top 34, f_lines_in⟩
-- 17: head_in ['line', 'words', 'found']
def b_head_in : Ss := .cons (.set 1 (.pur (.spl (.v 0) (.cons (.c (.str (SX.S [32]))) .nil)))) (.cons (.ife (.or (.cmp .ne (.blt .len (.cons (.v 1) .nil)) (.c (.int 3))) (.cmp .ne (.ix (.v 1) (.c (.int 0))) (.c (.str (SX.S [114, 111, 119]))))) (.cons (.ret (.c .non)) .nil) .nil) (.cons (.set 2 (.tup (.cons (.call 11 (.cons (.ix (.v 1) (.c (.int 1))) .nil)) (.cons (.call 11 (.cons (.ix (.v 1) (.c (.int 2))) .nil)) .nil)))) (.cons (.ret (.ite (.cmp .in_ (.c .non) (.v 2)) (.c .non) (.v 2))) .nil)))
def f_head_in : FnD := ⟨["line"], ["line", "words", "found"], false, b_head_in⟩
def r_head_in : Ev.Row := ⟨("head_in", none), "head_in", top 35, f_head_in⟩
-- 18: shares_in ['line', 'words', 'found']
def b_shares_in : Ss := .cons (.set 1 (.pur (.spl (.v 0) (.cons (.c (.str (SX.S [32]))) .nil)))) (.cons (.ife (.or (.cmp .ne (.blt .len (.cons (.v 1) .nil)) (.c (.int 3))) (.cmp .ne (.ix (.v 1) (.c (.int 0))) (.c (.str (SX.S [115, 104, 97, 114, 101, 115]))))) (.cons (.ret (.c .non)) .nil) .nil) (.cons (.set 2 (.tup (.cons (.call 11 (.cons (.ix (.v 1) (.c (.int 1))) .nil)) (.cons (.call 12 (.cons (.ix (.v 1) (.c (.int 2))) .nil)) .nil)))) (.cons (.ret (.ite (.cmp .in_ (.c .non) (.v 2)) (.c .non) (.v 2))) .nil)))
def f_shares_in : FnD := ⟨["line"], ["line", "words", "found"], false, b_shares_in⟩
def r_shares_in : Ev.Row := ⟨("shares_in", none), "shares_in", top 36, f_shares_in⟩
-- 19: read_row ['text', 'lines', 'rest', 'head', 'row', 'at', 'line', 'found']
def b_read_row : Ss := .cons (.asg (.tg (.t [1, 2])) (.call 16 (.cons (.v 0) .nil))) (.cons (.par [3, 4] (.cons (.c .non) (.cons (.new (.lst .nil)) .nil))) (.cons (.for (.enu (.v 1)) (.tg (.t [5, 6])) (.cons (.set 7 (.ite (.cmp .eq (.v 5) (.c (.int 0))) (.call 17 (.cons (.v 6) .nil)) (.call 18 (.cons (.v 6) .nil)))) (.cons (.ife (.cmp .is_ (.v 7) (.c .non)) (.cons (.stk) .nil) .nil) (.cons (.ife (.cmp .eq (.v 5) (.c (.int 0))) (.cons (.set 3 (.v 7)) .nil) (.cons (.ex (.bm .append (.v 4) (.cons (.v 7) .nil))) .nil)) .nil)))) (.cons (.ife (.or (.cmp .ne (.v 2) (.c (.str (SX.S [])))) (.cmp .is_ (.v 3) (.c .non))) (.cons (.stk) .nil) .nil) (.cons (.ex (.call 10 (.cons (.ix (.v 3) (.c (.int 0))) (.cons (.ix (.v 3) (.c (.int 1))) (.cons (.blt .tuple (.cons (.v 4) .nil)) .nil))))) (.cons (.ret (.tup (.cons (.ix (.v 3) (.c (.int 0))) (.cons (.ix (.v 3) (.c (.int 1))) (.cons (.blt .tuple (.cons (.v 4) .nil)) .nil))))) .nil)))))
def f_read_row : FnD := ⟨["text"], ["text", "lines", "rest", "head", "row", "at", "line", "found"], true, b_read_row⟩
def r_read_row : Ev.Row := ⟨("read_row", none), "read_row", top 37, f_read_row⟩
-- 20: check_lots ['lots', 'lot']
def b_check_lots : Ss := .cons (.ife (.or (.not (.e (.isi (.v 0) [.tup]))) (.or (.cmp .gt (.blt .len (.cons (.v 0) .nil)) (.g 2)) (.not (.e (.blt .all (.cons (.pur (.comp [1] (.seq (.v 0)) (.n 1) .no (.call 3 (.cons (.v 1) (.cons (.g 0) .nil))))) .nil)))))) (.cons (.stk) .nil) .nil) .nil
def f_check_lots : FnD := ⟨["lots"], ["lots", "lot"], false, b_check_lots⟩
def r_check_lots : Ev.Row := ⟨("check_lots", none), "check_lots", top 38, f_check_lots⟩
-- 21: lots_text ['lots', 'lot']
def b_lots_text : Ss := .cons (.ex (.call 20 (.cons (.v 0) .nil))) (.cons (.ret (.bm .join (.c (.str (SX.S []))) (.cons (.pur (.comp [1] (.seq (.v 0)) (.n 1) .no (.bin .add (.ite (.cmp .gt (.blt .len (.cons (.v 1) .nil)) (.c (.int 0))) (.call 13 (.cons (.v 1) .nil)) (.g 5)) (.c (.str (SX.S [10])))))) .nil))) .nil)
def f_lots_text : FnD := ⟨["lots"], ["lots", "lot"], false, b_lots_text⟩
def r_lots_text : Ev.Row := ⟨("lots_text", none), "lots_text", top 39, f_lots_text⟩
-- 22: read_lots ['text', 'lines', 'rest', 'found', 'at', 'line', 'lot']
def b_read_lots : Ss := .cons (.asg (.tg (.t [1, 2])) (.call 16 (.cons (.v 0) .nil))) (.cons (.set 3 (.new (.lst .nil))) (.cons (.for (.enu (.v 1)) (.tg (.t [4, 5])) (.cons (.set 6 (.ite (.cmp .eq (.v 5) (.g 5)) (.tup .nil) (.call 12 (.cons (.v 5) .nil)))) (.cons (.ife (.cmp .is_ (.v 6) (.c .non)) (.cons (.stk) .nil) .nil) (.cons (.ex (.bm .append (.v 3) (.cons (.v 6) .nil))) .nil)))) (.cons (.ife (.cmp .ne (.v 2) (.c (.str (SX.S [])))) (.cons (.stk) .nil) .nil) (.cons (.ex (.call 20 (.cons (.blt .tuple (.cons (.v 3) .nil)) .nil))) (.cons (.ret (.blt .tuple (.cons (.v 3) .nil))) .nil)))))
def f_read_lots : FnD := ⟨["text"], ["text", "lines", "rest", "found", "at", "line", "lot"], true, b_read_lots⟩
def r_read_lots : Ev.Row := ⟨("read_lots", none), "read_lots", top 40, f_read_lots⟩
-- 23: _law_hand ['_law_script', '_law_cells', '_law_cell']
def b__law_hand : Ss := .cons (.setP 1 (.comp [2] (.seq (.sl (.v 0) .no (.so (.c (.int 63))))) (.n 2) .no (.blt .abs (.cons (.blt .int (.cons (.v 2) .nil)) .nil)))) (.cons (.ret (.new (.lst (.cons (.v 1) (.cons (.c (.int 0)) (.cons (.c (.int 0)) (.cons (.bin .add (.c (.int 1)) (.blt .len (.cons (.v 1) .nil))) (.cons (.c (.int 0)) .nil)))))))) .nil)
def f__law_hand : FnD := ⟨["_law_script"], ["_law_script", "_law_cells", "_law_cell"], false, b__law_hand⟩
def r__law_hand : Ev.Row := ⟨("_law_hand", none), "_law_hand", top 42, f__law_hand⟩
-- 24: _law_draw ['_law_hand_here', '_law_many', '_law_cell', '_law_digit', '_law_number']
def b__law_draw : Ss := .cons (.ife (.and (.cmp .eq (.ix (.v 0) (.c (.int 2))) (.c (.int 0))) (.cmp .lt (.ix (.v 0) (.c (.int 1))) (.blt .len (.cons (.ix (.v 0) (.c (.int 0))) .nil)))) (.cons (.set 2 (.ix (.ix (.v 0) (.c (.int 0))) (.ix (.v 0) (.c (.int 1))))) (.cons (.asg (.ix (.v 0) (.c (.int 1))) (.bin .add (.ix (.v 0) (.c (.int 1))) (.c (.int 1)))) (.cons (.asg (.ix (.v 0) (.c (.int 3))) (.bin .mod (.blt .int (.cons (.bin .add (.bin .add (.bin .mul (.ix (.v 0) (.c (.int 3))) (.c (.int 69621))) (.v 2)) (.c (.int 11))) .nil)) (.c (.int 2147483629)))) (.cons (.ife (.cmp .ge (.v 2) (.bin .pow (.c (.int 10)) (.c (.int 18)))) (.cons (.asg (.ix (.v 0) (.c (.int 2))) (.v 2)) .nil) .nil) .nil)))) .nil) (.cons (.ife (.cmp .gt (.ix (.v 0) (.c (.int 2))) (.c (.int 0))) (.cons (.set 3 (.bin .mod (.blt .int (.cons (.ix (.v 0) (.c (.int 2))) .nil)) (.v 1))) (.cons (.asg (.ix (.v 0) (.c (.int 2))) (.bin .fdiv (.ix (.v 0) (.c (.int 2))) (.v 1))) (.cons (.ret (.v 3)) .nil))) .nil) (.cons (.asg (.ix (.v 0) (.c (.int 4))) (.bin .add (.ix (.v 0) (.c (.int 4))) (.c (.int 1)))) (.cons (.set 4 (.bin .mod (.blt .int (.cons (.bin .mul (.blt .int (.cons (.bin .add (.ix (.v 0) (.c (.int 3))) (.bin .mul (.c (.int 7919)) (.ix (.v 0) (.c (.int 4))))) .nil)) (.c (.int 48271))) .nil)) (.c (.int 2147483647)))) (.cons (.set 4 (.bin .mod (.blt .int (.cons (.bin .mul (.v 4) (.bin .add (.bin .fdiv (.v 4) (.c (.int 1009))) (.c (.int 69621)))) .nil)) (.c (.int 2147483647)))) (.cons (.set 4 (.bin .mod (.blt .int (.cons (.bin .mul (.v 4) (.bin .add (.bin .fdiv (.v 4) (.c (.int 2003))) (.c (.int 40692)))) .nil)) (.c (.int 2147483399)))) (.cons (.ret (.bin .mod (.blt .int (.cons (.bin .fdiv (.v 4) (.c (.int 16))) .nil)) (.v 1))) .nil))))))
def f__law_draw : FnD := ⟨["_law_hand_here", "_law_many"], ["_law_hand_here", "_law_many", "_law_cell", "_law_digit", "_law_number"], false, b__law_draw⟩
def r__law_draw : Ev.Row := ⟨("_law_draw", none), "_law_draw", top 43, f__law_draw⟩
-- 25: _law_any ['_law_hand_here', '_law_some']
def b__law_any : Ss := .cons (.ret (.ix (.v 1) (.call 24 (.cons (.v 0) (.cons (.blt .len (.cons (.v 1) .nil)) .nil))))) .nil
def f__law_any : FnD := ⟨["_law_hand_here", "_law_some"], ["_law_hand_here", "_law_some"], false, b__law_any⟩
def r__law_any : Ev.Row := ⟨("_law_any", none), "_law_any", top 44, f__law_any⟩
-- 26: _law_lowest ['_law_top', '_law_bottom', '_law_one', '_law_other']
def b__law_lowest : Ss := .cons (.par [2, 3] (.cons (.blt .abs (.cons (.v 0) .nil)) (.cons (.v 1) .nil))) (.cons (.whl (.cmp .gt (.v 3) (.c (.int 0))) (.cons (.par [2, 3] (.cons (.v 3) (.cons (.bin .mod (.blt .int (.cons (.v 2) .nil)) (.v 3)) .nil))) .nil)) (.cons (.ret (.tup (.cons (.bin .fdiv (.v 0) (.v 2)) (.cons (.bin .fdiv (.v 1) (.v 2)) .nil)))) .nil))
def f__law_lowest : FnD := ⟨["_law_top", "_law_bottom"], ["_law_top", "_law_bottom", "_law_one", "_law_other"], false, b__law_lowest⟩
def r__law_lowest : Ev.Row := ⟨("_law_lowest", none), "_law_lowest", top 45, f__law_lowest⟩
-- 27: _law_fraction_told ['_law_one']
def b__law_fraction_told : Ss := .cons (.ret (.ite (.cmp .eq (.ix (.v 0) (.c (.int 1))) (.c (.int 1))) (.blt .str (.cons (.ix (.v 0) (.c (.int 0))) .nil)) (.bin .add (.bin .add (.blt .str (.cons (.ix (.v 0) (.c (.int 0))) .nil)) (.c (.str (SX.S [47])))) (.blt .str (.cons (.ix (.v 0) (.c (.int 1))) .nil))))) .nil
def f__law_fraction_told : FnD := ⟨["_law_one"], ["_law_one"], false, b__law_fraction_told⟩
def r__law_fraction_told : Ev.Row := ⟨("_law_fraction_told", none), "_law_fraction_told", top 46, f__law_fraction_told⟩
-- 28: _law_row_told ['_law_n', '_law_m', '_law_row_here', '_law_found', '_law_bottom', '_law_tops', '_law_top']
def b__law_row_told : Ss := .cons (.set 3 (.bin .add (.bin .add (.bin .add (.bin .add (.c (.str (SX.S [114, 111, 119, 32]))) (.blt .str (.cons (.v 0) .nil))) (.c (.str (SX.S [32])))) (.blt .str (.cons (.v 1) .nil))) (.c (.str (SX.S [10]))))) (.cons (.for (.seq (.v 2)) (.tg (.t [4, 5])) (.cons (.set 3 (.bin .add (.bin .add (.bin .add (.bin .add (.bin .add (.v 3) (.c (.str (SX.S [115, 104, 97, 114, 101, 115, 32])))) (.blt .str (.cons (.v 4) .nil))) (.c (.str (SX.S [32])))) (.bm .join (.c (.str (SX.S [44]))) (.cons (.pur (.comp [6] (.seq (.v 5)) (.n 6) .no (.blt .str (.cons (.v 6) .nil)))) .nil))) (.c (.str (SX.S [10]))))) .nil)) (.cons (.ret (.v 3)) .nil))
def f__law_row_told : FnD := ⟨["_law_n", "_law_m", "_law_row_here"], ["_law_n", "_law_m", "_law_row_here", "_law_found", "_law_bottom", "_law_tops", "_law_top"], false, b__law_row_told⟩
def r__law_row_told : Ev.Row := ⟨("_law_row_told", none), "_law_row_told", top 47, f__law_row_told⟩
-- 29: _law_lots_told ['_law_lots_here', '_law_lot', '_law_one']
def b__law_lots_told : Ss := .cons (.ret (.bm .join (.c (.str (SX.S []))) (.cons (.pur (.comp [1] (.seq (.v 0)) (.n 1) .no (.ite (.cmp .gt (.blt .len (.cons (.v 1) .nil)) (.c (.int 0))) (.bin .add (.bm .join (.c (.str (SX.S [44]))) (.cons (.pur (.comp [2] (.seq (.v 1)) (.n 2) .no (.blt .str (.cons (.v 2) .nil)))) .nil)) (.c (.str (SX.S [10])))) (.c (.str (SX.S [45, 10])))))) .nil))) .nil
def f__law_lots_told : FnD := ⟨["_law_lots_here"], ["_law_lots_here", "_law_lot", "_law_one"], false, b__law_lots_told⟩
def r__law_lots_told : Ev.Row := ⟨("_law_lots_told", none), "_law_lots_told", top 48, f__law_lots_told⟩
-- 30: _law_shares ['_law_hand_here', '_law_n', '_law_m', '_law_bottom', '_law_tops', '_law_left', '_law_person', '_law_part', '_law_one']
def b__law_shares : Ss := .cons (.set 3 (.call 25 (.cons (.v 0) (.cons (.pur (.lst (.cons (.c (.int 1)) (.cons (.c (.int 2)) (.cons (.c (.int 3)) (.cons (.c (.int 7)) (.cons (.c (.int 60)) (.cons (.c (.int 360)) (.cons (.bin .add (.c (.int 1)) (.call 24 (.cons (.v 0) (.cons (.c (.int 360)) .nil)))) .nil))))))))) .nil)))) (.cons (.set 4 (.new (.rep (.pur (.lst (.cons (.c (.int 0)) .nil))) (.v 1)))) (.cons (.set 5 (.bin .mul (.v 2) (.v 3))) (.cons (.whl (.cmp .gt (.v 5) (.c (.int 0))) (.cons (.par [6, 7] (.cons (.call 24 (.cons (.v 0) (.cons (.v 1) .nil))) (.cons (.bin .add (.c (.int 1)) (.call 24 (.cons (.v 0) (.cons (.v 5) .nil)))) .nil))) (.cons (.set 7 (.blt .min2 (.cons (.v 7) (.cons (.bin .sub (.v 3) (.ix (.v 4) (.v 6))) .nil)))) (.cons (.ife (.cmp .eq (.v 7) (.c (.int 0))) (.cons (.set 6 (.ix (.pur (.comp [8] (.rng1 (.v 1)) (.n 8) (.so (.cmp .lt (.ix (.v 4) (.v 8)) (.v 3))) (.v 8))) (.c (.int 0)))) (.cons (.set 7 (.blt .min2 (.cons (.v 5) (.cons (.bin .sub (.v 3) (.ix (.v 4) (.v 6))) .nil)))) .nil)) .nil) (.cons (.asg (.tup (.cons (.ix (.v 4) (.v 6)) (.cons (.tg (.n 5)) .nil))) (.tup (.cons (.bin .add (.ix (.v 4) (.v 6)) (.v 7)) (.cons (.bin .sub (.v 5) (.v 7)) .nil)))) .nil))))) (.cons (.ret (.tup (.cons (.v 3) (.cons (.blt .tuple (.cons (.v 4) .nil)) .nil)))) .nil))))
def f__law_shares : FnD := ⟨["_law_hand_here", "_law_n", "_law_m"], ["_law_hand_here", "_law_n", "_law_m", "_law_bottom", "_law_tops", "_law_left", "_law_person", "_law_part", "_law_one"], true, b__law_shares⟩
def r__law_shares : Ev.Row := ⟨("_law_shares", none), "_law_shares", top 49, f__law_shares⟩
-- 31: _law_row ['_law_hand_here', '_law_n', '_law_m', '_law_most', '_law_beat']
def b__law_row : Ss := .cons (.ret (.blt .tuple (.cons (.pur (.comp [4] (.rng1 (.call 24 (.cons (.v 0) (.cons (.bin .add (.v 3) (.c (.int 1))) .nil)))) (.n 4) .no (.call 30 (.cons (.v 0) (.cons (.v 1) (.cons (.v 2) .nil)))))) .nil))) .nil
def f__law_row : FnD := ⟨["_law_hand_here", "_law_n", "_law_m", "_law_most"], ["_law_hand_here", "_law_n", "_law_m", "_law_most", "_law_beat"], false, b__law_row⟩
def r__law_row : Ev.Row := ⟨("_law_row", none), "_law_row", top 50, f__law_row⟩
-- 32: _law_lots ['_law_hand_here', '_law_most', '_law_found', '_law_beat', '_law_rare', '_law_one']
def b__law_lots : Ss := .cons (.set 2 (.new (.lst .nil))) (.cons (.for (.rng1 (.call 24 (.cons (.v 0) (.cons (.bin .add (.v 1) (.c (.int 1))) .nil)))) (.tg (.n 3)) (.cons (.set 4 (.call 25 (.cons (.v 0) (.cons (.pur (.lst (.cons (.c (.int 2)) (.cons (.c (.int 3)) (.cons (.c (.int 12)) .nil))))) .nil)))) (.cons (.ex (.bm .append (.v 2) (.cons (.blt .tuple (.cons (.pur (.comp [5] (.rng1 (.c (.int 12))) (.n 5) (.so (.cmp .eq (.call 24 (.cons (.v 0) (.cons (.v 4) .nil))) (.c (.int 0)))) (.v 5))) .nil)) .nil))) .nil))) (.cons (.ret (.blt .tuple (.cons (.v 2) .nil))) .nil))
def f__law_lots : FnD := ⟨["_law_hand_here", "_law_most"], ["_law_hand_here", "_law_most", "_law_found", "_law_beat", "_law_rare", "_law_one"], true, b__law_lots⟩
def r__law_lots : Ev.Row := ⟨("_law_lots", none), "_law_lots", top 51, f__law_lots⟩
-- 33: law ['_law_script', '_law_hand_here', '_law_is_great', '_law_turn', '_law_n', '_law_m', '_law_row_here', '_law_lots_here', '_law_text', '_law_top', '_law_one']
def b_law : Ss := .cons (.set 1 (.call 23 (.cons (.v 0) .nil))) (.cons (.set 2 (.tst (.cmp .eq (.call 24 (.cons (.v 1) (.cons (.c (.int 40)) .nil))) (.c (.int 0))))) (.cons (.for (.rng1 (.c (.int 3))) (.tg (.n 3)) (.cons (.set 4 (.bin .add (.c (.int 1)) (.call 24 (.cons (.v 1) (.cons (.c (.int 12)) .nil))))) (.cons (.set 5 (.bin .add (.c (.int 1)) (.call 24 (.cons (.v 1) (.cons (.v 4) .nil))))) (.cons (.par [6, 7] (.cons (.call 31 (.cons (.v 1) (.cons (.v 4) (.cons (.v 5) (.cons (.c (.int 12)) .nil))))) (.cons (.call 32 (.cons (.v 1) (.cons (.c (.int 12)) .nil))) .nil))) (.cons (.ife (.and (.e (.v 2)) (.cmp .eq (.v 3) (.c (.int 0)))) (.cons (.par [6, 7] (.cons (.bin .mul (.tup (.cons (.call 30 (.cons (.v 1) (.cons (.v 4) (.cons (.v 5) .nil)))) .nil)) (.c (.int 400))) (.cons (.bin .mul (.tup (.cons (.tup (.cons (.c (.int 0)) (.cons (.c (.int 3)) (.cons (.c (.int 11)) .nil)))) (.cons (.tup .nil) .nil))) (.c (.int 200))) .nil))) .nil) .nil) (.cons (.set 8 (.call 28 (.cons (.v 4) (.cons (.v 5) (.cons (.v 6) .nil))))) (.cons (.ife (.or (.cmp .ne (.call 15 (.cons (.v 4) (.cons (.v 5) (.cons (.v 6) .nil)))) (.v 8)) (.cmp .ne (.rpr (.call 19 (.cons (.v 8) .nil))) (.rpr (.tup (.cons (.v 4) (.cons (.v 5) (.cons (.v 6) .nil))))))) (.cons (.ret (.c (.bl false))) .nil) .nil) (.cons (.set 8 (.call 29 (.cons (.v 7) .nil))) (.cons (.ife (.or (.cmp .ne (.call 21 (.cons (.v 7) .nil)) (.v 8)) (.cmp .ne (.rpr (.call 22 (.cons (.v 8) .nil))) (.rpr (.v 7)))) (.cons (.ret (.c (.bl false))) .nil) .nil) (.cons (.set 9 (.call 25 (.cons (.v 1) (.cons (.pur (.lst (.cons (.c (.int 0)) (.cons (.c (.int 1)) (.cons (.neg (.c (.int 1))) (.cons (.c (.int 7)) (.cons (.bin .pow (.c (.int 10)) (.c (.int 30))) (.cons (.neg (.bin .pow (.c (.int 10)) (.c (.int 30)))) (.cons (.call 24 (.cons (.v 1) (.cons (.c (.int 1000)) .nil))) (.cons (.neg (.call 24 (.cons (.v 1) (.cons (.c (.int 1000)) .nil)))) .nil)))))))))) .nil)))) (.cons (.set 10 (.call 26 (.cons (.v 9) (.cons (.call 25 (.cons (.v 1) (.cons (.pur (.lst (.cons (.c (.int 1)) (.cons (.c (.int 2)) (.cons (.c (.int 3)) (.cons (.c (.int 360)) (.cons (.c (.int 27720)) (.cons (.bin .add (.bin .pow (.c (.int 10)) (.c (.int 30))) (.c (.int 1))) .nil)))))))) .nil))) .nil)))) (.cons (.ife (.cmp .ne (.call 14 (.cons (.v 10) .nil)) (.call 27 (.cons (.v 10) .nil))) (.cons (.ret (.c (.bl false))) .nil) .nil) .nil)))))))))))) (.cons (.ret (.c (.bl true))) .nil)))
def f_law : FnD := ⟨["_law_script"], ["_law_script", "_law_hand_here", "_law_is_great", "_law_turn", "_law_n", "_law_m", "_law_row_here", "_law_lots_here", "_law_text", "_law_top", "_law_one"], false, b_law⟩
def r_law : Ev.Row := ⟨("law", none), "law", top 52, f_law⟩
def tx : Tx := ⟨[r_is_integer, r_is_within, r_is_pair, r_is_lot, r_divisor, r_is_fraction, r_check_people, r_check_things, r_are_shares, r_first_wrong, r_check_row, r_number_in, r_numbers_in, r_numbers_text, r_fraction_text, r_row_text, r_lines_in, r_head_in, r_shares_in, r_read_row, r_check_lots, r_lots_text, r_read_lots, r__law_hand, r__law_draw, r__law_any, r__law_lowest, r__law_fraction_told, r__law_row_told, r__law_lots_told, r__law_shares, r__law_row, r__law_lots], [],
  [(("is_integer" : Str), .fn 0), (("is_within" : Str), .fn 1), (("is_pair" : Str), .fn 2), (("is_lot" : Str), .fn 3), (("divisor" : Str), .fn 4), (("is_fraction" : Str), .fn 5), (("check_people" : Str), .fn 6), (("check_things" : Str), .fn 7), (("are_shares" : Str), .fn 8), (("first_wrong" : Str), .fn 9), (("check_row" : Str), .fn 10), (("number_in" : Str), .fn 11), (("numbers_in" : Str), .fn 12), (("numbers_text" : Str), .fn 13), (("fraction_text" : Str), .fn 14), (("row_text" : Str), .fn 15), (("lines_in" : Str), .fn 16), (("head_in" : Str), .fn 17), (("shares_in" : Str), .fn 18), (("read_row" : Str), .fn 19), (("check_lots" : Str), .fn 20), (("lots_text" : Str), .fn 21), (("read_lots" : Str), .fn 22), (("_law_hand" : Str), .fn 23), (("_law_draw" : Str), .fn 24), (("_law_any" : Str), .fn 25), (("_law_lowest" : Str), .fn 26), (("_law_fraction_told" : Str), .fn 27), (("_law_row_told" : Str), .fn 28), (("_law_lots_told" : Str), .fn 29), (("_law_shares" : Str), .fn 30), (("_law_row" : Str), .fn 31), (("_law_lots" : Str), .fn 32), (("MOST_PEOPLE" : Str), .val 0), (("MOST_BOTTOM" : Str), .val 1), (("MOST_BEATS" : Str), .val 2), (("FIGURES" : Str), .val 3), (("MOST_FIGURES" : Str), .val 4), (("NO_LOT" : Str), .val 5), (("abs" : Str), .free), (("all" : Str), .free), (("bool" : Str), .free), (("enumerate" : Str), .free), (("int" : Str), .free), (("isinstance" : Str), .free), (("len" : Str), .free), (("min" : Str), .free), (("range" : Str), .free), (("repr" : Str), .free), (("str" : Str), .free), (("sum" : Str), .free), (("tuple" : Str), .free), (("zip" : Str), .free)],
  [.int 12, .int 360, .int 400, .str (SX.S [48, 49, 50, 51, 52, 53, 54, 55, 56, 57]), .int 9, .str (SX.S [45])],
  [], [], []⟩
theorem ck_is_integer : tx.rowOk r_is_integer = true := by decide +kernel
theorem ck_is_within : tx.rowOk r_is_within = true := by decide +kernel
theorem ck_is_pair : tx.rowOk r_is_pair = true := by decide +kernel
theorem ck_is_lot : tx.rowOk r_is_lot = true := by decide +kernel
theorem ck_divisor : tx.rowOk r_divisor = true := by decide +kernel
theorem ck_is_fraction : tx.rowOk r_is_fraction = true := by decide +kernel
theorem ck_check_people : tx.rowOk r_check_people = true := by decide +kernel
theorem ck_check_things : tx.rowOk r_check_things = true := by decide +kernel
theorem ck_are_shares : tx.rowOk r_are_shares = true := by decide +kernel
theorem ck_first_wrong : tx.rowOk r_first_wrong = true := by decide +kernel
theorem ck_check_row : tx.rowOk r_check_row = true := by decide +kernel
theorem ck_number_in : tx.rowOk r_number_in = true := by decide +kernel
theorem ck_numbers_in : tx.rowOk r_numbers_in = true := by decide +kernel
theorem ck_numbers_text : tx.rowOk r_numbers_text = true := by decide +kernel
theorem ck_fraction_text : tx.rowOk r_fraction_text = true := by decide +kernel
theorem ck_row_text : tx.rowOk r_row_text = true := by decide +kernel
theorem ck_lines_in : tx.rowOk r_lines_in = true := by decide +kernel
theorem ck_head_in : tx.rowOk r_head_in = true := by decide +kernel
theorem ck_shares_in : tx.rowOk r_shares_in = true := by decide +kernel
theorem ck_read_row : tx.rowOk r_read_row = true := by decide +kernel
theorem ck_check_lots : tx.rowOk r_check_lots = true := by decide +kernel
theorem ck_lots_text : tx.rowOk r_lots_text = true := by decide +kernel
theorem ck_read_lots : tx.rowOk r_read_lots = true := by decide +kernel
theorem ck__law_hand : tx.rowOk r__law_hand = true := by decide +kernel
theorem ck__law_draw : tx.rowOk r__law_draw = true := by decide +kernel
theorem ck__law_any : tx.rowOk r__law_any = true := by decide +kernel
theorem ck__law_lowest : tx.rowOk r__law_lowest = true := by decide +kernel
theorem ck__law_fraction_told : tx.rowOk r__law_fraction_told = true := by decide +kernel
theorem ck__law_row_told : tx.rowOk r__law_row_told = true := by decide +kernel
theorem ck__law_lots_told : tx.rowOk r__law_lots_told = true := by decide +kernel
theorem ck__law_shares : tx.rowOk r__law_shares = true := by decide +kernel
theorem ck__law_row : tx.rowOk r__law_row = true := by decide +kernel
theorem ck__law_lots : tx.rowOk r__law_lots = true := by decide +kernel
theorem ck_law : ckSs ⟨r_law.f.N, defScope r_law.st, fun _ => true, tx.gl, true⟩ r_law.f.body (defBody r_law.st) = true := by decide +kernel
theorem sc_law : C8.scC r_law.f.N r_law.f.ps (defScope r_law.st) = true := by decide +kernel
theorem fits : tx.fits = true := by decide +kernel
theorem bd_is_integer : Tx.BindR r_is_integer := fun _ _ _ _ _ _ us hl => match us, hl with | [_], _ => rfl
theorem bd_is_within : Tx.BindR r_is_within := fun _ _ _ _ _ _ us hl => match us, hl with | [_, _, _], _ => rfl
theorem bd_is_pair : Tx.BindR r_is_pair := fun _ _ _ _ _ _ us hl => match us, hl with | [_], _ => rfl
theorem bd_is_lot : Tx.BindR r_is_lot := fun _ _ _ _ _ _ us hl => match us, hl with | [_, _], _ => rfl
theorem bd_divisor : Tx.BindR r_divisor := fun _ _ _ _ _ _ us hl => match us, hl with | [_, _], _ => rfl
theorem bd_is_fraction : Tx.BindR r_is_fraction := fun _ _ _ _ _ _ us hl => match us, hl with | [_], _ => rfl
theorem bd_check_people : Tx.BindR r_check_people := fun _ _ _ _ _ _ us hl => match us, hl with | [_], _ => rfl
theorem bd_check_things : Tx.BindR r_check_things := fun _ _ _ _ _ _ us hl => match us, hl with | [_, _], _ => rfl
theorem bd_are_shares : Tx.BindR r_are_shares := fun _ _ _ _ _ _ us hl => match us, hl with | [_, _, _], _ => rfl
theorem bd_first_wrong : Tx.BindR r_first_wrong := fun _ _ _ _ _ _ us hl => match us, hl with | [_, _, _], _ => rfl
theorem bd_check_row : Tx.BindR r_check_row := fun _ _ _ _ _ _ us hl => match us, hl with | [_, _, _], _ => rfl
theorem bd_number_in : Tx.BindR r_number_in := fun _ _ _ _ _ _ us hl => match us, hl with | [_], _ => rfl
theorem bd_numbers_in : Tx.BindR r_numbers_in := fun _ _ _ _ _ _ us hl => match us, hl with | [_], _ => rfl
theorem bd_numbers_text : Tx.BindR r_numbers_text := fun _ _ _ _ _ _ us hl => match us, hl with | [_], _ => rfl
theorem bd_fraction_text : Tx.BindR r_fraction_text := fun _ _ _ _ _ _ us hl => match us, hl with | [_], _ => rfl
theorem bd_row_text : Tx.BindR r_row_text := fun _ _ _ _ _ _ us hl => match us, hl with | [_, _, _], _ => rfl
theorem bd_lines_in : Tx.BindR r_lines_in := fun _ _ _ _ _ _ us hl => match us, hl with | [_], _ => rfl
theorem bd_head_in : Tx.BindR r_head_in := fun _ _ _ _ _ _ us hl => match us, hl with | [_], _ => rfl
theorem bd_shares_in : Tx.BindR r_shares_in := fun _ _ _ _ _ _ us hl => match us, hl with | [_], _ => rfl
theorem bd_read_row : Tx.BindR r_read_row := fun _ _ _ _ _ _ us hl => match us, hl with | [_], _ => rfl
theorem bd_check_lots : Tx.BindR r_check_lots := fun _ _ _ _ _ _ us hl => match us, hl with | [_], _ => rfl
theorem bd_lots_text : Tx.BindR r_lots_text := fun _ _ _ _ _ _ us hl => match us, hl with | [_], _ => rfl
theorem bd_read_lots : Tx.BindR r_read_lots := fun _ _ _ _ _ _ us hl => match us, hl with | [_], _ => rfl
theorem bd__law_hand : Tx.BindR r__law_hand := fun _ _ _ _ _ _ us hl => match us, hl with | [_], _ => rfl
theorem bd__law_draw : Tx.BindR r__law_draw := fun _ _ _ _ _ _ us hl => match us, hl with | [_, _], _ => rfl
theorem bd__law_any : Tx.BindR r__law_any := fun _ _ _ _ _ _ us hl => match us, hl with | [_, _], _ => rfl
theorem bd__law_lowest : Tx.BindR r__law_lowest := fun _ _ _ _ _ _ us hl => match us, hl with | [_, _], _ => rfl
theorem bd__law_fraction_told : Tx.BindR r__law_fraction_told := fun _ _ _ _ _ _ us hl => match us, hl with | [_], _ => rfl
theorem bd__law_row_told : Tx.BindR r__law_row_told := fun _ _ _ _ _ _ us hl => match us, hl with | [_, _, _], _ => rfl
theorem bd__law_lots_told : Tx.BindR r__law_lots_told := fun _ _ _ _ _ _ us hl => match us, hl with | [_], _ => rfl
theorem bd__law_shares : Tx.BindR r__law_shares := fun _ _ _ _ _ _ us hl => match us, hl with | [_, _, _], _ => rfl
theorem bd__law_row : Tx.BindR r__law_row := fun _ _ _ _ _ _ us hl => match us, hl with | [_, _, _, _], _ => rfl
theorem bd__law_lots : Tx.BindR r__law_lots := fun _ _ _ _ _ _ us hl => match us, hl with | [_, _], _ => rfl
theorem bd_law : Tx.BindR r_law := fun _ _ _ _ _ _ us hl => match us, hl with | [_], _ => rfl
theorem ofCons {p : Ev.Row → Prop} {a : Ev.Row} {l : List Ev.Row} (h : p a) (t : ∀ r ∈ l, p r) : ∀ r ∈ a :: l, p r := fun r hr => by
  cases hr with
  | head => exact h
  | tail _ hr => exact t r hr
theorem ckAll : ∀ r ∈ tx.rows, tx.rowOk r = true := ofCons ck_is_integer (ofCons ck_is_within (ofCons ck_is_pair (ofCons ck_is_lot (ofCons ck_divisor (ofCons ck_is_fraction (ofCons ck_check_people (ofCons ck_check_things (ofCons ck_are_shares (ofCons ck_first_wrong (ofCons ck_check_row (ofCons ck_number_in (ofCons ck_numbers_in (ofCons ck_numbers_text (ofCons ck_fraction_text (ofCons ck_row_text (ofCons ck_lines_in (ofCons ck_head_in (ofCons ck_shares_in (ofCons ck_read_row (ofCons ck_check_lots (ofCons ck_lots_text (ofCons ck_read_lots (ofCons ck__law_hand (ofCons ck__law_draw (ofCons ck__law_any (ofCons ck__law_lowest (ofCons ck__law_fraction_told (ofCons ck__law_row_told (ofCons ck__law_lots_told (ofCons ck__law_shares (ofCons ck__law_row (ofCons ck__law_lots (fun r h => by cases h)))))))))))))))))))))))))))))))))
theorem bdAll : ∀ r ∈ tx.rows, Tx.BindR r := ofCons bd_is_integer (ofCons bd_is_within (ofCons bd_is_pair (ofCons bd_is_lot (ofCons bd_divisor (ofCons bd_is_fraction (ofCons bd_check_people (ofCons bd_check_things (ofCons bd_are_shares (ofCons bd_first_wrong (ofCons bd_check_row (ofCons bd_number_in (ofCons bd_numbers_in (ofCons bd_numbers_text (ofCons bd_fraction_text (ofCons bd_row_text (ofCons bd_lines_in (ofCons bd_head_in (ofCons bd_shares_in (ofCons bd_read_row (ofCons bd_check_lots (ofCons bd_lots_text (ofCons bd_read_lots (ofCons bd__law_hand (ofCons bd__law_draw (ofCons bd__law_any (ofCons bd__law_lowest (ofCons bd__law_fraction_told (ofCons bd__law_row_told (ofCons bd__law_lots_told (ofCons bd__law_shares (ofCons bd__law_row (ofCons bd__law_lots (fun r h => by cases h)))))))))))))))))))))))))))))))))
theorem run_is_integer (n : Nat) (a0 : D) (h : Hh) : run tx.pg tx.fns (n + 1) 0 [a0] h = fin false h (evSs tx.pg (run tx.pg tx.fns n) b_is_integer [some a0] h) := run_of (f := f_is_integer) rfl rfl rfl rfl rfl
theorem run_is_within (n : Nat) (a0 a1 a2 : D) (h : Hh) : run tx.pg tx.fns (n + 1) 1 [a0, a1, a2] h = fin false h (evSs tx.pg (run tx.pg tx.fns n) b_is_within [some a0, some a1, some a2] h) := run_of (f := f_is_within) rfl rfl rfl rfl rfl
theorem run_is_pair (n : Nat) (a0 : D) (h : Hh) : run tx.pg tx.fns (n + 1) 2 [a0] h = fin false h (evSs tx.pg (run tx.pg tx.fns n) b_is_pair [some a0] h) := run_of (f := f_is_pair) rfl rfl rfl rfl rfl
theorem run_is_lot (n : Nat) (a0 a1 : D) (h : Hh) : run tx.pg tx.fns (n + 1) 3 [a0, a1] h = fin false h (evSs tx.pg (run tx.pg tx.fns n) b_is_lot [some a0, some a1, none, none] h) := run_of (f := f_is_lot) rfl rfl rfl rfl rfl
theorem run_divisor (n : Nat) (a0 a1 : D) (h : Hh) : run tx.pg tx.fns (n + 1) 4 [a0, a1] h = fin false h (evSs tx.pg (run tx.pg tx.fns n) b_divisor [some a0, some a1] h) := run_of (f := f_divisor) rfl rfl rfl rfl rfl
theorem run_is_fraction (n : Nat) (a0 : D) (h : Hh) : run tx.pg tx.fns (n + 1) 5 [a0] h = fin false h (evSs tx.pg (run tx.pg tx.fns n) b_is_fraction [some a0] h) := run_of (f := f_is_fraction) rfl rfl rfl rfl rfl
theorem run_check_people (n : Nat) (a0 : D) (h : Hh) : run tx.pg tx.fns (n + 1) 6 [a0] h = fin false h (evSs tx.pg (run tx.pg tx.fns n) b_check_people [some a0] h) := run_of (f := f_check_people) rfl rfl rfl rfl rfl
theorem run_check_things (n : Nat) (a0 a1 : D) (h : Hh) : run tx.pg tx.fns (n + 1) 7 [a0, a1] h = fin false h (evSs tx.pg (run tx.pg tx.fns n) b_check_things [some a0, some a1] h) := run_of (f := f_check_things) rfl rfl rfl rfl rfl
theorem run_are_shares (n : Nat) (a0 a1 a2 : D) (h : Hh) : run tx.pg tx.fns (n + 1) 8 [a0, a1, a2] h = fin false h (evSs tx.pg (run tx.pg tx.fns n) b_are_shares [some a0, some a1, some a2, none] h) := run_of (f := f_are_shares) rfl rfl rfl rfl rfl
theorem run_first_wrong (n : Nat) (a0 a1 a2 : D) (h : Hh) : run tx.pg tx.fns (n + 1) 9 [a0, a1, a2] h = fin false h (evSs tx.pg (run tx.pg tx.fns n) b_first_wrong [some a0, some a1, some a2, none, none] h) := run_of (f := f_first_wrong) rfl rfl rfl rfl rfl
theorem run_check_row (n : Nat) (a0 a1 a2 : D) (h : Hh) : run tx.pg tx.fns (n + 1) 10 [a0, a1, a2] h = fin false h (evSs tx.pg (run tx.pg tx.fns n) b_check_row [some a0, some a1, some a2, none] h) := run_of (f := f_check_row) rfl rfl rfl rfl rfl
theorem run_number_in (n : Nat) (a0 : D) (h : Hh) : run tx.pg tx.fns (n + 1) 11 [a0] h = fin false h (evSs tx.pg (run tx.pg tx.fns n) b_number_in [some a0, none] h) := run_of (f := f_number_in) rfl rfl rfl rfl rfl
theorem run_numbers_in (n : Nat) (a0 : D) (h : Hh) : run tx.pg tx.fns (n + 1) 12 [a0] h = fin false h (evSs tx.pg (run tx.pg tx.fns n) b_numbers_in [some a0, none, none] h) := run_of (f := f_numbers_in) rfl rfl rfl rfl rfl
theorem run_numbers_text (n : Nat) (a0 : D) (h : Hh) : run tx.pg tx.fns (n + 1) 13 [a0] h = fin false h (evSs tx.pg (run tx.pg tx.fns n) b_numbers_text [some a0, none] h) := run_of (f := f_numbers_text) rfl rfl rfl rfl rfl
theorem run_fraction_text (n : Nat) (a0 : D) (h : Hh) : run tx.pg tx.fns (n + 1) 14 [a0] h = fin false h (evSs tx.pg (run tx.pg tx.fns n) b_fraction_text [some a0] h) := run_of (f := f_fraction_text) rfl rfl rfl rfl rfl
theorem run_row_text (n : Nat) (a0 a1 a2 : D) (h : Hh) : run tx.pg tx.fns (n + 1) 15 [a0, a1, a2] h = fin true h (evSs tx.pg (run tx.pg tx.fns n) b_row_text [some a0, some a1, some a2, none, none, none, none] h) := run_of (f := f_row_text) rfl rfl rfl rfl rfl
theorem run_lines_in (n : Nat) (a0 : D) (h : Hh) : run tx.pg tx.fns (n + 1) 16 [a0] h = fin false h (evSs tx.pg (run tx.pg tx.fns n) b_lines_in [some a0, none] h) := run_of (f := f_lines_in) rfl rfl rfl rfl rfl
theorem run_head_in (n : Nat) (a0 : D) (h : Hh) : run tx.pg tx.fns (n + 1) 17 [a0] h = fin false h (evSs tx.pg (run tx.pg tx.fns n) b_head_in [some a0, none, none] h) := run_of (f := f_head_in) rfl rfl rfl rfl rfl
theorem run_shares_in (n : Nat) (a0 : D) (h : Hh) : run tx.pg tx.fns (n + 1) 18 [a0] h = fin false h (evSs tx.pg (run tx.pg tx.fns n) b_shares_in [some a0, none, none] h) := run_of (f := f_shares_in) rfl rfl rfl rfl rfl
theorem run_read_row (n : Nat) (a0 : D) (h : Hh) : run tx.pg tx.fns (n + 1) 19 [a0] h = fin true h (evSs tx.pg (run tx.pg tx.fns n) b_read_row [some a0, none, none, none, none, none, none, none] h) := run_of (f := f_read_row) rfl rfl rfl rfl rfl
theorem run_check_lots (n : Nat) (a0 : D) (h : Hh) : run tx.pg tx.fns (n + 1) 20 [a0] h = fin false h (evSs tx.pg (run tx.pg tx.fns n) b_check_lots [some a0, none] h) := run_of (f := f_check_lots) rfl rfl rfl rfl rfl
theorem run_lots_text (n : Nat) (a0 : D) (h : Hh) : run tx.pg tx.fns (n + 1) 21 [a0] h = fin false h (evSs tx.pg (run tx.pg tx.fns n) b_lots_text [some a0, none] h) := run_of (f := f_lots_text) rfl rfl rfl rfl rfl
theorem run_read_lots (n : Nat) (a0 : D) (h : Hh) : run tx.pg tx.fns (n + 1) 22 [a0] h = fin true h (evSs tx.pg (run tx.pg tx.fns n) b_read_lots [some a0, none, none, none, none, none, none] h) := run_of (f := f_read_lots) rfl rfl rfl rfl rfl
theorem run__law_hand (n : Nat) (a0 : D) (h : Hh) : run tx.pg tx.fns (n + 1) 23 [a0] h = fin false h (evSs tx.pg (run tx.pg tx.fns n) b__law_hand [some a0, none, none] h) := run_of (f := f__law_hand) rfl rfl rfl rfl rfl
theorem run__law_draw (n : Nat) (a0 a1 : D) (h : Hh) : run tx.pg tx.fns (n + 1) 24 [a0, a1] h = fin false h (evSs tx.pg (run tx.pg tx.fns n) b__law_draw [some a0, some a1, none, none, none] h) := run_of (f := f__law_draw) rfl rfl rfl rfl rfl
theorem run__law_any (n : Nat) (a0 a1 : D) (h : Hh) : run tx.pg tx.fns (n + 1) 25 [a0, a1] h = fin false h (evSs tx.pg (run tx.pg tx.fns n) b__law_any [some a0, some a1] h) := run_of (f := f__law_any) rfl rfl rfl rfl rfl
theorem run__law_lowest (n : Nat) (a0 a1 : D) (h : Hh) : run tx.pg tx.fns (n + 1) 26 [a0, a1] h = fin false h (evSs tx.pg (run tx.pg tx.fns n) b__law_lowest [some a0, some a1, none, none] h) := run_of (f := f__law_lowest) rfl rfl rfl rfl rfl
theorem run__law_fraction_told (n : Nat) (a0 : D) (h : Hh) : run tx.pg tx.fns (n + 1) 27 [a0] h = fin false h (evSs tx.pg (run tx.pg tx.fns n) b__law_fraction_told [some a0] h) := run_of (f := f__law_fraction_told) rfl rfl rfl rfl rfl
theorem run__law_row_told (n : Nat) (a0 a1 a2 : D) (h : Hh) : run tx.pg tx.fns (n + 1) 28 [a0, a1, a2] h = fin false h (evSs tx.pg (run tx.pg tx.fns n) b__law_row_told [some a0, some a1, some a2, none, none, none, none] h) := run_of (f := f__law_row_told) rfl rfl rfl rfl rfl
theorem run__law_lots_told (n : Nat) (a0 : D) (h : Hh) : run tx.pg tx.fns (n + 1) 29 [a0] h = fin false h (evSs tx.pg (run tx.pg tx.fns n) b__law_lots_told [some a0, none, none] h) := run_of (f := f__law_lots_told) rfl rfl rfl rfl rfl
theorem run__law_shares (n : Nat) (a0 a1 a2 : D) (h : Hh) : run tx.pg tx.fns (n + 1) 30 [a0, a1, a2] h = fin true h (evSs tx.pg (run tx.pg tx.fns n) b__law_shares [some a0, some a1, some a2, none, none, none, none, none, none] h) := run_of (f := f__law_shares) rfl rfl rfl rfl rfl
theorem run__law_row (n : Nat) (a0 a1 a2 a3 : D) (h : Hh) : run tx.pg tx.fns (n + 1) 31 [a0, a1, a2, a3] h = fin false h (evSs tx.pg (run tx.pg tx.fns n) b__law_row [some a0, some a1, some a2, some a3, none] h) := run_of (f := f__law_row) rfl rfl rfl rfl rfl
theorem run__law_lots (n : Nat) (a0 a1 : D) (h : Hh) : run tx.pg tx.fns (n + 1) 32 [a0, a1] h = fin true h (evSs tx.pg (run tx.pg tx.fns n) b__law_lots [some a0, some a1, none, none, none, none] h) := run_of (f := f__law_lots) rfl rfl rfl rfl rfl
end TX
set_option maxRecDepth 100000
namespace TX
open PySem PySem.Spec L2 Ev
open PyProof.Rows hiding St
@[simp] theorem v_is_integer (n : Nat) (i : Int) (h : Hh) : run tx.pg tx.fns (n + 1) 0 [.int i] h = .ok (.bl true) h := by
  rw [run_is_integer]
  simp [b_is_integer]
@[simp] theorem v_is_within (n : Nat) (i j k : Int) (h : Hh) : run tx.pg tx.fns (n + 2) 1 [.int i, .int j, .int k] h = .ok (.bl (decide (j ≤ i) && decide (i ≤ k))) h := by
  rw [run_is_within]
  simp [b_is_within]
  by_cases q : j ≤ i <;> simp [q]
@[simp] theorem v_is_pair (n : Nat) (x y : D) (h : Hh) : run tx.pg tx.fns (n + 1) 2 [.tup [x, y]] h = .ok (.bl true) h := by
  rw [run_is_pair]
  simp [b_is_pair]
theorem lim_small {n : Nat} (q : n ≤ 16777216) : lim n := lim_le q
@[simp] theorem lim0 : lim 0 := lim_le (by omega)
@[simp] theorem lim1 : lim 1 := lim_le (by omega)
@[simp] theorem lim2 : lim 2 := lim_le (by omega)
@[simp] theorem lim3 : lim 3 := lim_le (by omega)
/-- the greatest common divisor -/
theorem v_divisor (n : Nat) (h : Hh) (a : Int) (b : Nat) : run tx.pg tx.fns (n + 1) 4 [.int a, .int b] h = .ok (.int (Int.gcd a b : Nat)) h := by
  rw [run_divisor]
  have loop : ∀ (b : Nat) (a : Int), ∃ m a', whileL (evT tx.pg (run tx.pg tx.fns n) (.cmp .ne (.v 1) (.c (.int 0)))) (evSs tx.pg (run tx.pg tx.fns n) (.cons (.par [0, 1] (.cons (.v 1) (.cons (.bin .mod (.v 0) (.v 1)) .nil))) .nil)) m [some (.int a), some (.int b)] h = .nx [some (.int a'), some (.int 0)] h ∧ a'.natAbs = Int.gcd a b := by
    intro b
    induction b using Nat.strongRecOn with
    | ind b ih =>
      intro a
      by_cases hb : b = 0
      · subst hb
        exact ⟨1, a, by simp [whileL], by simp⟩
      · have hlt : (a.fmod b).toNat < b := by
          have h1 := Int.fmod_lt_of_pos a (b := (b : Int)) (by omega)
          have h2 := Int.fmod_nonneg_of_pos a (b := (b : Int)) (by omega)
          omega
        have h2 := Int.fmod_nonneg_of_pos a (b := (b : Int)) (by omega)
        obtain ⟨m, a', e, g⟩ := ih _ hlt (b : Int)
        refine ⟨m + 1, a', ?_, ?_⟩
        · have hc : ((a.fmod b).toNat : Int) = a.fmod b := Int.toNat_of_nonneg h2
          rw [hc] at e
          unfold whileL
          simp [hb]
          exact e
        · rw [g, Int.toNat_of_nonneg h2, Int.fmod_eq_emod_of_nonneg _ (by omega)]
          rw [Int.emod_def, Int.gcd_sub_mul_left_right, Int.gcd_comm]
  obtain ⟨m, a', e, g⟩ := loop b a
  simp only [b_divisor, ap_Ss_cons, ap_S_whl]
  rw [whileS_of m (by rw [e]; simp), e]
  simp
  rw [← g]
  split <;> omega
theorem v_is_fraction (n : Nat) (h : Hh) (a : Int) (b : Nat) (hb : 1 ≤ b) : run tx.pg tx.fns (n + 2) 5 [.tup [.int a, .int b]] h = .ok (.bl (decide (Int.gcd a b = 1))) h := by
  rw [run_is_fraction]
  simp [b_is_fraction, v_divisor, show ¬ ((b : Int) < 1) by omega]
  norm_cast
theorem v_check_people (n : Nat) (h : Hh) (i : Int) (h1 : 1 ≤ i) (h2 : i ≤ 12) : run tx.pg tx.fns (n + 3) 6 [.int i] h = .ok .non h := by
  rw [run_check_people]
  have e : tx.pg.gv 0 = .int 12 := rfl
  simp [b_check_people, e, h1, h2]
theorem v_check_things (n : Nat) (h : Hh) (i j : Int) (h1 : 1 ≤ i) (h2 : i ≤ 12) (h3 : 1 ≤ j) (h4 : j ≤ i) : run tx.pg tx.fns (n + 4) 7 [.int i, .int j] h = .ok .non h := by
  rw [run_check_things]
  simp [b_check_things, v_check_people, h1, h2, h3, h4]
end TX
set_option maxRecDepth 100000
namespace TX
open PySem PySem.Spec L2 Ev
open PyProof.Rows hiding St
/-- one beat's shares -/
structure Sh where
  b : Nat
  tops : List Nat
def natD (k : Nat) : D := .int k
def Sh.d (x : Sh) : D := .tup [.int x.b, .tup (x.tops.map natD)]
structure Sh.Ok (N M : Nat) (x : Sh) : Prop where
  b1 : 1 ≤ x.b
  b2 : x.b ≤ 360
  len : x.tops.length = N
  top : ∀ t ∈ x.tops, t ≤ x.b
  sum : x.tops.sum = M * x.b
theorem sum_cast (l : List Nat) : (l.map fun k : Nat => (k : Int)).sum = (l.sum : Nat) := by
  induction l with
  | nil => rfl
  | cons a l ih => simp only [List.map_cons, List.sum_cons, ih]; omega
theorem v_are_shares (n : Nat) (h : Hh) (N M : Nat) (x : Sh) (ok : x.Ok N M) (hN : N ≤ 12) (hM : M ≤ 12) : run tx.pg tx.fns (n + 3) 8 [.int N, .int M, x.d] h = .ok (.bl true) h := by
  rw [run_are_shares]
  have e : tx.pg.gv 1 = .int 360 := rfl
  have b1 := ok.b1
  have b2 := ok.b2
  have c := comp_map (tg := .n 3) (cond := evT2 tx.pg (run tx.pg tx.fns (n + 2)) .no) (elt := evE tx.pg (run tx.pg tx.fns (n + 2)) (.call 1 (.cons (.v 3) (.cons (.c (.int 0)) (.cons (.ix (.v 2) (.c (.int 0))) .nil))))) (s0 := [some (.int N), some (.int M), some x.d, none]) (h := h) (inj := natD) (f := fun _ => .bl true) x.tops fun t ht => by
    have := ok.top t ht
    refine ⟨_, rfl, rfl, ?_⟩
    simp [Sh.d, natD]
    omega
  have sm : bltD .sum h [.tup (x.tops.map natD)] = some (.int (x.tops.sum : Nat)) := by
    have : x.tops.map natD = (x.tops.map fun k : Nat => (k : Int)).map D.int := by rw [List.map_map]; rfl
    rw [this, sum_tup, sum_cast]
  have al : bltD .all h [.lst (x.tops.map fun _ => D.bl true)] = some (.bl true) := by
    have : (x.tops.map fun _ => D.bl true) = (x.tops.map fun _ => true).map D.bl := by rw [List.map_map]; rfl
    rw [this, all_bls]
    simp
  simp only [b_are_shares]
  have c1 : ¬ ((x.b : Int) < 1 ∨ (360 : Int) < x.b) := by omega
  have hl := ok.len
  simp only [Sh.d] at c
  have lm : lim N := lim_le (by omega)
  have mo : mulOk (M : Int) (x.b : Int) := .inl (.inl ⟨by omega, by omega⟩)
  have sx := ok.sum
  simp [e, c1, Sh.d, sm, hl, c, lm, al, mo]
  norm_cast
end TX
set_option maxRecDepth 100000
namespace TX
open PySem PySem.Spec L2 Ev
open PyProof.Rows hiding St
def rowD (r : List Sh) : D := .tup (r.map Sh.d)
theorem v_first_wrong (n : Nat) (h : Hh) (N M : Nat) (r : List Sh) (ok : ∀ x ∈ r, x.Ok N M) (hN : N ≤ 12) (hM : M ≤ 12) (hr : r.length ≤ 400) : run tx.pg tx.fns (n + 4) 9 [.int N, .int M, rowD r] h = .ok .non h := by
  rw [run_first_wrong]
  have e : tx.pg.gv 2 = .int 400 := (rfl)
  have c1 : ¬ ((400 : Int) < r.length) := by omega
  have loop : ∀ (xs : List Sh), (∀ x ∈ xs, x.Ok N M) → ∀ (k : Nat) (a b : Option D), ∃ a' b', forL [] (evTg tx.pg (run tx.pg tx.fns (n + 3)) (.tg (.t [3, 4]))) (evSs tx.pg (run tx.pg tx.fns (n + 3)) (.cons (.ife (.not (.e (.call 8 (.cons (.v 0) (.cons (.v 1) (.cons (.v 4) .nil)))))) (.cons (.ret (.v 3)) .nil) .nil) .nil)) (enumL k (xs.map Sh.d)) [some (.int N), some (.int M), some (rowD r), a, b] h = .nx [some (.int N), some (.int M), some (rowD r), a', b'] h := by
    intro xs
    induction xs with
    | nil => exact fun _ k a b => ⟨a, b, forL_nil gok_nil⟩
    | cons x xs ih =>
      intro ok k a b
      obtain ⟨a', b', q⟩ := ih (fun y hy => ok y (List.mem_cons_of_mem _ hy)) (k + 1) (some (.int k)) (some x.d)
      refine ⟨a', b', ?_⟩
      rw [List.map_cons]
      show forL [] _ _ (.tup [.int (k : Nat), x.d] :: enumL (k + 1) (xs.map Sh.d)) _ h = _
      rw [forL_cons gok_nil]
      simp [v_are_shares n h N M x (ok x List.mem_cons_self) hN hM]
      exact q
  obtain ⟨a', b', q⟩ := loop r ok 0 none none
  simp only [rowD] at q
  simp [b_first_wrong, e, rowD, c1, q]
theorem v_check_row (n : Nat) (h : Hh) (N M : Nat) (r : List Sh) (ok : ∀ x ∈ r, x.Ok N M) (h1 : 1 ≤ N) (hN : N ≤ 12) (h2 : 1 ≤ M) (hM : M ≤ N) (hr : r.length ≤ 400) : run tx.pg tx.fns (n + 5) 10 [.int N, .int M, rowD r] h = .ok .non h := by
  rw [run_check_row]
  have c1 := v_check_things n h N M (by omega) (by omega) (by omega) (by omega)
  have c2 := v_first_wrong n h N M r ok hN (by omega) hr
  simp [b_check_row, c1, c2]
/-! ### texts -/
theorem digit_in {k c : Nat} (hc : c ∈ TL.numL k) : c ∈ [48, 49, 50, 51, 52, 53, 54, 55, 56, 57] := by
  have := TL.numL_digits k c hc
  simp
  omega
theorem v_number_in (n : Nat) (h : Hh) (k : Nat) (hk : k < 10 ^ 9) : run tx.pg tx.fns (n + 1) 11 [sD (TL.numL k)] h = .ok (.int k) h := by
  rw [run_number_in]
  have hlen : (TL.numL k).length ≤ 9 := TL.numL_len (by omega) hk
  have hne : (TL.numL k) ≠ [] := TL.numL_ne k
  have h1 : 1 ≤ (TL.numL k).length := List.length_pos_iff.mpr hne
  have e3 : tx.pg.gv 3 = .str (SX.S [48, 49, 50, 51, 52, 53, 54, 55, 56, 57]) := (rfl)
  have e4 : tx.pg.gv 4 = .int 9 := (rfl)
  have lm : lim (TL.numL k).length := lim_le (by omega)
  have c1 : (1 : Int) ≤ (TL.numL k).length := by omega
  have c2 : ((TL.numL k).length : Int) ≤ 9 := by omega
  have c := comp_map (tg := .n 1) (cond := evT2 tx.pg (run tx.pg tx.fns n) .no) (elt := evE tx.pg (run tx.pg tx.fns n) (.tst (.cmp .in_ (.v 1) (.g 3)))) (s0 := [some (.str (SX.S (TL.numL k))), none]) (h := h) (inj := fun c => sD [c]) (f := fun _ => .bl true) (TL.numL k) fun c hc => by
    have := digit_in hc
    refine ⟨_, rfl, rfl, ?_⟩
    simp [sD, e3]
    simpa using this
  rw [← signL_map] at c
  have al : bltD .all h [.lst ((TL.numL k).map fun _ => D.bl true)] = some (.bl true) := by
    have : ((TL.numL k).map fun _ => D.bl true) = ((TL.numL k).map fun _ => true).map D.bl := by rw [List.map_map]; rfl
    rw [this, all_bls]
    simp
  have hi := int_num h (k := k) (by omega)
  by_cases hl : (TL.numL k).length = 1
  · simp [b_number_in, sD, e3, e4, lm, c, al, hi, hl]
  · have hk1 : 1 ≤ k := by
      rcases Nat.eq_zero_or_pos k with q | q
      · subst q
        exact absurd (by rw [TL.numL_lt (by omega)]; rfl) hl
      · exact q
    obtain ⟨d, r, ed, hd⟩ := numL_head k hk1
    have i0 : ixD h (.str (SX.S (TL.numL k))) (.int 0) = some (.str (SX.S [d])) := by rw [ed]; exact ix_str0 (by rw [← ed]; omega)
    have cq : cmpB .eq h (.str (SX.S [d])) (.str (SX.S [48])) = some false := by
      rw [cmp_eqS]
      · simp [hd]
      · intro c hc
        have : c ∈ TL.numL k := by rw [ed]; cases List.mem_singleton.mp hc; exact List.mem_cons_self
        exact numL_asc k c this
      · intro c hc; cases List.mem_singleton.mp hc; omega
    have c3 : (1 : Int) < (TL.numL k).length := by omega
    simp [b_number_in, sD, e3, e4, lm, c, al, hi, c1, c2, c3, i0, cq]
end TX
set_option maxRecDepth 100000
namespace TX
open PySem PySem.Spec L2 Ev
open PyProof.Rows hiding St
theorem log_small {k : Nat} (h : k < 10 ^ 9) : k.log2 < 1920 := by
  rcases Nat.eq_zero_or_pos k with q | q
  · subst q; decide
  · have : k.log2 < 30 := (Nat.log2_lt (by omega)).mpr (by omega)
    omega
theorem len_sum {ls : List Nat} {c : Nat} : ∀ {l : List Nat}, (∀ k ∈ l, k < 10 ^ 9) → ((l.map TL.numL).map List.length).sum ≤ 9 * l.length
  | [], _ => by simp
  | a :: l, h => by
    have h1 : (TL.numL a).length ≤ 9 := TL.numL_len (by omega) (h a List.mem_cons_self)
    have h2 := len_sum (ls := ls) (c := c) (l := l) fun k hk => h k (List.mem_cons_of_mem _ hk)
    simp only [List.map_cons, List.sum_cons, List.length_cons]
    omega
theorem joinL_len (s : List Nat) : ∀ l : List (List Nat), (TL.joinL s l).length ≤ (l.map List.length).sum + l.length * s.length
  | [] => by simp [TL.joinL]
  | [p] => by simp [TL.joinL]
  | p :: q :: r => by
    have := joinL_len s (q :: r)
    show (p ++ (s ++ TL.joinL s (q :: r))).length ≤ _
    simp only [List.length_append, List.map_cons, List.sum_cons, List.length_cons, Nat.add_mul, Nat.one_mul] at this ⊢
    omega
/-- 1,2,3 -/
def csv (l : List Nat) : List Nat := TL.joinL [44] (l.map TL.numL)
theorem csv_len {l : List Nat} (h : ∀ k ∈ l, k < 10 ^ 9) : (csv l).length ≤ 10 * l.length := by
  have h1 := joinL_len [44] (l.map TL.numL)
  have h2 := len_sum (ls := []) (c := 0) h
  unfold csv
  simp only [List.length_map, List.length_cons, List.length_nil] at h1
  omega
theorem csv_asc (l : List Nat) : asc (csv l) := asc_join (fun c hc => by cases List.mem_singleton.mp hc; omega) fun p hp => by
  obtain ⟨k, _, rfl⟩ := List.mem_map.mp hp
  exact numL_asc k
theorem pyDs_nat : ∀ l : List Nat, pyDs (l.map natD) = some (l.map fun k : Nat => .int k)
  | [] => rfl
  | a :: l => by
    rw [List.map_cons, List.map_cons]
    unfold pyDs
    rw [pyDs_nat l]; rfl
theorem lay_nat : ∀ l : List Nat, PyData.canLayAll0 (l.map fun k : Nat => PyData.int k) = true
  | [] => rfl
  | a :: l => by
    rw [List.map_cons]
    unfold PyData.canLayAll0
    rw [lay_nat l]; rfl
theorem dep_nat : ∀ l : List Nat, PyData.depthAll (l.map fun k : Nat => PyData.int k) = 0
  | [] => rfl
  | a :: l => by
    rw [List.map_cons]
    unfold PyData.depthAll
    rw [dep_nat l]; rfl
theorem shaped_nat (l : List Nat) : SeqAt.shaped (.tuple (l.map fun k : Nat => .int k)) = true := by
  unfold SeqAt.shaped PyData.canLay0 PyData.depth
  rw [lay_nat, dep_nat]; rfl
theorem in_none_nat (h : Hh) (l : List Nat) : cmpB .in_ h .non (.tup (l.map natD)) = some false :=
  in_none (pyDs_nat l) (shaped_nat l) fun p hp => by
    obtain ⟨k, _, rfl⟩ := List.mem_map.mp hp
    simp only [PyData.eqv]
theorem v_numbers_in (n : Nat) (h : Hh) (l : List Nat) (hl : l ≠ []) (h9 : ∀ k ∈ l, k < 10 ^ 9) (h12 : l.length ≤ 12) : run tx.pg tx.fns (n + 2) 12 [sD (csv l)] h = .ok (.tup (l.map natD)) h := by
  rw [run_numbers_in]
  have sp : splO (.str (SX.S (csv l))) [.str (SX.S [44])] = some (.lst ((l.map TL.numL).map sD)) := by
    rw [splO_S (by simp) rfl (by have := csv_len h9; omega)]
    unfold csv
    rw [TL.spl_join (by simpa using hl)]
    intro p hp
    obtain ⟨k, _, rfl⟩ := List.mem_map.mp hp
    exact TL.numL_free (by omega)
  have c := comp_map (tg := .n 2) (cond := evT2 tx.pg (run tx.pg tx.fns (n + 1)) .no) (elt := evE tx.pg (run tx.pg tx.fns (n + 1)) (.call 11 (.cons (.v 2) .nil))) (s0 := [some (.str (SX.S (csv l))), none, none]) (h := h) (inj := fun k => sD (TL.numL k)) (f := natD) l fun k hk => by
    refine ⟨_, rfl, rfl, ?_⟩
    simp [v_number_in n h k (h9 k hk)]
    rfl
  have e : (l.map TL.numL).map sD = l.map fun k => sD (TL.numL k) := by rw [List.map_map]; rfl
  rw [e] at sp
  have lm : lim l.length := lim_le (by omega)
  have inn := in_none_nat h l
  simp [b_numbers_in, sD, sp] at c ⊢
  simp [c, lm, inn]
theorem v_numbers_text (n : Nat) (h : Hh) (l : List Nat) (h9 : ∀ k ∈ l, k < 10 ^ 9) (h12 : l.length ≤ 12) : run tx.pg tx.fns (n + 1) 13 [.tup (l.map natD)] h = .ok (sD (csv l)) h := by
  rw [run_numbers_text]
  have c := comp_map (tg := .n 1) (cond := evT2 tx.pg (run tx.pg tx.fns n) .no) (elt := evE tx.pg (run tx.pg tx.fns n) (.blt .str (.cons (.v 1) .nil))) (s0 := [some (.tup (l.map natD)), none]) (h := h) (inj := natD) (f := fun k => sD (TL.numL k)) l fun k hk => by
    refine ⟨_, rfl, rfl, ?_⟩
    have := log_small (h9 k hk)
    simp [natD, sD, this]
  have e : (l.map TL.numL).map sD = l.map fun k => sD (TL.numL k) := by rw [List.map_map]; rfl
  have lm : lim l.length := lim_le (by omega)
  have hs := len_sum (ls := []) (c := 0) h9
  have j := join_S (h := h) (a := [44]) (ls := l.map TL.numL) (by simp only [List.length_map, List.length_cons, List.length_nil]; omega)
  rw [e] at j
  simp [b_numbers_text, c, lm, j]
  rfl
end TX
set_option maxRecDepth 100000
namespace TX
open PySem PySem.Spec L2 Ev
open PyProof.Rows hiding St
/-! ### rows as texts -/
def headL (N M : Nat) : List Nat := TL.joinL [32] [[114, 111, 119], TL.numL N, TL.numL M]
def Sh.line (x : Sh) : List Nat := TL.joinL [32] [[115, 104, 97, 114, 101, 115], TL.numL x.b, csv x.tops]
theorem csv_free {l : List Nat} {s : Nat} (hs : s < 44) : s ∉ csv l := by
  unfold csv
  induction l with
  | nil => simp [TL.joinL]
  | cons a l ih =>
    have ha : s ∉ TL.numL a := TL.numL_free (by omega)
    cases l with
    | nil => simpa [TL.joinL] using ha
    | cons b l =>
      show s ∉ TL.numL a ++ ([44] ++ TL.joinL [44] ((b :: l).map TL.numL))
      simp only [List.mem_append, List.mem_singleton, not_or]
      exact ⟨ha, by omega, ih⟩
theorem v_head_in (n : Nat) (h : Hh) (N M : Nat) (hN : N ≤ 12) (hM : M ≤ 12) : run tx.pg tx.fns (n + 2) 17 [sD (headL N M)] h = .ok (.tup [.int N, .int M]) h := by
  rw [run_head_in]
  have hl1 : (TL.numL N).length ≤ 9 := TL.numL_len (by omega) (by omega)
  have hl2 : (TL.numL M).length ≤ 9 := TL.numL_len (by omega) (by omega)
  have sp : splO (.str (SX.S (headL N M))) [.str (SX.S [32])] = some (.lst [sD [114, 111, 119], sD (TL.numL N), sD (TL.numL M)]) := by
    rw [splO_S (by simp) rfl (by simp [headL, TL.joinL]; omega)]
    unfold headL
    rw [TL.spl_join (by simp)]
    · rfl
    · intro p hp
      simp at hp
      rcases hp with rfl | rfl | rfl
      · simp
      · exact TL.numL_free (by omega)
      · exact TL.numL_free (by omega)
  have cn : cmpB .ne h (.str (SX.S [114, 111, 119])) (.str (SX.S [114, 111, 119])) = some false := by
    rw [cmp_neS (fun c hc => by simp at hc; omega) (fun c hc => by simp at hc; omega)]; simp
  have inn := in_none_nat h [N, M]
  have v1 := v_number_in n h N (by omega)
  have v2 := v_number_in n h M (by omega)
  simp only [sD, natD, List.map_cons, List.map_nil] at sp inn v1 v2
  simp [b_head_in, sD, sp, cn, inn, v1, v2]
theorem pySh (b : Nat) (l : List Nat) : pyDs [.int b, .tup (l.map natD)] = some [.int b, .tuple (l.map fun k : Nat => .int k)] := by
  simp only [pyDs, pyD, pyDs_nat, Option.map_some]
theorem shapedSh (b : Nat) (l : List Nat) : SeqAt.shaped (.tuple [.int b, .tuple (l.map fun k : Nat => .int k)]) = true := by
  unfold SeqAt.shaped PyData.canLay0 PyData.depth
  simp only [PyData.canLayAll0, PyData.canLay0, PyData.depthAll, PyData.depth, lay_nat, dep_nat]
  rfl
theorem v_shares_in (n : Nat) (h : Hh) (N M : Nat) (x : Sh) (ok : x.Ok N M) (h1 : 1 ≤ N) (hN : N ≤ 12) : run tx.pg tx.fns (n + 3) 18 [sD x.line] h = .ok x.d h := by
  rw [run_shares_in]
  have b2 := ok.b2
  have hl := ok.len
  have t9 : ∀ k ∈ x.tops, k < 10 ^ 9 := fun k hk => by have := ok.top k hk; omega
  have hne : x.tops ≠ [] := fun e => by rw [e] at hl; simp at hl; omega
  have hl1 : (TL.numL x.b).length ≤ 9 := TL.numL_len (by omega) (by omega)
  have hl2 := csv_len t9
  have sp : splO (.str (SX.S x.line)) [.str (SX.S [32])] = some (.lst [sD [115, 104, 97, 114, 101, 115], sD (TL.numL x.b), sD (csv x.tops)]) := by
    rw [splO_S (by simp) rfl (by simp [Sh.line, TL.joinL]; omega)]
    unfold Sh.line
    rw [TL.spl_join (by simp)]
    · rfl
    · intro p hp
      simp at hp
      rcases hp with rfl | rfl | rfl
      · simp
      · exact TL.numL_free (by omega)
      · exact csv_free (by omega)
  have cn : cmpB .ne h (.str (SX.S [115, 104, 97, 114, 101, 115])) (.str (SX.S [115, 104, 97, 114, 101, 115])) = some false := by
    rw [cmp_neS (fun c hc => by simp at hc; omega) (fun c hc => by simp at hc; omega)]; simp
  have inn : cmpB .in_ h .non (.tup [.int x.b, .tup (x.tops.map natD)]) = some false := in_none (pySh x.b x.tops) (shapedSh x.b x.tops) fun p hp => by
    simp at hp
    rcases hp with rfl | rfl <;> simp only [PyData.eqv]
  have v1 := v_number_in (n + 1) h x.b (by omega)
  have v2 := v_numbers_in n h x.tops hne t9 (by omega)
  simp only [sD] at sp v1 v2
  simp [b_shares_in, sD, sp, cn, inn, v1, v2, Sh.d]
/-- lines, each with a line feed behind it -/
def feeds (ls : List (List Nat)) : List Nat := (ls.map (· ++ [10])).flatten
theorem feeds_join : ∀ ls : List (List Nat), TL.joinL [] (ls.map (· ++ [10])) = feeds ls
  | [] => rfl
  | [p] => by simp [TL.joinL, feeds]
  | p :: q :: r => by
    have ih := feeds_join (q :: r)
    show (p ++ [10]) ++ ([] ++ TL.joinL [] ((q :: r).map (· ++ [10]))) = _
    rw [ih]; simp [feeds]
theorem feeds_split : ∀ ls : List (List Nat), feeds ls = TL.joinL [10] (ls ++ [[]])
  | [] => rfl
  | p :: r => by
    have ih := feeds_split r
    have e : feeds (p :: r) = p ++ ([10] ++ feeds r) := by simp [feeds]
    rw [e, ih]
    cases r with
    | nil => rfl
    | cons q r => rfl
theorem v_lines_in (n : Nat) (h : Hh) (ls : List (List Nat)) (free : ∀ p ∈ ls, 10 ∉ p) (hl : (feeds ls).length ≤ 1000000) : run tx.pg tx.fns (n + 1) 16 [sD (feeds ls)] h = .ok (.tup [.lst (ls.map sD), sD []]) h := by
  rw [run_lines_in]
  have sp : splO (.str (SX.S (feeds ls))) [.str (SX.S [10])] = some (.lst (ls.map sD ++ [sD []])) := by
    rw [splO_S (by simp) rfl (by omega), feeds_split, TL.spl_join (by simp)]
    · simp
    · intro p hp
      rcases List.mem_append.mp hp with q | q
      · exact free p q
      · simp at q; subst q; simp
  have ng : ∀ s, negE (evE tx.pg (run tx.pg tx.fns n) (.c (.int 1))) s h = .ok (.int (-1)) h := fun s => ap_negE rfl
  simp only [sD] at sp
  simp [b_lines_in, sD, sp, ng, cut_init]
end TX
set_option maxRecDepth 100000
namespace TX
open PySem PySem.Spec L2 Ev
open PyProof.Rows hiding St
def rowLs (N M : Nat) (r : List Sh) : List (List Nat) := headL N M :: r.map Sh.line
theorem head_len {N M : Nat} (hN : N ≤ 12) (hM : M ≤ 12) : (headL N M).length ≤ 30 := by
  have hl1 : (TL.numL N).length ≤ 9 := TL.numL_len (by omega) (by omega)
  have hl2 : (TL.numL M).length ≤ 9 := TL.numL_len (by omega) (by omega)
  simp [headL, TL.joinL]; omega
theorem line_len {N M : Nat} {x : Sh} (ok : x.Ok N M) (hN : N ≤ 12) : x.line.length ≤ 140 := by
  have b2 := ok.b2
  have hl := ok.len
  have t9 : ∀ k ∈ x.tops, k < 10 ^ 9 := fun k hk => by have := ok.top k hk; omega
  have hl1 : (TL.numL x.b).length ≤ 9 := TL.numL_len (by omega) (by omega)
  have hl2 := csv_len t9
  simp [Sh.line, TL.joinL]; omega
theorem sum_le {ls : List (List Nat)} {c : Nat} (h : ∀ p ∈ ls, p.length ≤ c) : (ls.map List.length).sum ≤ ls.length * c := by
  induction ls with
  | nil => simp
  | cons p r ih =>
    have h1 := h p List.mem_cons_self
    have h2 := ih fun q hq => h q (List.mem_cons_of_mem _ hq)
    simp only [List.map_cons, List.sum_cons, List.length_cons, Nat.add_mul, Nat.one_mul]
    omega
theorem feeds_len {ls : List (List Nat)} {c : Nat} (h : ∀ p ∈ ls, p.length ≤ c) : (feeds ls).length ≤ ls.length * (c + 1) := by
  induction ls with
  | nil => simp [feeds]
  | cons p r ih =>
    have h1 := h p List.mem_cons_self
    have h2 := ih fun q hq => h q (List.mem_cons_of_mem _ hq)
    have e : feeds (p :: r) = p ++ ([10] ++ feeds r) := by simp [feeds]
    rw [e]
    simp only [List.length_append, List.length_cons, List.length_nil, Nat.add_mul, Nat.one_mul]
    omega
theorem rowLs_len {N M : Nat} {r : List Sh} (ok : ∀ x ∈ r, x.Ok N M) (hN : N ≤ 12) (hM : M ≤ 12) : ∀ p ∈ rowLs N M r, p.length ≤ 140 := fun p hp => by
  rcases List.mem_cons.mp hp with q | q
  · subst q; have := head_len hN hM; omega
  · obtain ⟨x, hx, rfl⟩ := List.mem_map.mp q
    exact line_len (ok x hx) hN
theorem lim_app {a b : Nat} (h : a + b ≤ 16777216) : lim (a + b) := lim_le h
theorem v_row_text (n : Nat) (h : Hh) (N M : Nat) (r : List Sh) (ok : ∀ x ∈ r, x.Ok N M) (h1 : 1 ≤ N) (hN : N ≤ 12) (h2 : 1 ≤ M) (hM : M ≤ N) (hr : r.length ≤ 400) :
    run tx.pg tx.fns (n + 6) 15 [.int N, .int M, rowD r] h = .ok (sD (feeds (rowLs N M r))) h := by
  rw [run_row_text]
  have cr := v_check_row n h N M r ok h1 hN h2 hM hr
  have hn1 : (TL.numL N).length ≤ 9 := TL.numL_len (by omega) (by omega)
  have hn2 : (TL.numL M).length ≤ 9 := TL.numL_len (by omega) (by omega)
  have g1 : N.log2 < 1920 := log_small (by omega)
  have g2 : M.log2 < 1920 := log_small (by omega)
  have l1 : lim (4 + (TL.numL N).length) := lim_le (by omega)
  have loop : ∀ (xs : List Sh), (∀ x ∈ xs, x.Ok N M) → ∀ (fs : List (List Nat)) (a b : Option D), fs.length + xs.length ≤ 500 → ∃ a' b', forL [] (evTg tx.pg (run tx.pg tx.fns (n + 5)) (.tg (.t [4, 5]))) (evSs tx.pg (run tx.pg tx.fns (n + 5)) (.cons (.ex (.bm .append (.v 3) (.cons (.bin .add (.bin .add (.bin .add (.c (.str (SX.S [115, 104, 97, 114, 101, 115, 32]))) (.blt .str (.cons (.v 4) .nil))) (.c (.str (SX.S [32])))) (.call 13 (.cons (.v 5) .nil))) .nil))) .nil)) (xs.map Sh.d)
      [some (.int N), some (.int M), some (rowD r), some (.ref h.length), a, b, none] (h ++ [.lst (fs.map sD)]) = .nx [some (.int N), some (.int M), some (rowD r), some (.ref h.length), a', b', none] (h ++ [.lst ((fs ++ xs.map Sh.line).map sD)]) := by
    intro xs
    induction xs with
    | nil => exact fun _ fs a b _ => ⟨a, b, by simp [forL_nil gok_nil]⟩
    | cons x xs ih =>
      intro okx fs a b hl
      have okx0 := okx x List.mem_cons_self
      have b2 := okx0.b2
      have t9 : ∀ k ∈ x.tops, k < 10 ^ 9 := fun k hk => by have := okx0.top k hk; omega
      have hl1 : (TL.numL x.b).length ≤ 9 := TL.numL_len (by omega) (by omega)
      have hl2 := csv_len t9
      have hl3 := okx0.len
      have gx : x.b.log2 < 1920 := log_small (by omega)
      have nt := v_numbers_text (n + 4) (h ++ [.lst (fs.map sD)]) x.tops t9 (by omega)
      have ap := append_end (h := h) (xs := fs.map sD) (y := sD x.line) (by simp at hl ⊢; omega)
      obtain ⟨a', b', q⟩ := ih (fun y hy => okx y (List.mem_cons_of_mem _ hy)) (fs ++ [x.line]) (some (.int x.b)) (some (.tup (x.tops.map natD))) (by simp at hl ⊢; omega)
      refine ⟨a', b', ?_⟩
      rw [List.map_cons, forL_cons gok_nil]
      have el : x.line = [115, 104, 97, 114, 101, 115] ++ ([32] ++ (TL.numL x.b ++ ([32] ++ csv x.tops))) := rfl
      simp only [sD] at nt
      simp [sD, el] at ap q
      simp (disch := omega) [Sh.d, gx, ite_lim, nt, ap, sD, el]
      exact q
  obtain ⟨a', b', q⟩ := loop r ok [headL N M] none none (by simp; omega)
  have eh : headL N M = [114, 111, 119] ++ ([32] ++ (TL.numL N ++ ([32] ++ TL.numL M))) := rfl
  have c := comp_mapG (gs := [(h.length, (rowLs N M r).map sD)]) (tg := .n 6) (cond := evT2 tx.pg (run tx.pg tx.fns (n + 5)) .no) (elt := evE tx.pg (run tx.pg tx.fns (n + 5)) (.bin .add (.v 6) (.c (.str (SX.S [10])))))
    (s0 := [some (.int N), some (.int M), some (rowD r), some (.ref h.length), a', b', none]) (h := h ++ [.lst ((rowLs N M r).map sD)]) (inj := sD) (f := fun p => sD (p ++ [10])) gok_end (rowLs N M r) fun p hp => by
    have := rowLs_len ok hN (by omega) p hp
    refine ⟨_, rfl, rfl, ?_⟩
    simp (disch := (simp; omega)) [sD, ite_lim]
  have sl : (((rowLs N M r).map (· ++ [10])).map List.length).sum ≤ 401 * 141 := by
    have := sum_le (ls := (rowLs N M r).map (· ++ [10])) (c := 141) fun p hp => by
      obtain ⟨p', hp', rfl⟩ := List.mem_map.mp hp
      have := rowLs_len ok hN (by omega) p' hp'
      simp; omega
    simp only [List.length_map] at this
    have : (rowLs N M r).length ≤ 401 := by simp [rowLs]; omega
    omega
  have lr : (rowLs N M r).length ≤ 401 := by simp [rowLs]; omega
  have j := join_S (h := h ++ [.lst ((rowLs N M r).map sD)]) (a := []) (ls := (rowLs N M r).map (· ++ [10])) (by simp only [List.length_map, List.length_nil] at sl ⊢; omega)
  have ej : ((rowLs N M r).map (· ++ [10])).map sD = (rowLs N M r).map fun p => sD (p ++ [10]) := by rw [List.map_map]; rfl
  rw [ej, feeds_join] at j
  have hf := fin_rt_app (h := h) (g := [.lst ((rowLs N M r).map sD)]) (d := sD (feeds (rowLs N M r))) (by simp [sD])
  rw [show [headL N M] ++ r.map Sh.line = rowLs N M r from rfl] at q
  have ll : lim (rowLs N M r).length := lim_le (by omega)
  simp [sD, eh, rowD] at q c cr j hf
  simp (disch := omega) [b_row_text, sD, rowD, cr, g1, g2, ite_lim, q, c, ll, j, hf]
end TX
set_option maxRecDepth 100000
namespace TX
open PySem PySem.Spec L2 Ev
open PyProof.Rows hiding St
theorem numL_no10 (k : Nat) : 10 ∉ TL.numL k := TL.numL_free (by omega)
theorem rowLs_free (N M : Nat) (r : List Sh) : ∀ p ∈ rowLs N M r, 10 ∉ p := fun p hp => by
  rcases List.mem_cons.mp hp with q | q
  · subst q
    have a := numL_no10 N
    have b := numL_no10 M
    simp [headL, TL.joinL, a, b]
  · obtain ⟨x, _, rfl⟩ := List.mem_map.mp q
    have a := numL_no10 x.b
    have b : 10 ∉ csv x.tops := csv_free (by omega)
    simp [Sh.line, TL.joinL, a, b]
def retD (N M : Nat) (r : List Sh) : D := .tup [.int N, .int M, rowD r]
theorem lo_nat (k : Nat) (l : List Nat) : D.los k (l.map natD) = true := los_map fun x _ => by simp [natD]
theorem lo_row (k : Nat) (r : List Sh) : D.los k (r.map Sh.d) = true := los_map fun x _ => by simp [Sh.d, lo_nat]
theorem v_read_row (n : Nat) (h : Hh) (N M : Nat) (r : List Sh) (ok : ∀ x ∈ r, x.Ok N M) (h1 : 1 ≤ N) (hN : N ≤ 12) (h2 : 1 ≤ M) (hM : M ≤ N) (hr : r.length ≤ 400) :
    run tx.pg tx.fns (n + 6) 19 [sD (feeds (rowLs N M r))] h = .ok (retD N M r) h := by
  rw [run_read_row]
  have lr : (rowLs N M r).length ≤ 401 := by simp [rowLs]; omega
  have fl := feeds_len (ls := rowLs N M r) (c := 140) (rowLs_len ok hN (by omega))
  have li := v_lines_in (n + 4) h (rowLs N M r) (rowLs_free N M r) (by omega)
  have body : ∀ (xs : List Sh), (∀ x ∈ xs, x.Ok N M) → ∀ (ds : List Sh) (k : Nat) (hd a b c : D) (L t : D), ds.length + xs.length ≤ 500 → ∃ a' b' c', forL [] (evTg tx.pg (run tx.pg tx.fns (n + 5)) (.tg (.t [5, 6])))
      (evSs tx.pg (run tx.pg tx.fns (n + 5)) (.cons (.set 7 (.ite (.cmp .eq (.v 5) (.c (.int 0))) (.call 17 (.cons (.v 6) .nil)) (.call 18 (.cons (.v 6) .nil)))) (.cons (.ife (.cmp .is_ (.v 7) (.c .non)) (.cons (.stk) .nil) .nil) (.cons (.ife (.cmp .eq (.v 5) (.c (.int 0))) (.cons (.set 3 (.v 7)) .nil) (.cons (.ex (.bm .append (.v 4) (.cons (.v 7) .nil))) .nil)) .nil))))
      (enumL (k + 1) (xs.map fun x => sD x.line)) [some t, some L, some (sD []), some hd, some (.ref h.length), some a, some b, some c] (h ++ [.lst (ds.map Sh.d)]) =
      .nx [some t, some L, some (sD []), some hd, some (.ref h.length), some a', some b', some c'] (h ++ [.lst ((ds ++ xs).map Sh.d)]) := by
    intro xs
    induction xs with
    | nil => exact fun _ ds k hd a b c L t _ => ⟨a, b, c, by simp [enumL, forL_nil gok_nil]⟩
    | cons x xs ih =>
      intro okx ds k hd a b c L t hl
      have okx0 := okx x List.mem_cons_self
      have si := v_shares_in (n + 2) (h ++ [.lst (ds.map Sh.d)]) N M x okx0 h1 hN
      have ap := append_end (h := h) (xs := ds.map Sh.d) (y := x.d) (by simp at hl ⊢; omega)
      obtain ⟨a', b', c', q⟩ := ih (fun y hy => okx y (List.mem_cons_of_mem _ hy)) (ds ++ [x]) (k + 1) hd (.int (k + 1 : Nat)) (sD x.line) x.d L t (by simp at hl ⊢; omega)
      refine ⟨a', b', c', ?_⟩
      rw [List.map_cons]
      show forL [] _ _ (.tup [.int (k + 1 : Nat), sD x.line] :: enumL (k + 1 + 1) (xs.map fun x => sD x.line)) _ _ = _
      rw [forL_cons gok_nil]
      have k0 : ¬ ((k : Int) + 1 = 0) := by omega
      have isn : cmpB .is_ (h ++ [.lst (ds.map Sh.d)]) x.d .non = some false := rfl
      simp at ap q
      simp [k0, si, isn, ap]
      exact q
  have hi := v_head_in (n + 3) (h ++ [.lst []]) N M hN (by omega)
  obtain ⟨a', b', c', q⟩ := body r ok [] 0 (.tup [.int N, .int M]) (.int (0 : Nat)) (sD (headL N M)) (.tup [.int N, .int M]) (.lst ((rowLs N M r).map sD)) (sD (feeds (rowLs N M r))) (by simp; omega)
  have isn : cmpB .is_ (h ++ [.lst []]) (.tup [.int N, .int M]) .non = some false := rfl
  have first : forL [] (evTg tx.pg (run tx.pg tx.fns (n + 5)) (.tg (.t [5, 6])))
      (evSs tx.pg (run tx.pg tx.fns (n + 5)) (.cons (.set 7 (.ite (.cmp .eq (.v 5) (.c (.int 0))) (.call 17 (.cons (.v 6) .nil)) (.call 18 (.cons (.v 6) .nil)))) (.cons (.ife (.cmp .is_ (.v 7) (.c .non)) (.cons (.stk) .nil) .nil) (.cons (.ife (.cmp .eq (.v 5) (.c (.int 0))) (.cons (.set 3 (.v 7)) .nil) (.cons (.ex (.bm .append (.v 4) (.cons (.v 7) .nil))) .nil)) .nil))))
      (enumL 0 ((rowLs N M r).map sD)) [some (sD (feeds (rowLs N M r))), some (.lst ((rowLs N M r).map sD)), some (sD []), some .non, some (.ref h.length), none, none, none] (h ++ [.lst []]) =
      .nx [some (sD (feeds (rowLs N M r))), some (.lst ((rowLs N M r).map sD)), some (sD []), some (.tup [.int N, .int M]), some (.ref h.length), some a', some b', some c'] (h ++ [.lst (r.map Sh.d)]) := by
    have e : enumL 0 ((rowLs N M r).map sD) = .tup [.int (0 : Nat), sD (headL N M)] :: enumL (0 + 1) (r.map fun x => sD x.line) := by
      unfold rowLs
      rw [List.map_cons, List.map_map]
      rfl
    rw [e, forL_cons gok_nil]
    simp at q
    simp [hi, isn]
    exact q
  have cr := v_check_row n (h ++ [.lst (r.map Sh.d)]) N M r ok h1 hN h2 hM hr
  have cn : cmpB .ne (h ++ [.lst (r.map Sh.d)]) (.str (SX.S [])) (.str (SX.S [])) = some false := by
    rw [cmp_neS (fun c hc => by cases hc) (fun c hc => by cases hc)]; simp
  have isn2 : cmpB .is_ (h ++ [.lst (r.map Sh.d)]) (.tup [.int N, .int M]) .non = some false := rfl
  have hf := fin_rt_app (h := h) (g := [.lst (r.map Sh.d)]) (d := retD N M r) (by simp [retD, rowD, lo_row])
  simp [retD, rowD, sD] at li first cr hf
  simp (disch := omega) [b_read_row, sD, li, first, cr, cn, isn2, hf, retD, rowD, ite_lim]
end TX
set_option maxRecDepth 100000
namespace TX
open PySem PySem.Spec L2 Ev
open PyProof.Rows hiding St
/-! ### lots -/
structure LotOk (l : List Nat) : Prop where
  up : l.Pairwise (· < ·)
  lt : ∀ k ∈ l, k < 12
  len : l.length ≤ 12
def lotD (l : List Nat) : D := .tup (l.map natD)
def lotsD (ls : List (List Nat)) : D := .tup (ls.map lotD)
def lotL (l : List Nat) : List Nat := if l = [] then [45] else csv l
theorem cut1 (xs : List D) : Ev.cutD xs (some 1) none = xs.drop 1 := by
  unfold Ev.cutD HT.sIx
  cases xs with
  | nil => simp
  | cons a l => simp
theorem zip_nat : ∀ l m : List Nat, zipL (l.map natD) (m.map natD) = (l.zip m).map fun p => .tup [natD p.1, natD p.2]
  | [], _ => by simp [zipL]
  | a :: l, [] => by simp [zipL]
  | a :: l, b :: m => by
    simp only [List.map_cons, List.zip_cons_cons]
    unfold zipL
    rw [zip_nat l m]
theorem zip_lt : ∀ l : List Nat, l.Pairwise (· < ·) → ∀ p ∈ l.zip (l.drop 1), p.1 < p.2
  | [], _, p, hp => by simp at hp
  | [a], _, p, hp => by simp at hp
  | a :: b :: r, h, p, hp => by
    simp only [List.drop_succ_cons, List.drop_zero, List.zip_cons_cons, List.mem_cons] at hp
    rcases hp with q | q
    · subst q
      exact (List.pairwise_cons.mp h).1 b List.mem_cons_self
    · exact zip_lt (b :: r) (List.pairwise_cons.mp h).2 p (by simpa using q)
theorem all_true {α : Type} (h : Hh) (l : List α) : bltD .all h [.lst (l.map fun _ => D.bl true)] = some (.bl true) := by
  have : (l.map fun _ => D.bl true) = (l.map fun _ => true).map D.bl := by rw [List.map_map]; rfl
  rw [this, all_bls]
  simp
theorem v_is_lot (n : Nat) (h : Hh) (l : List Nat) (ok : LotOk l) : run tx.pg tx.fns (n + 3) 3 [lotD l, .int 12] h = .ok (.bl true) h := by
  rw [run_is_lot]
  have c := comp_map (tg := .n 2) (cond := evT2 tx.pg (run tx.pg tx.fns (n + 2)) .no) (elt := evE tx.pg (run tx.pg tx.fns (n + 2)) (.call 1 (.cons (.v 2) (.cons (.c (.int 0)) (.cons (.bin .sub (.v 1) (.c (.int 1))) .nil)))))
    (s0 := [some (lotD l), some (.int 12), none, none]) (h := h) (inj := natD) (f := fun _ => .bl true) l fun t ht => by
    have := ok.lt t ht
    refine ⟨_, rfl, rfl, ?_⟩
    simp [natD]
    omega
  have c2 := comp_map (tg := .t [2, 3]) (cond := evT2 tx.pg (run tx.pg tx.fns (n + 2)) .no) (elt := evE tx.pg (run tx.pg tx.fns (n + 2)) (.tst (.cmp .lt (.v 2) (.v 3))))
    (s0 := [some (lotD l), some (.int 12), none, none]) (h := h) (inj := fun p : Nat × Nat => .tup [natD p.1, natD p.2]) (f := fun _ => .bl true) (l.zip (l.drop 1)) fun p hp => by
    have := zip_lt l ok.up p hp
    refine ⟨_, rfl, rfl, ?_⟩
    simp [natD]
    omega
  rw [← zip_nat] at c2
  have ez : slD h (.tup (l.map natD)) (some 1) none = some (.tup ((l.drop 1).map natD)) := by
    show some (D.tup (Ev.cutD _ _ _)) = _
    rw [cut1, List.map_drop]
  have a1 := all_true h l
  have a2 := all_true h (l.zip (l.drop 1))
  have hl := ok.len
  have l1 : lim l.length := lim_le (by omega)
  have l2 : lim (l.zip (l.drop 1)).length := lim_le (by simp; omega)
  simp only [lotD] at c c2
  simp [b_is_lot, lotD, c, l1, a1, ez]
  simp at c2 l2 a2
  simp [c2, l2, a2]
theorem v_check_lots (n : Nat) (h : Hh) (ls : List (List Nat)) (ok : ∀ l ∈ ls, LotOk l) (hl : ls.length ≤ 400) : run tx.pg tx.fns (n + 4) 20 [lotsD ls] h = .ok .non h := by
  rw [run_check_lots]
  have e0 : tx.pg.gv 0 = .int 12 := (rfl)
  have e2 : tx.pg.gv 2 = .int 400 := (rfl)
  have c := comp_map (tg := .n 1) (cond := evT2 tx.pg (run tx.pg tx.fns (n + 3)) .no) (elt := evE tx.pg (run tx.pg tx.fns (n + 3)) (.call 3 (.cons (.v 1) (.cons (.g 0) .nil)))) (s0 := [some (lotsD ls), none]) (h := h) (inj := lotD) (f := fun _ => .bl true) ls fun l hl => by
    refine ⟨_, rfl, rfl, ?_⟩
    simp [e0, v_is_lot n h l (ok l hl)]
  have a1 := all_true h ls
  have l1 : lim ls.length := lim_le (by omega)
  have c1 : ¬ ((400 : Int) < ls.length) := by omega
  simp only [lotsD] at c
  simp [b_check_lots, lotsD, e2, c1, c, l1, a1]
theorem lotL_len {l : List Nat} (ok : LotOk l) : (lotL l).length ≤ 120 := by
  unfold lotL
  split
  · simp
  · have := csv_len (l := l) fun k hk => by have := ok.lt k hk; omega
    have := ok.len
    omega
theorem v_lots_text (n : Nat) (h : Hh) (ls : List (List Nat)) (ok : ∀ l ∈ ls, LotOk l) (hl : ls.length ≤ 400) : run tx.pg tx.fns (n + 5) 21 [lotsD ls] h = .ok (sD (feeds (ls.map lotL))) h := by
  rw [run_lots_text]
  have e5 : tx.pg.gv 5 = .str (SX.S [45]) := (rfl)
  have cl := v_check_lots n h ls ok hl
  have c := comp_map (tg := .n 1) (cond := evT2 tx.pg (run tx.pg tx.fns (n + 4)) .no) (elt := evE tx.pg (run tx.pg tx.fns (n + 4)) (.bin .add (.ite (.cmp .gt (.blt .len (.cons (.v 1) .nil)) (.c (.int 0))) (.call 13 (.cons (.v 1) .nil)) (.g 5)) (.c (.str (SX.S [10])))))
    (s0 := [some (lotsD ls), none]) (h := h) (inj := lotD) (f := fun l => sD (lotL l ++ [10])) ls fun l hl => by
    refine ⟨_, rfl, rfl, ?_⟩
    have okl := ok l hl
    have t9 : ∀ k ∈ l, k < 10 ^ 9 := fun k hk => by have := okl.lt k hk; omega
    have nt := v_numbers_text (n + 3) h l t9 okl.len
    have h1 := csv_len t9
    have h2 := okl.len
    by_cases e : l = []
    · subst e
      simp [lotD, e5, lotL, sD]
    · have := List.length_pos_iff.mpr e
      simp only [sD] at nt
      simp (disch := omega) [lotD, this, nt, lotL, e, sD, ite_lim]
  have lr : (ls.map (fun l => lotL l ++ [10])).length ≤ 400 := by simpa using hl
  have sl : ((ls.map fun l => lotL l ++ [10]).map List.length).sum ≤ 400 * 121 := by
    have := sum_le (ls := ls.map fun l => lotL l ++ [10]) (c := 121) fun p hp => by
      obtain ⟨l, hl, rfl⟩ := List.mem_map.mp hp
      have := lotL_len (ok l hl)
      simp; omega
    omega
  have j := join_S (h := h) (a := []) (ls := ls.map fun l => lotL l ++ [10]) (by simp only [List.length_nil]; omega)
  have ej : (ls.map fun l => lotL l ++ [10]).map sD = ls.map fun l => sD (lotL l ++ [10]) := by rw [List.map_map]; rfl
  have ef : (ls.map fun l => lotL l ++ [10]) = (ls.map lotL).map (· ++ [10]) := by rw [List.map_map]; rfl
  rw [ej, ef, feeds_join] at j
  have l1 : lim ls.length := lim_le (by omega)
  simp [lotsD, sD] at c cl j
  simp [b_lots_text, lotsD, sD, cl, c, l1, j]
theorem csv_ne {l : List Nat} (hl : l ≠ []) : csv l ≠ [45] := by
  obtain ⟨a, r, rfl⟩ := List.exists_cons_of_ne_nil hl
  intro e
  have hd : ∃ c q, csv (a :: r) = c :: q ∧ 48 ≤ c := by
    obtain ⟨c, q, ec⟩ := List.exists_cons_of_ne_nil (TL.numL_ne a)
    have hc := TL.numL_digits a c (by rw [ec]; exact List.mem_cons_self)
    refine ⟨c, q ++ (match r with | [] => [] | b :: r => [44] ++ csv (b :: r)), ?_, by omega⟩
    cases r with
    | nil => simp [csv, TL.joinL, ec]
    | cons b r =>
      show TL.numL a ++ ([44] ++ csv (b :: r)) = _
      rw [ec]; rfl
  obtain ⟨c, q, ec, hc⟩ := hd
  rw [ec] at e
  cases e
  omega
theorem lotL_free (l : List Nat) : 10 ∉ lotL l := by
  unfold lotL
  split
  · simp
  · exact csv_free (by omega)
theorem lotL_asc (l : List Nat) : asc (lotL l) := by
  unfold lotL
  split
  · intro c hc; cases List.mem_singleton.mp hc; omega
  · exact csv_asc l
theorem lo_lots (k : Nat) (ls : List (List Nat)) : D.los k (ls.map lotD) = true := los_map fun x _ => by simp [lotD, lo_nat]
theorem v_read_lots (n : Nat) (h : Hh) (ls : List (List Nat)) (ok : ∀ l ∈ ls, LotOk l) (hl : ls.length ≤ 400) : run tx.pg tx.fns (n + 5) 22 [sD (feeds (ls.map lotL))] h = .ok (lotsD ls) h := by
  rw [run_read_lots]
  have e5 : tx.pg.gv 5 = .str (SX.S [45]) := (rfl)
  have fl := feeds_len (ls := ls.map lotL) (c := 120) fun p hp => by
    obtain ⟨l, hl, rfl⟩ := List.mem_map.mp hp
    exact lotL_len (ok l hl)
  have li := v_lines_in (n + 3) h (ls.map lotL) (fun p hp => by
    obtain ⟨l, hl, rfl⟩ := List.mem_map.mp hp
    exact lotL_free l) (by simp at fl; omega)
  have body : ∀ (xs : List (List Nat)), (∀ l ∈ xs, LotOk l) → ∀ (ds : List (List Nat)) (k : Nat) (a b c : Option D) (L t : D), ds.length + xs.length ≤ 500 → ∃ a' b' c', forL [] (evTg tx.pg (run tx.pg tx.fns (n + 4)) (.tg (.t [4, 5])))
      (evSs tx.pg (run tx.pg tx.fns (n + 4)) (.cons (.set 6 (.ite (.cmp .eq (.v 5) (.g 5)) (.tup .nil) (.call 12 (.cons (.v 5) .nil)))) (.cons (.ife (.cmp .is_ (.v 6) (.c .non)) (.cons (.stk) .nil) .nil) (.cons (.ex (.bm .append (.v 3) (.cons (.v 6) .nil))) .nil))))
      (enumL k (xs.map fun l => sD (lotL l))) [some t, some L, some (sD []), some (.ref h.length), a, b, c] (h ++ [.lst (ds.map lotD)]) =
      .nx [some t, some L, some (sD []), some (.ref h.length), a', b', c'] (h ++ [.lst ((ds ++ xs).map lotD)]) := by
    intro xs
    induction xs with
    | nil => exact fun _ ds k a b c L t _ => ⟨a, b, c, by simp [enumL, forL_nil gok_nil]⟩
    | cons x xs ih =>
      intro okx ds k a b c L t hl
      have okx0 := okx x List.mem_cons_self
      have t9 : ∀ k ∈ x, k < 10 ^ 9 := fun k hk => by have := okx0.lt k hk; omega
      have ap := append_end (h := h) (xs := ds.map lotD) (y := lotD x) (by simp at hl ⊢; omega)
      obtain ⟨a', b', c', q⟩ := ih (fun y hy => okx y (List.mem_cons_of_mem _ hy)) (ds ++ [x]) (k + 1) (some (.int k)) (some (sD (lotL x))) (some (lotD x)) L t (by simp at hl ⊢; omega)
      refine ⟨a', b', c', ?_⟩
      rw [List.map_cons]
      show forL [] _ _ (.tup [.int k, sD (lotL x)] :: enumL (k + 1) (xs.map fun l => sD (lotL l))) _ _ = _
      rw [forL_cons gok_nil]
      have isn : cmpB .is_ (h ++ [.lst (ds.map lotD)]) (lotD x) .non = some false := rfl
      have cq : cmpB .eq (h ++ [.lst (ds.map lotD)]) (.str (SX.S (lotL x))) (.str (SX.S [45])) = some (decide (lotL x = [45])) := cmp_eqS (lotL_asc x) fun c hc => by cases List.mem_singleton.mp hc; omega
      simp at ap q
      by_cases e : x = []
      · subst e
        have e1 : lotL [] = [45] := rfl
        have e2 : lotD [] = .tup [] := rfl
        rw [e1] at cq
        simp [e1, e2, sD] at cq q ap isn ⊢
        simp [e5, cq, isn, ap]
        exact q
      · have e1 : lotL x = csv x := if_neg e
        have ne := csv_ne e
        have ni := v_numbers_in (n + 2) (h ++ [.lst (ds.map lotD)]) x e t9 okx0.len
        have e2 : .tup (x.map natD) = lotD x := rfl
        rw [e2] at ni
        rw [e1] at cq
        simp [e1, sD, ne] at cq q ni ⊢
        simp [e5, cq, ni, isn, ap]
        exact q
  obtain ⟨a', b', c', q⟩ := body ls ok [] 0 none none none (.lst ((ls.map lotL).map sD)) (sD (feeds (ls.map lotL))) (by simp; omega)
  have cn : cmpB .ne (h ++ [.lst (ls.map lotD)]) (.str (SX.S [])) (.str (SX.S [])) = some false := by
    rw [cmp_neS (fun c hc => by cases hc) (fun c hc => by cases hc)]; simp
  have cl := v_check_lots n (h ++ [.lst (ls.map lotD)]) ls ok hl
  have hf := fin_rt_app (h := h) (g := [.lst (ls.map lotD)]) (d := lotsD ls) (by simp [lotsD, lo_lots])
  have em : (ls.map lotL).map sD = ls.map fun l => sD (lotL l) := by rw [List.map_map]; rfl
  rw [em] at q li
  simp [lotsD, sD] at li q cl hf
  simp [b_read_lots, sD, li, q, cn, cl, hf, lotsD]
end TX
set_option maxRecDepth 100000
namespace TX
open PySem PySem.Spec L2 Ev
open PyProof.Rows hiding St
/-! ### the hand -/
def drawTail : Ss := .cons (.ife (.cmp .gt (.ix (.v 0) (.c (.int 2))) (.c (.int 0))) (.cons (.set 3 (.bin .mod (.blt .int (.cons (.ix (.v 0) (.c (.int 2))) .nil)) (.v 1))) (.cons (.asg (.ix (.v 0) (.c (.int 2))) (.bin .fdiv (.ix (.v 0) (.c (.int 2))) (.v 1))) (.cons (.ret (.v 3)) .nil))) .nil) (.cons (.asg (.ix (.v 0) (.c (.int 4))) (.bin .add (.ix (.v 0) (.c (.int 4))) (.c (.int 1)))) (.cons (.set 4 (.bin .mod (.blt .int (.cons (.bin .mul (.blt .int (.cons (.bin .add (.ix (.v 0) (.c (.int 3))) (.bin .mul (.c (.int 7919)) (.ix (.v 0) (.c (.int 4))))) .nil)) (.c (.int 48271))) .nil)) (.c (.int 2147483647)))) (.cons (.set 4 (.bin .mod (.blt .int (.cons (.bin .mul (.v 4) (.bin .add (.bin .fdiv (.v 4) (.c (.int 1009))) (.c (.int 69621)))) .nil)) (.c (.int 2147483647)))) (.cons (.set 4 (.bin .mod (.blt .int (.cons (.bin .mul (.v 4) (.bin .add (.bin .fdiv (.v 4) (.c (.int 2003))) (.c (.int 40692)))) .nil)) (.c (.int 2147483399)))) (.cons (.ret (.bin .mod (.blt .int (.cons (.bin .fdiv (.v 4) (.c (.int 16))) .nil)) (.v 1))) .nil)))))
theorem fmod_rng (a : Int) {b : Int} (h : 0 < b) : 0 ≤ a.fmod b ∧ a.fmod b < b := ⟨Int.fmod_nonneg_of_pos a h, Int.fmod_lt_of_pos a h⟩
theorem v_tail (P : Pg) (cl : Cl) (x : Hd) (ok : x.Ok) (g : Hh) (many : Nat) (h1 : 0 < many) (h2 : many < 2 ^ 50) (a b c : Option D) : ∃ (x' : Hd) (r : Nat), x'.Ok ∧ r < many ∧ evSs P cl drawTail [some (.ref 0), some (.int many), a, b, c] (x.o :: g) = .rt (.int r) (x'.o :: g) := by
  have toN : ∀ z : Int, ∃ r : Nat, r < many ∧ z.fmod many = r := fun z => by
    obtain ⟨q1, q2⟩ := fmod_rng z (b := (many : Int)) (by omega)
    exact ⟨(z.fmod many).toNat, by omega, by omega⟩
  have m0 : (many : Int) ≠ 0 := by omega
  have mn : ¬ many = 0 := by omega
  by_cases hl : 0 < x.left
  · obtain ⟨r, hr, er⟩ := toN x.left
    refine ⟨{ x with left := x.left.fdiv many }, r, ok, hr, ?_⟩
    simp (disch := omega) [drawTail, hl, mn, ite_div, er]
  · obtain ⟨a1, a2⟩ := fmod_rng ((x.st + 7919 * (x.turn + 1)) * 48271) (b := 2147483647) (by omega)
    generalize e1 : ((x.st + 7919 * (x.turn + 1)) * 48271).fmod 2147483647 = n1 at a1 a2
    obtain ⟨b1, b2⟩ := fmod_rng (n1 * (n1.fdiv 1009 + 69621)) (b := 2147483647) (by omega)
    generalize e2 : (n1 * (n1.fdiv 1009 + 69621)).fmod 2147483647 = n2 at b1 b2
    obtain ⟨r, hr, er⟩ := toN (((n2 * (n2.fdiv 2003 + 40692)).fmod 2147483399).fdiv 16)
    refine ⟨{ x with turn := x.turn + 1 }, r, ok, hr, ?_⟩
    simp (disch := omega) [drawTail, hl, mn, ite_div, ite_mulL, ite_mulR, e1, e2, er]
end TX
set_option maxRecDepth 100000
namespace TX
open PySem PySem.Spec L2 Ev
open PyProof.Rows hiding St
theorem v_draw (n : Nat) (x : Hd) (ok : x.Ok) (g : Hh) (many : Nat) (h1 : 0 < many) (h2 : many < 2 ^ 50) : ∃ (x' : Hd) (r : Nat), x'.Ok ∧ r < many ∧ run tx.pg tx.fns (n + 1) 24 [.ref 0, .int many] (x.o :: g) = .ok (.int r) (x'.o :: g) := by
  rw [run__law_draw]
  have eb : b__law_draw = .cons (.ife (.and (.cmp .eq (.ix (.v 0) (.c (.int 2))) (.c (.int 0))) (.cmp .lt (.ix (.v 0) (.c (.int 1))) (.blt .len (.cons (.ix (.v 0) (.c (.int 0))) .nil)))) (.cons (.set 2 (.ix (.ix (.v 0) (.c (.int 0))) (.ix (.v 0) (.c (.int 1))))) (.cons (.asg (.ix (.v 0) (.c (.int 1))) (.bin .add (.ix (.v 0) (.c (.int 1))) (.c (.int 1)))) (.cons (.asg (.ix (.v 0) (.c (.int 3))) (.bin .mod (.blt .int (.cons (.bin .add (.bin .add (.bin .mul (.ix (.v 0) (.c (.int 3))) (.c (.int 69621))) (.v 2)) (.c (.int 11))) .nil)) (.c (.int 2147483629)))) (.cons (.ife (.cmp .ge (.v 2) (.bin .pow (.c (.int 10)) (.c (.int 18)))) (.cons (.asg (.ix (.v 0) (.c (.int 2))) (.v 2)) .nil) .nil) .nil)))) .nil) drawTail := rfl
  rw [eb]
  have tail := v_tail tx.pg (run tx.pg tx.fns n)
  by_cases c1 : x.left = 0 ∧ x.at_ < x.cells.length
  · obtain ⟨c1, c2⟩ := c1
    have eg : (x.cells.map D.int)[x.at_]? = some (.int x.cells[x.at_]) := by simp [c2]
    have ei := ix_lst_at (h := x.o :: g) eg
    have c3 : (x.at_ : Int) < x.cells.length := by omega
    generalize x.cells[x.at_] = cell at ei
    have pw : powOk 10 18 := ⟨by decide, by decide, by decide⟩
    by_cases c4 : (1000000000000000000 : Int) ≤ cell
    · obtain ⟨x', r, ok', hr, q⟩ := tail { x with at_ := x.at_ + 1, st := (x.st * 69621 + cell + 11).fmod 2147483629, left := cell } (by show x.at_ + 1 ≤ x.cells.length; omega) g many h1 h2 (some (.int cell)) none none
      refine ⟨x', r, ok', hr, ?_⟩
      simp (disch := omega) [c1, c3, ei, ite_mulR, pw, c4, q]
    · obtain ⟨x', r, ok', hr, q⟩ := tail { x with at_ := x.at_ + 1, st := (x.st * 69621 + cell + 11).fmod 2147483629 } (by show x.at_ + 1 ≤ x.cells.length; omega) g many h1 h2 (some (.int cell)) none none
      refine ⟨x', r, ok', hr, ?_⟩
      simp only [c1] at q
      simp (disch := omega) [c1, c3, ei, ite_mulR, pw, c4, q]
  · obtain ⟨x', r, ok', hr, q⟩ := tail x ok g many h1 h2 none none none
    refine ⟨x', r, ok', hr, ?_⟩
    by_cases c2 : x.left = 0
    · have c3 : ¬ ((x.at_ : Int) < x.cells.length) := by have : ¬ x.at_ < x.cells.length := fun z => c1 ⟨c2, z⟩; omega
      simp [c2, c3, q]
    · simp [c2, q]
end TX
set_option maxRecDepth 100000
namespace TX
open PySem PySem.Spec L2 Ev
open PyProof.Rows hiding St
theorem cut63 {xs : List D} (h : xs.length ≤ 63) : Ev.cutD xs none (some 63) = xs := by
  unfold Ev.cutD HT.sIx
  simp
  rw [List.take_of_length_le (by omega)]
theorem v_hand (n : Nat) (ns : List Int) (h : ns.length ≤ 63) : ∃ x : Hd, x.Ok ∧ run tx.pg tx.fns (n + 1) 23 [.frl (ns.map .int)] [] = .ok (.ref 0) [x.o] := by
  refine ⟨⟨ns.map fun i => if i < 0 then -i else i, 0, 0, 1 + ns.length, 0⟩, Nat.zero_le _, ?_⟩
  rw [run__law_hand]
  have es : slD [] (.frl (ns.map D.int)) none (some 63) = some (.lst (ns.map D.int)) := by
    show some (D.lst (Ev.cutD _ _ _)) = _
    rw [cut63 (by simpa using h)]
  have c := comp_map (tg := .n 2) (cond := evT2 tx.pg (run tx.pg tx.fns n) .no) (elt := evE tx.pg (run tx.pg tx.fns n) (.blt .abs (.cons (.blt .int (.cons (.v 2) .nil)) .nil))) (s0 := [some (.frl (ns.map .int)), none, none]) (h := []) (inj := D.int) (f := fun i => .int (if i < 0 then -i else i)) ns fun i hi => by
    refine ⟨_, rfl, rfl, ?_⟩
    simp
  have l1 : lim ns.length := lim_le (by omega)
  have l5 : lim 5 := lim_le (by omega)
  have ec : (ns.map fun i => D.int (if i < 0 then -i else i)) = (ns.map fun i => if i < 0 then -i else i).map D.int := by rw [List.map_map]; rfl
  rw [ec] at c
  simp [b__law_hand, es, c, l1, l5, Hd.o]
theorem v_any (n : Nat) (x : Hd) (ok : x.Ok) (g : Hh) (l : List D) (h1 : l ≠ []) (h2 : l.length < 1000) : ∃ (x' : Hd) (d : D), x'.Ok ∧ d ∈ l ∧ run tx.pg tx.fns (n + 2) 25 [.ref 0, .lst l] (x.o :: g) = .ok d (x'.o :: g) := by
  have hp := List.length_pos_iff.mpr h1
  obtain ⟨x', r, ok', hr, q⟩ := v_draw n x ok g l.length hp (by omega)
  refine ⟨x', l[r], ok', List.getElem_mem hr, ?_⟩
  rw [run__law_any]
  have ei := ix_lst_at (h := x'.o :: g) (l := l) (i := r) (List.getElem?_eq_getElem hr)
  simp [b__law_any, q, ei]
/-! ### fractions -/
def iL (a : Int) : List Nat := (Str.ofString (toString a)).cps.toList
theorem str_int (h : Hh) (a : Int) : bltD .str h [.int a] = gd (a.natAbs.log2 < 1920) (.str (SX.S (iL a))) := by
  show gd (a.natAbs.log2 < 1920) (.str (toString a)) = _
  rw [iL, SX.S_tl]
theorem iL_neg (n : Nat) : iL (-((n + 1 : Nat) : Int)) = 45 :: TL.numL (n + 1) := by
  show TL.tl (Str.ofString (toString (Int.negSucc n))) = _
  have e : toString (Int.negSucc n) = "-" ++ toString ((n + 1 : Nat) : Int) := rfl
  rw [e, TL.tl_ofString, String.toList_append, List.map_append, ← TL.tl_ofString, ← TL.tl_ofString, TL.tl_num]
  rfl
theorem iL_nat (n : Nat) : iL (n : Int) = TL.numL n := TL.tl_num n
theorem iL_cases (a : Int) : (∃ n : Nat, a = n ∧ iL a = TL.numL n) ∨ ∃ n : Nat, a = -((n + 1 : Nat) : Int) ∧ iL a = 45 :: TL.numL (n + 1) := by
  cases a with
  | ofNat n => exact .inl ⟨n, rfl, iL_nat n⟩
  | negSucc n => exact .inr ⟨n, rfl, iL_neg n⟩
theorem iL_asc (a : Int) : asc (iL a) := by
  rcases iL_cases a with ⟨n, _, e⟩ | ⟨n, _, e⟩
  · rw [e]; exact numL_asc n
  · rw [e]; intro c hc
    rcases List.mem_cons.mp hc with q | q
    · omega
    · exact numL_asc _ c q
theorem iL_len {a : Int} (h : a.natAbs < 10 ^ 40) : (iL a).length ≤ 41 := by
  rcases iL_cases a with ⟨n, ea, e⟩ | ⟨n, ea, e⟩
  · rw [e]
    have := TL.numL_len (n := n) (k := 40) (by omega) (by omega)
    omega
  · rw [e]
    have := TL.numL_len (n := n + 1) (k := 40) (by omega) (by omega)
    simp; omega
theorem log_mid {n : Nat} (h : n < 10 ^ 40) : n.log2 < 1920 := by
  rcases Nat.eq_zero_or_pos n with q | q
  · subst q; decide
  · have : n.log2 < 200 := (Nat.log2_lt (by omega)).mpr (by have : (10 : Nat) ^ 40 < 2 ^ 200 := by decide
                                                            omega)
    omega
def fracL (a : Int) (b : Nat) : List Nat := if b = 1 then iL a else iL a ++ ([47] ++ TL.numL b)
theorem fracL_asc (a : Int) (b : Nat) : asc (fracL a b) := by
  unfold fracL
  split
  · exact iL_asc a
  · exact asc_app (iL_asc a) (asc_app (fun c hc => by cases List.mem_singleton.mp hc; omega) (numL_asc b))
theorem v_fraction_told (n : Nat) (h : Hh) (a : Int) (b : Nat) (ha : a.natAbs < 10 ^ 40) (hb : b < 10 ^ 40) : run tx.pg tx.fns (n + 1) 27 [.tup [.int a, .int b]] h = .ok (sD (fracL a b)) h := by
  rw [run__law_fraction_told]
  have la := iL_len ha
  have lb := TL.numL_len (n := b) (k := 40) (by omega) hb
  have ga := log_mid ha
  have gb := log_mid hb
  have sa := str_int h a
  by_cases e : b = 1
  · subst e
    simp [b__law_fraction_told, sa, ga, fracL, sD]
  · have e' : ¬ ((b : Int) = 1) := by omega
    simp (disch := omega) [b__law_fraction_told, e, e', sa, ga, gb, fracL, sD, ite_lim]
theorem v_fraction_text (n : Nat) (h : Hh) (a : Int) (b : Nat) (h1 : 1 ≤ b) (hg : Int.gcd a b = 1) (ha : a.natAbs < 10 ^ 40) (hb : b < 10 ^ 40) : run tx.pg tx.fns (n + 3) 14 [.tup [.int a, .int b]] h = .ok (sD (fracL a b)) h := by
  rw [run_fraction_text]
  have fr := v_is_fraction n h a b h1
  rw [hg] at fr
  have la := iL_len ha
  have lb := TL.numL_len (n := b) (k := 40) (by omega) hb
  have ga := log_mid ha
  have gb := log_mid hb
  have sa := str_int h a
  by_cases e : b = 1
  · subst e
    simp at fr
    simp [b_fraction_text, fr, sa, ga, fracL, sD]
  · have e' : ¬ ((b : Int) = 1) := by omega
    simp (disch := omega) [b_fraction_text, fr, e, e', sa, ga, gb, fracL, sD, ite_lim]
end TX
set_option maxRecDepth 100000
namespace TX
open PySem PySem.Spec L2 Ev
open PyProof.Rows hiding St
theorem div_mid {i j : Int} (h : 0 < j) (h2 : j < 10 ^ 40) : divOk i j := by
  refine ⟨by omega, ?_⟩
  have := log_mid (n := j.natAbs) (by omega)
  omega
/-- a fraction in lowest terms -/
theorem v_lowest (n : Nat) (h : Hh) (a : Int) (b : Nat) (h1 : 1 ≤ b) (ha : a.natAbs < 10 ^ 40) (hb : b < 10 ^ 40) : ∃ (c : Int) (d : Nat), 1 ≤ d ∧ d < 10 ^ 40 ∧ c.natAbs < 10 ^ 40 ∧ Int.gcd c d = 1 ∧ run tx.pg tx.fns (n + 1) 26 [.int a, .int b] h = .ok (.tup [.int c, .int d]) h := by
  rw [run__law_lowest]
  have loop : ∀ (b0 : Nat) (b : Nat) (p : Nat), ∃ m, whileL (evT tx.pg (run tx.pg tx.fns n) (.cmp .gt (.v 3) (.c (.int 0)))) (evSs tx.pg (run tx.pg tx.fns n) (.cons (.par [2, 3] (.cons (.v 3) (.cons (.bin .mod (.blt .int (.cons (.v 2) .nil)) (.v 3)) .nil))) .nil)) m [some (.int a), some (.int (b0 : Nat)), some (.int p), some (.int b)] h = .nx [some (.int a), some (.int (b0 : Nat)), some (.int (Nat.gcd p b : Nat)), some (.int 0)] h := by
    intro b0 b
    induction b using Nat.strongRecOn with
    | ind b ih =>
      intro p
      by_cases hb : b = 0
      · subst hb
        exact ⟨1, by simp [whileL]⟩
      · obtain ⟨m, e⟩ := ih (p % b) (Nat.mod_lt _ (by omega)) b
        refine ⟨m + 1, ?_⟩
        have hp : 0 < b := by omega
        have em : (p : Int).fmod b = ((p % b : Nat) : Int) := by rw [Int.fmod_eq_emod_of_nonneg _ (by omega)]; rfl
        have eg : Nat.gcd b (p % b) = Nat.gcd p b := by rw [Nat.gcd_comm b, ← Nat.gcd_rec, Nat.gcd_comm]
        rw [eg] at e
        unfold whileL
        simp [hb, hp, em]
        simpa using e
  have hp : 0 < Nat.gcd a.natAbs b := Nat.gcd_pos_of_pos_right _ (by omega)
  have hle : Nat.gcd a.natAbs b ≤ b := Nat.gcd_le_right _ (by omega)
  obtain ⟨m, q⟩ := loop b b a.natAbs
  have eabs : (if a < 0 then -a else a) = (a.natAbs : Int) := by split <;> omega
  have hg1 : ((Nat.gcd a.natAbs b : Nat) : Int) ∣ a := by
    have := Int.gcd_dvd_left a (b : Int)
    simpa [Int.gcd] using this
  obtain ⟨c, ec⟩ := hg1
  obtain ⟨d, ed⟩ := Nat.gcd_dvd_right a.natAbs b
  have hd : 1 ≤ d := by
    rcases Nat.eq_zero_or_pos d with z | z
    · subst z; omega
    · exact z
  have fa : a.fdiv (Nat.gcd a.natAbs b : Nat) = c := by
    conv => lhs; lhs; rw [ec]
    exact Int.mul_fdiv_cancel_left _ (by omega)
  have fb : (b : Int).fdiv (Nat.gcd a.natAbs b : Nat) = d := by
    have : (b : Int) = ((Nat.gcd a.natAbs b : Nat) : Int) * d := by
      have := congrArg (fun z : Nat => (z : Int)) ed
      simpa using this
    conv => lhs; lhs; rw [this]
    exact Int.mul_fdiv_cancel_left _ (by omega)
  have hdb : d ≤ b := by
    conv => rhs; rw [ed]
    exact Nat.le_mul_of_pos_left _ hp
  have hca : c.natAbs ≤ a.natAbs := by
    have : a.natAbs = (Nat.gcd a.natAbs b) * c.natAbs := by
      have := congrArg Int.natAbs ec
      simpa [Int.natAbs_mul] using this
    conv => rhs; rw [this]
    exact Nat.le_mul_of_pos_left _ hp
  have hgcd : Int.gcd c d = 1 := by
    have e1 : a.natAbs = (Nat.gcd a.natAbs b) * c.natAbs := by
      have := congrArg Int.natAbs ec
      simpa [Int.natAbs_mul] using this
    have key : ∀ G A B C D : Nat, A = G * C → B = G * D → Nat.gcd A B = G * Nat.gcd C D := fun G A B C D h1 h2 => by
      subst h1 h2
      rw [Nat.gcd_mul_left]
    have e2 := key _ _ _ _ _ e1 ed
    have : Nat.gcd c.natAbs d = 1 := Nat.eq_of_mul_eq_mul_left hp (by omega)
    simpa [Int.gcd] using this
  refine ⟨c, d, hd, by omega, by omega, hgcd, ?_⟩
  have dv := div_mid (i := a) (j := (Nat.gcd a.natAbs b : Nat)) (by omega) (by omega)
  have dv2 := div_mid (i := b) (j := (Nat.gcd a.natAbs b : Nat)) (by omega) (by omega)
  have ew : whileS (evT tx.pg (run tx.pg tx.fns n) (.cmp .gt (.v 3) (.c (.int 0)))) (evSs tx.pg (run tx.pg tx.fns n) (.cons (.par [2, 3] (.cons (.v 3) (.cons (.bin .mod (.blt .int (.cons (.v 2) .nil)) (.v 3)) .nil))) .nil)) [some (.int a), some (.int (b : Nat)), some (.int (a.natAbs : Nat)), some (.int b)] h = .nx [some (.int a), some (.int (b : Nat)), some (.int (Nat.gcd a.natAbs b : Nat)), some (.int 0)] h := by
    rw [whileS_of m (by rw [q]; simp), q]
  simp only [b__law_lowest]
  simp [eabs, ew, dv, dv2, fa, fb]
theorem lim_iff (n : Nat) (h : n ≤ 16777216) : lim n := lim_le h
theorem feeds_snoc (ls : List (List Nat)) (p : List Nat) : feeds (ls ++ [p]) = feeds ls ++ (p ++ [10]) := by simp [feeds]
theorem v_row_told (n : Nat) (h : Hh) (N M : Nat) (r : List Sh) (ok : ∀ x ∈ r, x.Ok N M) (hN : N ≤ 12) (hM : M ≤ N) (hr : r.length ≤ 400) : run tx.pg tx.fns (n + 1) 28 [.int N, .int M, rowD r] h = .ok (sD (feeds (rowLs N M r))) h := by
  rw [run__law_row_told]
  have hn1 : (TL.numL N).length ≤ 9 := TL.numL_len (by omega) (by omega)
  have hn2 : (TL.numL M).length ≤ 9 := TL.numL_len (by omega) (by omega)
  have g1 : N.log2 < 1920 := log_small (by omega)
  have g2 : M.log2 < 1920 := log_small (by omega)
  have loop : ∀ (xs : List Sh), (∀ x ∈ xs, x.Ok N M) → ∀ (fs : List Nat) (a b c : Option D), fs.length + xs.length * 200 ≤ 100000 → ∃ a' b' c', forL [] (evTg tx.pg (run tx.pg tx.fns n) (.tg (.t [4, 5]))) (evSs tx.pg (run tx.pg tx.fns n) (.cons (.set 3 (.bin .add (.bin .add (.bin .add (.bin .add (.bin .add (.v 3) (.c (.str (SX.S [115, 104, 97, 114, 101, 115, 32])))) (.blt .str (.cons (.v 4) .nil))) (.c (.str (SX.S [32])))) (.bm .join (.c (.str (SX.S [44]))) (.cons (.pur (.comp [6] (.seq (.v 5)) (.n 6) .no (.blt .str (.cons (.v 6) .nil)))) .nil))) (.c (.str (SX.S [10]))))) .nil)) (xs.map Sh.d)
      [some (.int N), some (.int M), some (rowD r), some (sD fs), a, b, c] h = .nx [some (.int N), some (.int M), some (rowD r), some (sD (fs ++ feeds (xs.map Sh.line))), a', b', c'] h := by
    intro xs
    induction xs with
    | nil => exact fun _ fs a b c _ => ⟨a, b, c, by simp [forL_nil gok_nil, feeds]⟩
    | cons x xs ih =>
      intro okx fs a b c hl
      have okx0 := okx x List.mem_cons_self
      have b2 := okx0.b2
      have t9 : ∀ k ∈ x.tops, k < 10 ^ 9 := fun k hk => by have := okx0.top k hk; omega
      have hl1 : (TL.numL x.b).length ≤ 9 := TL.numL_len (by omega) (by omega)
      have hl2 := csv_len t9
      have hl3 := okx0.len
      have gx : x.b.log2 < 1920 := log_small (by omega)
      have el : x.line = [115, 104, 97, 114, 101, 115] ++ ([32] ++ (TL.numL x.b ++ ([32] ++ csv x.tops))) := rfl
      have ll : x.line.length ≤ 140 := line_len okx0 hN
      have cc := comp_map (tg := .n 6) (cond := evT2 tx.pg (run tx.pg tx.fns n) .no) (elt := evE tx.pg (run tx.pg tx.fns n) (.blt .str (.cons (.v 6) .nil))) (s0 := [some (.int N), some (.int M), some (rowD r), some (sD fs), some (.int x.b), some (.tup (x.tops.map natD)), none]) (h := h) (inj := natD) (f := fun k => sD (TL.numL k)) x.tops fun k hk => by
        refine ⟨_, rfl, rfl, ?_⟩
        have := log_small (t9 k hk)
        simp [natD, sD, this]
      have e : (x.tops.map TL.numL).map sD = x.tops.map fun k => sD (TL.numL k) := by rw [List.map_map]; rfl
      have lm : lim x.tops.length := lim_le (by omega)
      have hs := len_sum (ls := []) (c := 0) t9
      have j := join_S (h := h) (a := [44]) (ls := x.tops.map TL.numL) (by simp only [List.length_map, List.length_cons, List.length_nil]; omega)
      rw [e] at j
      have ej : TL.joinL [44] (x.tops.map TL.numL) = csv x.tops := rfl
      rw [ej] at j
      simp only [List.length_cons] at hl
      obtain ⟨a', b', c', q⟩ := ih (fun y hy => okx y (List.mem_cons_of_mem _ hy)) (fs ++ (x.line ++ [10])) (some (.int x.b)) (some (.tup (x.tops.map natD))) c (by simp; omega)
      refine ⟨a', b', c', ?_⟩
      rw [List.map_cons, forL_cons gok_nil]
      have ef : fs ++ (x.line ++ [10]) ++ feeds (xs.map Sh.line) = fs ++ feeds ((x :: xs).map Sh.line) := by simp [feeds]
      rw [ef] at q
      simp [sD, el] at q cc j
      simp (disch := omega) [Sh.d, gx, ite_lim, cc, lm, j, sD, el]
      exact q
  have eh : headL N M = [114, 111, 119] ++ ([32] ++ (TL.numL N ++ ([32] ++ TL.numL M))) := rfl
  have hh := head_len hN (show M ≤ 12 by omega)
  obtain ⟨a', b', c', q⟩ := loop r ok (headL N M ++ [10]) none none none (by simp; omega)
  have ef : headL N M ++ [10] ++ feeds (r.map Sh.line) = feeds (rowLs N M r) := by simp [feeds, rowLs]
  rw [ef] at q
  simp [sD, eh, rowD] at q
  simp (disch := omega) [b__law_row_told, sD, rowD, g1, g2, ite_lim, q]
end TX
set_option maxRecDepth 100000
namespace TX
open PySem PySem.Spec L2 Ev
open PyProof.Rows hiding St
theorem v_lots_told (n : Nat) (h : Hh) (ls : List (List Nat)) (ok : ∀ l ∈ ls, LotOk l) (hl : ls.length ≤ 400) : run tx.pg tx.fns (n + 1) 29 [lotsD ls] h = .ok (sD (feeds (ls.map lotL))) h := by
  rw [run__law_lots_told]
  have c := comp_map (tg := .n 1) (cond := evT2 tx.pg (run tx.pg tx.fns n) .no) (elt := evE tx.pg (run tx.pg tx.fns n) (.ite (.cmp .gt (.blt .len (.cons (.v 1) .nil)) (.c (.int 0))) (.bin .add (.bm .join (.c (.str (SX.S [44]))) (.cons (.pur (.comp [2] (.seq (.v 1)) (.n 2) .no (.blt .str (.cons (.v 2) .nil)))) .nil)) (.c (.str (SX.S [10])))) (.c (.str (SX.S [45, 10])))))
    (s0 := [some (lotsD ls), none, none]) (h := h) (inj := lotD) (f := fun l => sD (lotL l ++ [10])) ls fun l hl => by
    refine ⟨_, rfl, rfl, ?_⟩
    have okl := ok l hl
    have t9 : ∀ k ∈ l, k < 10 ^ 9 := fun k hk => by have := okl.lt k hk; omega
    have h1 := csv_len t9
    have h2 := okl.len
    have cc := comp_map (tg := .n 2) (cond := evT2 tx.pg (run tx.pg tx.fns n) .no) (elt := evE tx.pg (run tx.pg tx.fns n) (.blt .str (.cons (.v 2) .nil))) (s0 := [some (lotsD ls), some (lotD l), none]) (h := h) (inj := natD) (f := fun k => sD (TL.numL k)) l fun k hk => by
      refine ⟨_, rfl, rfl, ?_⟩
      have := log_small (t9 k hk)
      simp [natD, sD, this]
    have e : (l.map TL.numL).map sD = l.map fun k => sD (TL.numL k) := by rw [List.map_map]; rfl
    have lm : lim l.length := lim_le (by omega)
    have hs := len_sum (ls := []) (c := 0) t9
    have j := join_S (h := h) (a := [44]) (ls := l.map TL.numL) (by simp only [List.length_map, List.length_cons, List.length_nil]; omega)
    rw [e] at j
    have ej : TL.joinL [44] (l.map TL.numL) = csv l := rfl
    rw [ej] at j
    by_cases e : l = []
    · subst e
      simp [lotD, lotL, sD]
    · have hp := List.length_pos_iff.mpr e
      simp [lotD, sD] at cc j
      simp (disch := omega) [lotD, hp, cc, lm, j, lotL, e, sD, ite_lim]
  have lr : (ls.map (fun l => lotL l ++ [10])).length ≤ 400 := by simpa using hl
  have sl : ((ls.map fun l => lotL l ++ [10]).map List.length).sum ≤ 400 * 121 := by
    have := sum_le (ls := ls.map fun l => lotL l ++ [10]) (c := 121) fun p hp => by
      obtain ⟨l, hl, rfl⟩ := List.mem_map.mp hp
      have := lotL_len (ok l hl)
      simp; omega
    omega
  have j := join_S (h := h) (a := []) (ls := ls.map fun l => lotL l ++ [10]) (by simp only [List.length_nil]; omega)
  have ej : (ls.map fun l => lotL l ++ [10]).map sD = ls.map fun l => sD (lotL l ++ [10]) := by rw [List.map_map]; rfl
  have ef : (ls.map fun l => lotL l ++ [10]) = (ls.map lotL).map (· ++ [10]) := by rw [List.map_map]; rfl
  rw [ej, ef, feeds_join] at j
  have l1 : lim ls.length := lim_le (by omega)
  simp [lotsD, sD] at c j
  simp [b__law_lots_told, lotsD, sD, c, l1, j]
/-! ### drawn shares -/
theorem fin_hand {x x' : Hd} {g t : Hh} {d : D} (q : d.lo (g.length + 1) = true) : fin true (x.o :: g) (.rt d (x'.o :: (g ++ t))) = .ok d (x'.o :: g) := by
  show finD true (x.o :: g) d (x'.o :: (g ++ t)) = _
  unfold finD
  rw [if_pos rfl, if_pos]
  · have : (x.o :: g).length = g.length + 1 := rfl
    rw [this, fz_id q]
    simp
  · intro k hk
    cases k with
    | zero =>
      refine .inr ⟨x'.o, rfl, ?_⟩
      have : D.los (g.length + 1) (x'.cells.map D.int) = true := los_map fun i _ => by simp
      show D.los _ [_, _, _, _, _] = true
      simp [this]
    | succ k =>
      refine .inl ?_
      have hk' : k < g.length := by simpa using hk
      show (g ++ t)[k]? = g[k]?
      exact List.getElem?_append_left hk'
/-- the tops so far: what is still to give -/
structure Tops (N M b : Nat) (ts : List Nat) (left : Nat) : Prop where
  len : ts.length = N
  top : ∀ t ∈ ts, t ≤ b
  sum : ts.sum + left = M * b
theorem set_sum {ts : List Nat} {p : Nat} {v : Nat} (hp : p < ts.length) : (ts.set p (ts[p] + v)).sum = ts.sum + v := by
  induction ts generalizing p with
  | nil => simp at hp
  | cons a ts ih =>
    cases p with
    | zero => simp; omega
    | succ p =>
      have := ih (p := p) (by simpa using hp)
      simp at this ⊢
      omega
theorem Tops.give {N M b left p v : Nat} {ts : List Nat} (k : Tops N M b ts left) (hp : p < ts.length) (h1 : v ≤ left) (h2 : ts[p] + v ≤ b) : Tops N M b (ts.set p (ts[p] + v)) (left - v) := by
  refine ⟨by simpa using k.len, fun t ht => ?_, ?_⟩
  · rcases List.mem_or_eq_of_mem_set ht with q | q
    · exact k.top t q
    · omega
  · rw [set_sum hp]
    have := k.sum
    omega
theorem sum_full {ts : List Nat} {b : Nat} (h : ∀ t ∈ ts, b ≤ t) : ts.length * b ≤ ts.sum := by
  induction ts with
  | nil => simp
  | cons a ts ih =>
    have h1 := h a List.mem_cons_self
    have h2 := ih fun t ht => h t (List.mem_cons_of_mem _ ht)
    simp only [List.length_cons, Nat.add_mul, Nat.one_mul, List.sum_cons]
    omega
end TX
set_option maxRecDepth 100000
namespace TX
open PySem PySem.Spec L2 Ev
open PyProof.Rows hiding St
def shCond : T := .cmp .gt (.v 5) (.c (.int 0))
def shBody : Ss := .cons (.par [6, 7] (.cons (.call 24 (.cons (.v 0) (.cons (.v 1) .nil))) (.cons (.bin .add (.c (.int 1)) (.call 24 (.cons (.v 0) (.cons (.v 5) .nil)))) .nil))) (.cons (.set 7 (.blt .min2 (.cons (.v 7) (.cons (.bin .sub (.v 3) (.ix (.v 4) (.v 6))) .nil)))) (.cons (.ife (.cmp .eq (.v 7) (.c (.int 0))) (.cons (.set 6 (.ix (.pur (.comp [8] (.rng1 (.v 1)) (.n 8) (.so (.cmp .lt (.ix (.v 4) (.v 8)) (.v 3))) (.v 8))) (.c (.int 0)))) (.cons (.set 7 (.blt .min2 (.cons (.v 5) (.cons (.bin .sub (.v 3) (.ix (.v 4) (.v 6))) .nil)))) .nil)) .nil) (.cons (.asg (.tup (.cons (.ix (.v 4) (.v 6)) (.cons (.tg (.n 5)) .nil))) (.tup (.cons (.bin .add (.ix (.v 4) (.v 6)) (.v 7)) (.cons (.bin .sub (.v 5) (.v 7)) .nil)))) .nil)))
/-- the body's two last parts, from a person and a part on -/
def shLast : Ss := .cons (.asg (.tup (.cons (.ix (.v 4) (.v 6)) (.cons (.tg (.n 5)) .nil))) (.tup (.cons (.bin .add (.ix (.v 4) (.v 6)) (.v 7)) (.cons (.bin .sub (.v 5) (.v 7)) .nil)))) .nil
def shSl (N M b left : Nat) (gl : Nat) (p v : Option D) : Sl := [some (.ref 0), some (.int N), some (.int M), some (.int b), some (.ref (gl + 1)), some (.int left), p, v, none]
theorem get_nat {ts : List Nat} {p : Nat} (hp : p < ts.length) : (ts.map natD)[p]? = some (.int (ts[p] : Nat)) := by simp [hp, natD]
theorem sh_last (cl : Cl) (x : Hd) (g : Hh) (N M b left p v : Nat) (ts : List Nat) (hp : p < ts.length) (h1 : v ≤ left) : evSs tx.pg cl shLast (shSl N M b left g.length (some (.int p)) (some (.int v))) (x.o :: (g ++ [.lst (ts.map natD)])) = .nx (shSl N M b (left - v) g.length (some (.int p)) (some (.int v))) (x.o :: (g ++ [.lst ((ts.set p (ts[p] + v)).map natD)])) := by
  have e1 := ix_t (o := x.o) (g := g) (get_nat hp)
  have e2 := set_t (o := x.o) (g := g) (l := ts.map natD) (i := p) (d := .int ((ts[p] + v : Nat) : Int)) (by simpa using hp)
  have e3 : ((left : Int) - v) = ((left - v : Nat) : Int) := by omega
  have e4 : ((ts[p] : Int) + v) = ((ts[p] + v : Nat) : Int) := by omega
  have e5 : (ts.map natD).set p (.int ((ts[p] + v : Nat) : Int)) = (ts.set p (ts[p] + v)).map natD := by rw [List.map_set]; rfl
  rw [e5] at e2
  simp only [shLast, shSl, ap_Ss_cons, ap_S_asg, ap_E_tup, ap_Es_cons, ap_Es_nil, ap_E_bin, ap_E_ix, ap_E_v4, ap_E_v5, ap_E_v6, ap_E_v7, R.bind_ok, e1, opt_some, bin_addI, bin_subI, e3, e4, List.length_cons, List.length_nil]
  simp only [ap_gd, if_pos lim2, R.thenS_ok, ap_Tg_tup, ap_tup_tup, ap_Tgs_cons, ap_Tg_ix, ap_E_v4, ap_E_v6, ap_sure_ok, R.bind_ok, e2, ap_Tg_tg, ap_bind_n, opt_some, ap_Tgs_nil, Tgts.len, List.length_cons, List.length_nil, if_true, ap_Ss_nil, SR.andThen_nx]
  rfl
end TX
set_option maxRecDepth 100000
namespace TX
open PySem PySem.Spec L2 Ev
open PyProof.Rows hiding St
theorem exists_free {N M b left : Nat} {ts : List Nat} (k : Tops N M b ts left) (hM : M ≤ N) (hl : 0 < left) : ∃ p, ∃ hp : p < ts.length, ts[p] < b := by
  refine Classical.byContradiction fun z => ?_
  have : ∀ t ∈ ts, b ≤ t := fun t ht => by
    obtain ⟨p, hp, e⟩ := List.getElem_of_mem ht
    refine Nat.le_of_not_lt fun q => z ⟨p, hp, by rw [e]; exact q⟩
  have h1 := sum_full this
  have h2 := k.sum
  have h3 := k.len
  have h4 : M * b ≤ N * b := Nat.mul_le_mul_right b hM
  rw [h3] at h1
  omega
theorem sh_body (n : Nat) (x : Hd) (ok : x.Ok) (g : Hh) (N M b left : Nat) (ts : List Nat) (k : Tops N M b ts left) (hN : 0 < N) (hN2 : N ≤ 12) (hM : M ≤ N) (hl : 0 < left) (hl2 : left ≤ 100000) (p0 v0 : Option D) :
    ∃ (x' : Hd) (ts' : List Nat) (left' : Nat) (p1 v1 : Option D), x'.Ok ∧ Tops N M b ts' left' ∧ left' < left ∧ evSs tx.pg (run tx.pg tx.fns (n + 1)) shBody (shSl N M b left g.length p0 v0) (x.o :: (g ++ [.lst (ts.map natD)])) = .nx (shSl N M b left' g.length p1 v1) (x'.o :: (g ++ [.lst (ts'.map natD)])) := by
  obtain ⟨x1, r1, ok1, hr1, q1⟩ := v_draw n x ok (g ++ [.lst (ts.map natD)]) N hN (by omega)
  obtain ⟨x2, r2, ok2, hr2, q2⟩ := v_draw n x1 ok1 (g ++ [.lst (ts.map natD)]) left hl (by omega)
  have hp : r1 < ts.length := by rw [k.len]; exact hr1
  have ht := k.top ts[r1] (List.getElem_mem hp)
  have e1 := ix_t (o := x2.o) (g := g) (get_nat hp)
  obtain ⟨v, hv, hv2⟩ : ∃ v : Nat, (if (b : Int) - (ts[r1] : Nat) < 1 + (r2 : Int) then (b : Int) - (ts[r1] : Nat) else 1 + (r2 : Int)) = (v : Int) ∧ v = min (1 + r2) (b - ts[r1]) := ⟨min (1 + r2) (b - ts[r1]), by split <;> omega, rfl⟩
  have eb : shBody = .cons (.par [6, 7] (.cons (.call 24 (.cons (.v 0) (.cons (.v 1) .nil))) (.cons (.bin .add (.c (.int 1)) (.call 24 (.cons (.v 0) (.cons (.v 5) .nil)))) .nil))) (.cons (.set 7 (.blt .min2 (.cons (.v 7) (.cons (.bin .sub (.v 3) (.ix (.v 4) (.v 6))) .nil)))) (.cons (.ife (.cmp .eq (.v 7) (.c (.int 0))) (.cons (.set 6 (.ix (.pur (.comp [8] (.rng1 (.v 1)) (.n 8) (.so (.cmp .lt (.ix (.v 4) (.v 8)) (.v 3))) (.v 8))) (.c (.int 0)))) (.cons (.set 7 (.blt .min2 (.cons (.v 5) (.cons (.bin .sub (.v 3) (.ix (.v 4) (.v 6))) .nil)))) .nil)) .nil) shLast)) := rfl
  rw [eb]
  -- the first two parts
  have first : ∀ K : Ss, evSs tx.pg (run tx.pg tx.fns (n + 1)) (.cons (.par [6, 7] (.cons (.call 24 (.cons (.v 0) (.cons (.v 1) .nil))) (.cons (.bin .add (.c (.int 1)) (.call 24 (.cons (.v 0) (.cons (.v 5) .nil)))) .nil))) (.cons (.set 7 (.blt .min2 (.cons (.v 7) (.cons (.bin .sub (.v 3) (.ix (.v 4) (.v 6))) .nil)))) K)) (shSl N M b left g.length p0 v0) (x.o :: (g ++ [.lst (ts.map natD)])) =
      evSs tx.pg (run tx.pg tx.fns (n + 1)) K (shSl N M b left g.length (some (.int r1)) (some (.int v))) (x2.o :: (g ++ [.lst (ts.map natD)])) := fun K => by
    simp only [shSl, ap_Ss_cons, ap_S_par, ap_Es_cons, ap_Es_nil, ap_E_call, ap_E_v0, ap_E_v1, ap_E_v5, R.bind_ok, q1, ap_E_bin, ap_E_c, q2, bin_addI, opt_some, R.thenS_ok, List.length_cons, List.length_nil, if_true, ap_setAll_cons, ap_setAll_nil, SR.andThen_nx]
    show (evS _ _ _ [some (.ref 0), some (.int N), some (.int M), some (.int b), some (.ref (g.length + 1)), some (.int left), some (.int r1), some (.int (1 + (r2 : Int))), none] _).andThen _ = _
    simp only [ap_S_set, ap_E_blt, ap_Es_cons, ap_Es_nil, ap_E_v7, ap_E_v3, ap_E_v4, ap_E_v6, ap_E_bin, ap_E_ix, R.bind_ok, e1, opt_some, bin_subI, min_ints, hv, R.thenS_ok, SR.andThen_nx]
    rfl
  rw [first]
  by_cases c : v = 0
  · -- somebody who still takes
    have fr : ((List.range N).filter fun p => decide ((ts.map natD)[p]?.isSome ∧ ts.getD p 0 < b)) ≠ [] := by
      obtain ⟨p, hp, hb⟩ := exists_free k hM hl
      intro z
      have : p ∈ (List.range N).filter fun p => decide ((ts.map natD)[p]?.isSome ∧ ts.getD p 0 < b) := by
        rw [List.mem_filter]
        refine ⟨List.mem_range.mpr (by rw [← k.len]; exact hp), ?_⟩
        simp [hp, hb]
      rw [z] at this
      cases this
    have cf := comp_filter (gs := []) (tg := .n 8) (cond := evT2 tx.pg (run tx.pg tx.fns (n + 1)) (.so (.cmp .lt (.ix (.v 4) (.v 8)) (.v 3)))) (elt := evE tx.pg (run tx.pg tx.fns (n + 1)) (.v 8)) (s0 := shSl N M b left g.length (some (.int r1)) (some (.int v))) (h := x2.o :: (g ++ [.lst (ts.map natD)]))
      (inj := fun i : Nat => .int i) (f := fun i : Nat => .int i) (p := fun p => decide ((ts.map natD)[p]?.isSome ∧ ts.getD p 0 < b)) gok_nil (List.range N) fun p hp => by
      have hp' : p < ts.length := by rw [k.len]; exact List.mem_range.mp hp
      have e2 := ix_t (o := x2.o) (g := g) (get_nat hp')
      refine ⟨_, rfl, ?_, rfl⟩
      show evT2 _ _ _ [some (.ref 0), some (.int N), some (.int M), some (.int b), some (.ref (g.length + 1)), some (.int left), some (.int r1), some (.int v), some (.int p)] _ = _
      simp only [ap_T2_so, ap_T_cmp, ap_E_ix, ap_E_v4, ap_E_v8, ap_E_v3, R.bind_ok, e2, opt_some, cmp_lt]
      simp [hp']
    obtain ⟨q, qs, eq⟩ := List.exists_cons_of_ne_nil fr
    have hq : q ∈ (List.range N).filter fun p => decide ((ts.map natD)[p]?.isSome ∧ ts.getD p 0 < b) := by rw [eq]; exact List.mem_cons_self
    rw [List.mem_filter] at hq
    have hq1 : q < ts.length := by rw [k.len]; exact List.mem_range.mp hq.1
    have hq2 : ts[q] < b := by
      have := of_decide_eq_true hq.2
      simpa [hq1] using this.2
    have e3 := ix_t (o := x2.o) (g := g) (get_nat hq1)
    obtain ⟨w, hw, hw2⟩ : ∃ w : Nat, (if (b : Int) - (ts[q] : Nat) < (left : Int) then (b : Int) - (ts[q] : Nat) else (left : Int)) = (w : Int) ∧ w = min left (b - ts[q]) := ⟨min left (b - ts[q]), by split <;> omega, rfl⟩
    rw [eq] at cf
    have lm : lim ((q :: qs).map fun i : Nat => D.int i).length := lim_le (by
      have h1 : ((List.range N).filter fun p => decide ((ts.map natD)[p]?.isSome ∧ ts.getD p 0 < b)).length ≤ N := by
        have := List.length_filter_le (fun p => decide ((ts.map natD)[p]?.isSome ∧ ts.getD p 0 < b)) (List.range N)
        simpa using this
      rw [eq] at h1
      simp at h1 ⊢; omega)
    rw [List.map_cons] at cf lm
    have second : evSs tx.pg (run tx.pg tx.fns (n + 1)) (.cons (.ife (.cmp .eq (.v 7) (.c (.int 0))) (.cons (.set 6 (.ix (.pur (.comp [8] (.rng1 (.v 1)) (.n 8) (.so (.cmp .lt (.ix (.v 4) (.v 8)) (.v 3))) (.v 8))) (.c (.int 0)))) (.cons (.set 7 (.blt .min2 (.cons (.v 5) (.cons (.bin .sub (.v 3) (.ix (.v 4) (.v 6))) .nil)))) .nil)) .nil) shLast) (shSl N M b left g.length (some (.int r1)) (some (.int v))) (x2.o :: (g ++ [.lst (ts.map natD)])) =
        evSs tx.pg (run tx.pg tx.fns (n + 1)) shLast (shSl N M b left g.length (some (.int q)) (some (.int w))) (x2.o :: (g ++ [.lst (ts.map natD)])) := by
      have rg := rng1_nat (n := N) (by omega)
      have wp : wipeD (shSl N M b left g.length (some (.int r1)) (some (.int v))) [8] = shSl N M b left g.length (some (.int r1)) (some (.int v)) := rfl
      have c0 : decide ((v : Int) = 0) = true := by simp [c]
      have body : evSs tx.pg (run tx.pg tx.fns (n + 1)) (.cons (.set 6 (.ix (.pur (.comp [8] (.rng1 (.v 1)) (.n 8) (.so (.cmp .lt (.ix (.v 4) (.v 8)) (.v 3))) (.v 8))) (.c (.int 0)))) (.cons (.set 7 (.blt .min2 (.cons (.v 5) (.cons (.bin .sub (.v 3) (.ix (.v 4) (.v 6))) .nil)))) .nil)) (shSl N M b left g.length (some (.int r1)) (some (.int v))) (x2.o :: (g ++ [.lst (ts.map natD)])) =
          .nx (shSl N M b left g.length (some (.int q)) (some (.int w))) (x2.o :: (g ++ [.lst (ts.map natD)])) := by
        simp only [ap_Ss_cons, ap_S_set, ap_E_ix, ap_E_pur, ap_purE, ap_F_comp, ap_I_rng1, wp]
        have ev1 : evE tx.pg (run tx.pg tx.fns (n + 1)) (.v 1) (shSl N M b left g.length (some (.int r1)) (some (.int v))) (x2.o :: (g ++ [.lst (ts.map natD)])) = .ok (.int N) (x2.o :: (g ++ [.lst (ts.map natD)])) := rfl
        simp only [ev1, R.bind_ok, rg, opt_some, cf, ap_sure_ok, if_pos lm, ap_E_c, ix_lst0, R.thenS_ok, SR.andThen_nx]
        show (evS _ _ _ [some (.ref 0), some (.int N), some (.int M), some (.int b), some (.ref (g.length + 1)), some (.int left), some (.int q), some (.int v), none] _).andThen _ = _
        simp only [ap_S_set, ap_E_blt, ap_Es_cons, ap_Es_nil, ap_E_v5, ap_E_v3, ap_E_v4, ap_E_v6, ap_E_bin, ap_E_ix, R.bind_ok, e3, opt_some, bin_subI, min_ints, hw, R.thenS_ok, SR.andThen_nx, ap_Ss_nil]
        rfl
      have ev7 : evE tx.pg (run tx.pg tx.fns (n + 1)) (.v 7) (shSl N M b left g.length (some (.int r1)) (some (.int v))) (x2.o :: (g ++ [.lst (ts.map natD)])) = .ok (.int v) (x2.o :: (g ++ [.lst (ts.map natD)])) := rfl
      rw [ap_Ss_cons, ap_S_ife]
      simp only [ap_T_cmp, ev7, R.bind_ok, ap_E_c, cmp_eq, opt_some, R.thenS_ok, c0, if_true, body, SR.andThen_nx]
    rw [second, sh_last _ _ _ _ _ _ _ _ _ _ hq1 (by omega)]
    exact ⟨x2, _, _, _, _, ok2, k.give hq1 (by omega) (by omega), by omega, rfl⟩
  · have second : evSs tx.pg (run tx.pg tx.fns (n + 1)) (.cons (.ife (.cmp .eq (.v 7) (.c (.int 0))) (.cons (.set 6 (.ix (.pur (.comp [8] (.rng1 (.v 1)) (.n 8) (.so (.cmp .lt (.ix (.v 4) (.v 8)) (.v 3))) (.v 8))) (.c (.int 0)))) (.cons (.set 7 (.blt .min2 (.cons (.v 5) (.cons (.bin .sub (.v 3) (.ix (.v 4) (.v 6))) .nil)))) .nil)) .nil) shLast) (shSl N M b left g.length (some (.int r1)) (some (.int v))) (x2.o :: (g ++ [.lst (ts.map natD)])) =
        evSs tx.pg (run tx.pg tx.fns (n + 1)) shLast (shSl N M b left g.length (some (.int r1)) (some (.int v))) (x2.o :: (g ++ [.lst (ts.map natD)])) := by
      have c0 : decide ((v : Int) = 0) = false := by simp [c]
      have ev7 : evE tx.pg (run tx.pg tx.fns (n + 1)) (.v 7) (shSl N M b left g.length (some (.int r1)) (some (.int v))) (x2.o :: (g ++ [.lst (ts.map natD)])) = .ok (.int v) (x2.o :: (g ++ [.lst (ts.map natD)])) := rfl
      rw [ap_Ss_cons, ap_S_ife]
      simp only [ap_T_cmp, ev7, R.bind_ok, ap_E_c, cmp_eq, opt_some, R.thenS_ok, c0, Bool.false_eq_true, if_false, ap_Ss_nil, SR.andThen_nx]
    rw [second, sh_last _ _ _ _ _ _ _ _ _ _ hp (by omega)]
    exact ⟨x2, _, _, _, _, ok2, k.give hp (by omega) (by omega), by omega, rfl⟩
end TX
set_option maxRecDepth 100000
namespace TX
open PySem PySem.Spec L2 Ev
open PyProof.Rows hiding St
theorem sh_loop (n : Nat) (g : Hh) (N M b : Nat) (hN : 0 < N) (hN2 : N ≤ 12) (hM : M ≤ N) : ∀ (left : Nat) (x : Hd) (ts : List Nat) (p0 v0 : Option D), left ≤ 100000 → x.Ok → Tops N M b ts left → ∃ (m : Nat) (x' : Hd) (ts' : List Nat) (p1 v1 : Option D), x'.Ok ∧ Tops N M b ts' 0 ∧
    whileL (evT tx.pg (run tx.pg tx.fns (n + 1)) shCond) (evSs tx.pg (run tx.pg tx.fns (n + 1)) shBody) m (shSl N M b left g.length p0 v0) (x.o :: (g ++ [.lst (ts.map natD)])) = .nx (shSl N M b 0 g.length p1 v1) (x'.o :: (g ++ [.lst (ts'.map natD)])) := by
  intro left
  induction left using Nat.strongRecOn with
  | ind left ih =>
    intro x ts p0 v0 hl ok k
    have ec : evT tx.pg (run tx.pg tx.fns (n + 1)) shCond (shSl N M b left g.length p0 v0) (x.o :: (g ++ [.lst (ts.map natD)])) = .ok (decide ((0 : Int) < left)) (x.o :: (g ++ [.lst (ts.map natD)])) := rfl
    by_cases h0 : left = 0
    · subst h0
      refine ⟨1, x, ts, p0, v0, ok, k, ?_⟩
      unfold whileL
      rw [ec]
      simp
    · obtain ⟨x1, ts1, left1, p1, v1, ok1, k1, hlt, q⟩ := sh_body n x ok g N M b left ts k hN hN2 hM (by omega) hl p0 v0
      obtain ⟨m, x', ts', p2, v2, ok2, k2, q2⟩ := ih left1 hlt x1 ts1 p1 v1 (by omega) ok1 k1
      refine ⟨m + 1, x', ts', p2, v2, ok2, k2, ?_⟩
      unfold whileL
      rw [ec]
      have : (0 : Int) < left := by omega
      simp only [this, decide_true, R.thenS_ok, if_true, q]
      exact q2
theorem rep_zero (h : Hh) {N : Nat} (hN : N ≤ 12) : repO h (.lst [.int 0]) (.int N) = some (.lst ((List.replicate N 0).map natD)) := by
  have e : (List.replicate N [D.int 0]).flatten = (List.replicate N 0).map natD := by
    clear hN
    induction N with
    | zero => rfl
    | succ N ih => rw [List.replicate_succ, List.replicate_succ, List.flatten_cons, List.map_cons, ih]; rfl
  have c : -(2 ^ 63) ≤ (N : Int) ∧ (N : Int) < 2 ^ 63 ∧ lim ([D.int 0].length * (N : Int).toNat) := ⟨by omega, by omega, lim_le (by simp; omega)⟩
  unfold repO
  simp only [lofD_lst]
  rw [if_pos c, Int.toNat_natCast, e]
theorem v_shares (n : Nat) (x : Hd) (ok : x.Ok) (g : Hh) (N M : Nat) (h1 : 1 ≤ M) (hM : M ≤ N) (hN : N ≤ 12) : ∃ (x' : Hd) (sh : Sh), x'.Ok ∧ sh.Ok N M ∧ run tx.pg tx.fns (n + 3) 30 [.ref 0, .int N, .int M] (x.o :: g) = .ok sh.d (x'.o :: g) := by
  obtain ⟨x1, r, ok1, hr, q1⟩ := v_draw (n + 1) x ok g 360 (by omega) (by omega)
  obtain ⟨x2, d, ok2, hd, q2⟩ := v_any n x1 ok1 g [.int 1, .int 2, .int 3, .int 7, .int 60, .int 360, .int (1 + (r : Int))] (by simp) (by simp)
  obtain ⟨b, rfl, b1, b2⟩ : ∃ b : Nat, d = .int b ∧ 1 ≤ b ∧ b ≤ 360 := by
    simp only [List.mem_cons, List.not_mem_nil, or_false] at hd
    rcases hd with rfl | rfl | rfl | rfl | rfl | rfl | rfl
    · exact ⟨1, rfl, by omega, by omega⟩
    · exact ⟨2, rfl, by omega, by omega⟩
    · exact ⟨3, rfl, by omega, by omega⟩
    · exact ⟨7, rfl, by omega, by omega⟩
    · exact ⟨60, rfl, by omega, by omega⟩
    · exact ⟨360, rfl, by omega, by omega⟩
    · exact ⟨1 + r, by congr 1, by omega, by omega⟩
  have hle : M * b ≤ 100000 := by
    have : M * b ≤ 12 * 360 := Nat.mul_le_mul (by omega) (by omega)
    omega
  obtain ⟨m, x3, ts, p1, v1, ok3, k3, q3⟩ := sh_loop (n + 1) g N M b (by omega) hN hM (M * b) x2 (List.replicate N 0) none none hle ok2 ⟨by simp, fun t ht => by have := List.eq_of_mem_replicate ht; omega, by simp⟩
  have qw : whileS (evT tx.pg (run tx.pg tx.fns (n + 2)) shCond) (evSs tx.pg (run tx.pg tx.fns (n + 2)) shBody) (shSl N M b (M * b) g.length none none) (x2.o :: (g ++ [.lst ((List.replicate N 0).map natD)])) = .nx (shSl N M b 0 g.length p1 v1) (x3.o :: (g ++ [.lst (ts.map natD)])) := by
    rw [whileS_of m (by rw [q3]; simp), q3]
  refine ⟨x3, ⟨b, ts⟩, ok3, ⟨b1, b2, k3.len, k3.top, by have := k3.sum; simpa using this⟩, ?_⟩
  rw [run__law_shares]
  have eb : b__law_shares = .cons (.set 3 (.call 25 (.cons (.v 0) (.cons (.pur (.lst (.cons (.c (.int 1)) (.cons (.c (.int 2)) (.cons (.c (.int 3)) (.cons (.c (.int 7)) (.cons (.c (.int 60)) (.cons (.c (.int 360)) (.cons (.bin .add (.c (.int 1)) (.call 24 (.cons (.v 0) (.cons (.c (.int 360)) .nil)))) .nil))))))))) .nil)))) (.cons (.set 4 (.new (.rep (.pur (.lst (.cons (.c (.int 0)) .nil))) (.v 1)))) (.cons (.set 5 (.bin .mul (.v 2) (.v 3))) (.cons (.whl shCond shBody) (.cons (.ret (.tup (.cons (.v 3) (.cons (.blt .tuple (.cons (.v 4) .nil)) .nil)))) .nil)))) := rfl
  rw [eb]
  have rz := rep_zero (x2.o :: g) hN
  have mo : mulOk (M : Int) (b : Int) := mul_l ⟨by omega, by omega⟩
  have l7 : lim 7 := lim_le (by omega)
  have hf := fin_hand (x := x) (x' := x3) (g := g) (t := [.lst (ts.map natD)]) (d := Sh.d ⟨b, ts⟩) (by simp [Sh.d, lo_nat])
  have em : ((M : Int) * b) = ((M * b : Nat) : Int) := by simp
  have q1 : run tx.pg tx.fns (n + 2) 24 [.ref 0, .int 360] (x.o :: g) = .ok (.int r) (x1.o :: g) := q1
  simp only [shSl] at qw
  simp at qw rz
  simp [q1, q2, l7, rz, mo, qw]
  exact hf
end TX
set_option maxRecDepth 100000
namespace TX
open PySem PySem.Spec L2 Ev
open PyProof.Rows hiding St
/-- a comprehension whose parts draw -/
theorem comp_hand {α β : Type} {tg : Tg} {cond : BF} {elt : EF} {s0 : Sl} {g : Hh} {inj : α → D} {f : β → D} {Pr : β → Prop} : ∀ (xs : List α) (x : Hd), x.Ok → (∀ a ∈ xs, ∀ y : Hd, y.Ok → ∃ (s1 : Sl) (y' : Hd) (v : β), y'.Ok ∧ Pr v ∧ bindT tg (inj a) s0 = some s1 ∧ cond s1 (y.o :: g) = .ok true (y.o :: g) ∧ elt s1 (y.o :: g) = .ok (f v) (y'.o :: g)) →
    ∃ (x' : Hd) (vs : List β), x'.Ok ∧ vs.length = xs.length ∧ (∀ v ∈ vs, Pr v) ∧ compL [] tg cond elt s0 (xs.map inj) (x.o :: g) = .ok (vs.map f) (x'.o :: g)
  | [], x, ok, _ => ⟨x, [], ok, rfl, fun v h => (by cases h), compL_nil gok_nil⟩
  | a :: xs, x, ok, q => by
    obtain ⟨s1, y, v, ok1, p1, q1, q2, q3⟩ := q a List.mem_cons_self x ok
    obtain ⟨x', vs, ok2, hl, p2, q4⟩ := comp_hand (f := f) (Pr := Pr) xs y ok1 fun b hb => q b (List.mem_cons_of_mem _ hb)
    refine ⟨x', v :: vs, ok2, by simp [hl], fun w hw => ?_, ?_⟩
    · cases hw with
      | head => exact p1
      | tail _ hw => exact p2 w hw
    · rw [List.map_cons, compL_cons gok_nil]
      simp only [q1, q2, R.bind_ok, if_true, q3, q4, List.map_cons]
/-- a comprehension whose test draws -/
theorem comp_handF {α : Type} {tg : Tg} {cond : BF} {elt : EF} {s0 : Sl} {g : Hh} {inj f : α → D} : ∀ (xs : List α) (x : Hd), x.Ok → (∀ a ∈ xs, ∀ y : Hd, y.Ok → ∃ (s1 : Sl) (y' : Hd) (b : Bool), y'.Ok ∧ bindT tg (inj a) s0 = some s1 ∧ cond s1 (y.o :: g) = .ok b (y'.o :: g) ∧ ∀ h, elt s1 h = .ok (f a) h) →
    ∃ (x' : Hd) (vs : List α), x'.Ok ∧ vs.Sublist xs ∧ compL [] tg cond elt s0 (xs.map inj) (x.o :: g) = .ok (vs.map f) (x'.o :: g)
  | [], x, ok, _ => ⟨x, [], ok, .slnil, compL_nil gok_nil⟩
  | a :: xs, x, ok, q => by
    obtain ⟨s1, y, b, ok1, q1, q2, q3⟩ := q a List.mem_cons_self x ok
    obtain ⟨x', vs, ok2, hs, q4⟩ := comp_handF (f := f) xs y ok1 fun b hb => q b (List.mem_cons_of_mem _ hb)
    cases b with
    | true =>
      refine ⟨x', a :: vs, ok2, hs.cons₂ a, ?_⟩
      rw [List.map_cons, compL_cons gok_nil]
      simp only [q1, q2, R.bind_ok, if_true, q3, q4, List.map_cons]
    | false =>
      refine ⟨x', vs, ok2, hs.cons a, ?_⟩
      rw [List.map_cons, compL_cons gok_nil]
      simp only [q1, q2, R.bind_ok, Bool.false_eq_true, if_false, q4]
theorem v_row (n : Nat) (x : Hd) (ok : x.Ok) (g : Hh) (N M most : Nat) (h1 : 1 ≤ M) (hM : M ≤ N) (hN : N ≤ 12) (hm : most ≤ 400) : ∃ (x' : Hd) (r : List Sh), x'.Ok ∧ (∀ s ∈ r, s.Ok N M) ∧ r.length ≤ most ∧ run tx.pg tx.fns (n + 4) 31 [.ref 0, .int N, .int M, .int most] (x.o :: g) = .ok (rowD r) (x'.o :: g) := by
  obtain ⟨x1, k, ok1, hk, q1⟩ := v_draw (n + 2) x ok g (most + 1) (by omega) (by omega)
  have q1 : run tx.pg tx.fns (n + 3) 24 [.ref 0, .int ((most : Int) + 1)] (x.o :: g) = .ok (.int k) (x1.o :: g) := q1
  obtain ⟨x2, r, ok2, hl, hr, q2⟩ := comp_hand (tg := .n 4) (cond := evT2 tx.pg (run tx.pg tx.fns (n + 3)) .no) (elt := evE tx.pg (run tx.pg tx.fns (n + 3)) (.call 30 (.cons (.v 0) (.cons (.v 1) (.cons (.v 2) .nil))))) (s0 := [some (.ref 0), some (.int N), some (.int M), some (.int most), none]) (g := g) (inj := fun i : Nat => .int i) (f := Sh.d) (Pr := fun s => s.Ok N M) (List.range k) x1 ok1 fun a ha y oky => by
    obtain ⟨y', sh, ok', hs, q⟩ := v_shares n y oky g N M h1 hM hN
    refine ⟨_, y', sh, ok', hs, rfl, rfl, ?_⟩
    simp [q]
  rw [List.length_range] at hl
  refine ⟨x2, r, ok2, hr, by omega, ?_⟩
  rw [run__law_row]
  have rg := rng1_nat (n := k) (by omega)
  have lm : lim r.length := lim_le (by omega)
  simp [b__law_row, q1, rg, q2, lm, rowD]
end TX
set_option maxRecDepth 100000
namespace TX
open PySem PySem.Spec L2 Ev
open PyProof.Rows hiding St
theorem lot_of_sub {l : List Nat} (h : l.Sublist (List.range 12)) : LotOk l := by
  refine ⟨List.Pairwise.sublist h List.pairwise_lt_range, fun k hk => by simpa using h.subset hk, ?_⟩
  have := h.length_le
  simpa using this
theorem v_lots (n : Nat) (x : Hd) (ok : x.Ok) (g : Hh) (most : Nat) (hm : most ≤ 400) : ∃ (x' : Hd) (ls : List (List Nat)), x'.Ok ∧ (∀ l ∈ ls, LotOk l) ∧ ls.length ≤ most ∧ run tx.pg tx.fns (n + 3) 32 [.ref 0, .int most] (x.o :: g) = .ok (lotsD ls) (x'.o :: g) := by
  obtain ⟨x1, k, ok1, hk, q1⟩ := v_draw (n + 1) x ok (g ++ [.lst []]) (most + 1) (by omega) (by omega)
  have q1 : run tx.pg tx.fns (n + 2) 24 [.ref 0, .int ((most : Int) + 1)] (x.o :: (g ++ [.lst []])) = .ok (.int k) (x1.o :: (g ++ [.lst []])) := q1
  have loop : ∀ (xs : List Nat) (x : Hd) (ls : List (List Nat)) (a b : Option D), x.Ok → (∀ l ∈ ls, LotOk l) → ls.length + xs.length ≤ 1000 → ∃ (x' : Hd) (ls' : List (List Nat)) (a' b' : Option D), x'.Ok ∧ (∀ l ∈ ls', LotOk l) ∧ ls'.length = ls.length + xs.length ∧
      forL [] (evTg tx.pg (run tx.pg tx.fns (n + 2)) (.tg (.n 3))) (evSs tx.pg (run tx.pg tx.fns (n + 2)) (.cons (.set 4 (.call 25 (.cons (.v 0) (.cons (.pur (.lst (.cons (.c (.int 2)) (.cons (.c (.int 3)) (.cons (.c (.int 12)) .nil))))) .nil)))) (.cons (.ex (.bm .append (.v 2) (.cons (.blt .tuple (.cons (.pur (.comp [5] (.rng1 (.c (.int 12))) (.n 5) (.so (.cmp .eq (.call 24 (.cons (.v 0) (.cons (.v 4) .nil))) (.c (.int 0)))) (.v 5))) .nil)) .nil))) .nil)))
        (xs.map fun i : Nat => .int i) [some (.ref 0), some (.int most), some (.ref (g.length + 1)), a, b, none] (x.o :: (g ++ [.lst (ls.map lotD)])) = .nx [some (.ref 0), some (.int most), some (.ref (g.length + 1)), a', b', none] (x'.o :: (g ++ [.lst (ls'.map lotD)])) := by
    intro xs
    induction xs with
    | nil => exact fun x ls a b ok h _ => ⟨x, ls, a, b, ok, h, rfl, forL_nil gok_nil⟩
    | cons i xs ih =>
      intro x ls a b ok hls hl
      simp only [List.length_cons] at hl
      obtain ⟨x1, d, ok1, hd, q2⟩ := v_any n x ok (g ++ [.lst (ls.map lotD)]) [.int 2, .int 3, .int 12] (by simp) (by simp)
      obtain ⟨rare, rfl, r1, r2⟩ : ∃ r : Nat, d = .int r ∧ 0 < r ∧ r < 100 := by
        simp only [List.mem_cons, List.not_mem_nil, or_false] at hd
        rcases hd with rfl | rfl | rfl
        · exact ⟨2, rfl, by omega, by omega⟩
        · exact ⟨3, rfl, by omega, by omega⟩
        · exact ⟨12, rfl, by omega, by omega⟩
      obtain ⟨x2, l, ok2, hs, q3⟩ := comp_handF (tg := .n 5) (cond := evT2 tx.pg (run tx.pg tx.fns (n + 2)) (.so (.cmp .eq (.call 24 (.cons (.v 0) (.cons (.v 4) .nil))) (.c (.int 0))))) (elt := evE tx.pg (run tx.pg tx.fns (n + 2)) (.v 5)) (s0 := [some (.ref 0), some (.int most), some (.ref (g.length + 1)), some (.int i), some (.int rare), none]) (g := g ++ [.lst (ls.map lotD)]) (inj := fun i : Nat => .int i) (f := fun i : Nat => .int i) (List.range 12) x1 ok1 fun a ha y oky => by
        obtain ⟨y', r, ok', hr, q⟩ := v_draw (n + 1) y oky (g ++ [.lst (ls.map lotD)]) rare r1 (by omega)
        refine ⟨_, y', decide ((r : Int) = 0), ok', rfl, ?_, fun h => rfl⟩
        simp [q]
      have lo := lot_of_sub hs
      have rg : rngO1 [.int 12] = some ⟨(List.range 12).map fun i : Nat => .int i, []⟩ := rng1_nat (n := 12) (by omega)
      have lm : lim l.length := lim_le (by have := lo.len; omega)
      have ap := append_t (o := x2.o) (g := g) (l := ls.map lotD) (y := lotD l) (by simp; omega)
      obtain ⟨x3, ls', a', b', ok3, h3, hl3, q4⟩ := ih x2 (ls ++ [l]) (some (.int i)) (some (.int rare)) ok2 (fun p hp => by
        rcases List.mem_append.mp hp with z | z
        · exact hls p z
        · cases List.mem_singleton.mp z; exact lo) (by simp; omega)
      refine ⟨x3, ls', a', b', ok3, h3, by rw [hl3]; simp; omega, ?_⟩
      rw [List.map_cons, forL_cons gok_nil]
      have et : (l.map fun i : Nat => D.int i) = l.map natD := rfl
      rw [et] at q3
      simp [lotD] at ap q4
      simp [q2, rg, q3, lm, ap]
      exact q4
  obtain ⟨x2, ls, a', b', ok2, h2, hl2, q2⟩ := loop (List.range k) x1 [] none none ok1 (fun l h => by cases h) (by simp; omega)
  refine ⟨x2, ls, ok2, h2, by simp at hl2; omega, ?_⟩
  rw [run__law_lots]
  have rg := rng1_nat (n := k) (by omega)
  have hf := fin_hand (x := x) (x' := x2) (g := g) (t := [.lst (ls.map lotD)]) (d := lotsD ls) (by simp [lotsD, lo_lots])
  simp at q2
  simp [b__law_lots, q1, rg, q2]
  exact hf
end TX
set_option maxRecDepth 100000
namespace TX
open PySem PySem.Spec L2 Ev
open PyProof.Rows hiding St
/-! ### what repr shows -/
mutual
/-- whole numbers of at most nine figures, tuples of them -/
def plainP : PyData → Bool
  | .int i => decide (0 ≤ i ∧ i < 1000000000)
  | .tuple xs => plainPs xs
  | _ => false
def plainPs : List PyData → Bool
  | [] => true
  | x :: xs => plainP x && plainPs xs
end
mutual
def wgt : PyData → Nat
  | .int _ => 10
  | .tuple xs => wgts xs + 10
  | _ => 0
def wgts : List PyData → Nat
  | [] => 0
  | x :: xs => wgt x + 2 + wgts xs
end
theorem plain_int {i : Int} (h : plainP (.int i) = true) : (PyData.shown (.int i)).length ≤ 10 ∧ PyData.showable (.int i) = true := by
  have h' : 0 ≤ i ∧ i < 1000000000 := of_decide_eq_true (by simpa only [plainP] using h)
  obtain ⟨k, rfl⟩ := Int.eq_ofNat_of_zero_le h'.1
  have hk : k < 10 ^ 9 := by omega
  refine ⟨?_, ?_⟩
  · have e : PyData.shown (.int (k : Int)) = Str.ofString (toString ((k : Nat) : Int)) := by unfold PyData.shown; rfl
    rw [e, SX.num_S, SX.S_len]
    have := TL.numL_len (n := k) (k := 9) (by omega) hk
    omega
  · have := log_small hk
    simp only [PyData.showable]
    exact decide_eq_true (by simpa using this)
mutual
theorem plain_ok : ∀ p : PyData, plainP p = true → p.shown.length ≤ wgt p ∧ p.showable = true ∧ p.hasDict = false
  | .int i, h => by
    obtain ⟨h1, h2⟩ := plain_int h
    exact ⟨by simpa only [wgt] using h1, h2, by simp only [PyData.hasDict]⟩
  | .tuple xs, h => by
    obtain ⟨h1, h2, h3, h4⟩ := plain_oks xs (by simpa only [plainP] using h)
    refine ⟨?_, by simpa only [PyData.showable] using h3, by simpa only [PyData.hasDict] using h4⟩
    have := tupleText_len_le (PyData.shownAll xs)
    simp only [PyData.shown, wgt]
    omega
  | .none, h => by simp [plainP] at h
  | .bool _, h => by simp [plainP] at h
  | .str _, h => by simp [plainP] at h
  | .list _, h => by simp [plainP] at h
  | .dict _, h => by simp [plainP] at h
theorem plain_oks : ∀ xs : List PyData, plainPs xs = true → ((PyData.shownAll xs).map (·.length)).sum + 2 * (PyData.shownAll xs).length ≤ wgts xs ∧ (PyData.shownAll xs).length = xs.length ∧ PyData.showableAll xs = true ∧ PyData.hasDictAll xs = false
  | [], _ => by simp [PyData.shownAll, PyData.showableAll, PyData.hasDictAll, wgts]
  | x :: xs, h => by
    obtain ⟨h1, h2⟩ := and2 (show (plainP x && plainPs xs) = true by simpa only [plainPs] using h)
    obtain ⟨a1, a2, a3⟩ := plain_ok x h1
    obtain ⟨b1, b2, b3, b4⟩ := plain_oks xs h2
    refine ⟨?_, ?_, ?_, ?_⟩
    · simp only [PyData.shownAll, wgts, List.map_cons, List.sum_cons, List.length_cons]
      omega
    · simp only [PyData.shownAll, List.length_cons, b2]
    · simp only [PyData.showableAll, a2, b3, Bool.and_self]
    · simp only [PyData.hasDictAll, a3, b4, Bool.or_self]
end
theorem plains_map {α : Type} {f : α → PyData} : ∀ {l : List α}, (∀ x ∈ l, plainP (f x) = true) → plainPs (l.map f) = true
  | [], _ => by simp only [List.map_nil, plainPs]
  | a :: l, h => by
    simp only [List.map_cons, plainPs, h a List.mem_cons_self, plains_map fun x hx => h x (List.mem_cons_of_mem _ hx), Bool.and_self]
theorem wgts_map {α : Type} {f : α → PyData} {c : Nat} : ∀ {l : List α}, (∀ x ∈ l, wgt (f x) ≤ c) → wgts (l.map f) ≤ l.length * (c + 2)
  | [], _ => by simp [wgts]
  | a :: l, h => by
    have h1 := h a List.mem_cons_self
    have h2 := wgts_map (f := f) (c := c) fun x hx => h x (List.mem_cons_of_mem _ hx)
    simp only [List.map_cons, wgts, List.length_cons, Nat.add_mul, Nat.one_mul]
    omega
theorem deps_map {α : Type} {f : α → PyData} {c : Nat} : ∀ {l : List α}, (∀ x ∈ l, (f x).depth ≤ c) → PyData.depthAll (l.map f) ≤ c
  | [], _ => by simp [PyData.depthAll]
  | a :: l, h => by
    have h1 := h a List.mem_cons_self
    have h2 := deps_map (f := f) (c := c) fun x hx => h x (List.mem_cons_of_mem _ hx)
    simp only [List.map_cons, PyData.depthAll]
    omega
def natP (k : Nat) : PyData := .int k
def Sh.p (x : Sh) : PyData := .tuple [.int x.b, .tuple (x.tops.map natP)]
def lotP (l : List Nat) : PyData := .tuple (l.map natP)
theorem py_sh (x : Sh) : pyD x.d = some x.p := by
  have := pySh x.b x.tops
  show (pyDs [.int x.b, .tup (x.tops.map natD)]).map PyData.tuple = _
  rw [this]; rfl
theorem pyDs_map {α : Type} {f : α → D} {g : α → PyData} (h : ∀ x, pyD (f x) = some (g x)) : ∀ l : List α, pyDs (l.map f) = some (l.map g)
  | [] => by simp only [List.map_nil, pyDs]
  | a :: l => by simp only [List.map_cons, pyDs, h a, pyDs_map h l]
theorem py_row (r : List Sh) : pyD (rowD r) = some (.tuple (r.map Sh.p)) := by
  show (pyDs (r.map Sh.d)).map PyData.tuple = _
  rw [pyDs_map py_sh]; rfl
theorem py_ret (N M : Nat) (r : List Sh) : pyD (retD N M r) = some (.tuple [.int N, .int M, .tuple (r.map Sh.p)]) := by
  show (pyDs [.int N, .int M, rowD r]).map PyData.tuple = _
  simp only [pyDs, pyD, py_row, Option.map_some]
theorem py_lot (l : List Nat) : pyD (lotD l) = some (lotP l) := by
  show (pyDs (l.map natD)).map PyData.tuple = _
  rw [pyDs_nat l]; rfl
theorem py_lots (ls : List (List Nat)) : pyD (lotsD ls) = some (.tuple (ls.map lotP)) := by
  show (pyDs (ls.map lotD)).map PyData.tuple = _
  rw [pyDs_map py_lot]; rfl
theorem plain_nat {k : Nat} (h : k < 1000000000) : plainP (natP k) = true := by
  simp only [natP, plainP]
  exact decide_eq_true ⟨by omega, by omega⟩
theorem nat_dep (l : List Nat) : PyData.depthAll (l.map natP) ≤ 0 := deps_map fun k _ => by simp [natP, PyData.depth]
theorem nat_wgt (l : List Nat) : wgts (l.map natP) ≤ l.length * 12 := wgts_map fun k _ => by simp [natP, wgt]
theorem repr_of {d : D} {p : PyData} (ht : isTupD d = true) (e : pyD d = some p) (pl : plainP p = true) (hw : wgt p ≤ 16777216) (hd : p.depth ≤ 60) : ∃ s, reprD d = some (.str s) := by
  obtain ⟨h1, h2, h3⟩ := plain_ok p pl
  refine ⟨p.shown, ?_⟩
  unfold reprD
  rw [if_pos ht, e]
  exact gd_pos ⟨h2, h3, by rw [sizeLine_eq]; omega, hd⟩
theorem sh_plain {N M : Nat} {x : Sh} (ok : x.Ok N M) : plainP x.p = true := by
  have b2 := ok.b2
  have h : plainPs (x.tops.map natP) = true := plains_map fun k hk => plain_nat (by have := ok.top k hk; omega)
  have hb : plainP (.int (x.b : Int)) = true := plain_nat (by omega)
  simp only [Sh.p, plainP, plainPs, h, Bool.and_true]
  simpa only [plainP] using hb
end TX
set_option maxRecDepth 100000
namespace TX
open PySem PySem.Spec L2 Ev
open PyProof.Rows hiding St
theorem tup_asc {ts : List Str} (h : ∀ t ∈ ts, asc (TL.tl t)) : asc (TL.tl (tupleText ts)) := by
  have e : TL.tl (tupleText ts) = TL.tl (Str.ofString "(") ++ TL.joinL (TL.tl (Str.ofString ", ")) (ts.map TL.tl) ++ TL.tl (Str.ofString (if ts.length == 1 then ",)" else ")")) := by
    unfold tupleText
    rw [TL.tl_append, TL.tl_append, TL.tl_join]
  rw [e]
  refine asc_app (asc_app ?_ (asc_join ?_ fun p hp => ?_)) ?_
  · rw [TL.tl_ofString]; intro c hc; simp at hc; omega
  · rw [TL.tl_ofString]; intro c hc; simp at hc; omega
  · obtain ⟨t, ht, rfl⟩ := List.mem_map.mp hp
    exact h t ht
  · rw [TL.tl_ofString]
    intro c hc
    split at hc <;> simp at hc <;> omega
mutual
theorem plain_asc : ∀ p : PyData, plainP p = true → asc (TL.tl p.shown)
  | .int i, h => by
    have h' : 0 ≤ i ∧ i < 1000000000 := of_decide_eq_true (by simpa only [plainP] using h)
    obtain ⟨k, rfl⟩ := Int.eq_ofNat_of_zero_le h'.1
    have e : PyData.shown (.int (k : Int)) = Str.ofString (toString ((k : Nat) : Int)) := by unfold PyData.shown; rfl
    rw [e, TL.tl_num]
    exact numL_asc k
  | .tuple xs, h => by
    simp only [PyData.shown]
    exact tup_asc (plain_ascs xs (by simpa only [plainP] using h))
  | .none, h => by simp [plainP] at h
  | .bool _, h => by simp [plainP] at h
  | .str _, h => by simp [plainP] at h
  | .list _, h => by simp [plainP] at h
  | .dict _, h => by simp [plainP] at h
theorem plain_ascs : ∀ xs : List PyData, plainPs xs = true → ∀ t ∈ PyData.shownAll xs, asc (TL.tl t)
  | [], _, t, ht => by simp [PyData.shownAll] at ht
  | x :: xs, h, t, ht => by
    obtain ⟨h1, h2⟩ := and2 (show (plainP x && plainPs xs) = true by simpa only [plainPs] using h)
    simp only [PyData.shownAll, List.mem_cons] at ht
    rcases ht with q | q
    · subst q; exact plain_asc x h1
    · exact plain_ascs xs h2 t q
end
theorem repr_of2 {d : D} {p : PyData} (ht : isTupD d = true) (e : pyD d = some p) (pl : plainP p = true) (hw : wgt p ≤ 16777216) (hd : p.depth ≤ 60) : ∃ s, reprD d = some (.str (SX.S s)) ∧ asc s := by
  obtain ⟨h1, h2, h3⟩ := plain_ok p pl
  refine ⟨TL.tl p.shown, ?_, plain_asc p pl⟩
  unfold reprD
  rw [if_pos ht, e, SX.S_tl]
  exact gd_pos ⟨h2, h3, by rw [sizeLine_eq]; omega, hd⟩
theorem repr_ret {N M : Nat} {r : List Sh} (ok : ∀ x ∈ r, x.Ok N M) (hN : N ≤ 12) (hM : M ≤ 12) (hr : r.length ≤ 400) : ∃ s, reprD (retD N M r) = some (.str (SX.S s)) ∧ asc s := by
  have h : plainPs (r.map Sh.p) = true := plains_map fun x hx => sh_plain (ok x hx)
  have w : wgts (r.map Sh.p) ≤ r.length * 202 := wgts_map fun x hx => by
    have := nat_wgt x.tops
    have hl := (ok x hx).len
    simp only [Sh.p, wgt, wgts]
    omega
  have dd : PyData.depthAll (r.map Sh.p) ≤ 3 := deps_map fun x hx => by
    have := nat_dep x.tops
    simp only [Sh.p, PyData.depth, PyData.depthAll]
    omega
  refine repr_of2 rfl (py_ret N M r) ?_ ?_ ?_
  · have a : plainP (.int (N : Int)) = true := plain_nat (by omega)
    have b : plainP (.int (M : Int)) = true := plain_nat (by omega)
    simp only [plainP, plainPs] at a b ⊢
    simp only [a, b, h, Bool.and_self]
  · simp only [wgt, wgts]; omega
  · simp only [PyData.depth, PyData.depthAll]; omega
theorem repr_lots {ls : List (List Nat)} (ok : ∀ l ∈ ls, LotOk l) (hl : ls.length ≤ 400) : ∃ s, reprD (lotsD ls) = some (.str (SX.S s)) ∧ asc s := by
  have h : plainPs (ls.map lotP) = true := plains_map fun l hl => by
    simp only [lotP, plainP]
    exact plains_map fun k hk => plain_nat (by have := (ok l hl).lt k hk; omega)
  have w : wgts (ls.map lotP) ≤ ls.length * 202 := wgts_map fun l hl => by
    have := nat_wgt l
    have := (ok l hl).len
    simp only [lotP, wgt]
    omega
  have dd : PyData.depthAll (ls.map lotP) ≤ 3 := deps_map fun l hl => by
    have := nat_dep l
    simp only [lotP, PyData.depth]
    omega
  refine repr_of2 rfl (py_lots ls) (by simpa only [plainP] using h) ?_ ?_
  · simp only [wgt]; omega
  · simp only [PyData.depth]; omega
end TX
set_option maxRecDepth 100000
namespace TX
open PySem PySem.Spec L2 Ev
open PyProof.Rows hiding St
/-! ### the law's own turns -/
def lwSl (sc : D) (gr : Bool) (t : Nat) (a : List (Option D)) : Sl := some sc :: some (.ref 0) :: some (.bl gr) :: some (.int t) :: a
def pB : S := .set 8 (.call 28 (.cons (.v 4) (.cons (.v 5) (.cons (.v 6) .nil))))
def pB2 : S := .ife (.or (.cmp .ne (.call 15 (.cons (.v 4) (.cons (.v 5) (.cons (.v 6) .nil)))) (.v 8)) (.cmp .ne (.rpr (.call 19 (.cons (.v 8) .nil))) (.rpr (.tup (.cons (.v 4) (.cons (.v 5) (.cons (.v 6) .nil))))))) (.cons (.ret (.c (.bl false))) .nil) .nil
def pC : S := .set 8 (.call 29 (.cons (.v 7) .nil))
def pC2 : S := .ife (.or (.cmp .ne (.call 21 (.cons (.v 7) .nil)) (.v 8)) (.cmp .ne (.rpr (.call 22 (.cons (.v 8) .nil))) (.rpr (.v 7)))) (.cons (.ret (.c (.bl false))) .nil) .nil
theorem feeds_asc {ls : List (List Nat)} (h : ∀ p ∈ ls, asc p) : asc (feeds ls) := by
  intro c hc
  unfold feeds at hc
  obtain ⟨l, hl, hcl⟩ := List.mem_flatten.mp hc
  obtain ⟨p, hp, rfl⟩ := List.mem_map.mp hl
  rcases List.mem_append.mp hcl with q | q
  · exact h p hp c q
  · cases List.mem_singleton.mp q; omega
theorem rowLs_asc (N M : Nat) (r : List Sh) : ∀ p ∈ rowLs N M r, asc p := fun p hp => by
  have s3 : asc [32] := fun c hc => by cases List.mem_singleton.mp hc; omega
  rcases List.mem_cons.mp hp with q | q
  · subst q
    refine asc_join s3 fun p hp => ?_
    simp at hp
    rcases hp with rfl | rfl | rfl
    · intro c hc; simp at hc; omega
    · exact numL_asc _
    · exact numL_asc _
  · obtain ⟨x, _, rfl⟩ := List.mem_map.mp q
    refine asc_join s3 fun p hp => ?_
    simp at hp
    rcases hp with rfl | rfl | rfl
    · intro c hc; simp at hc; omega
    · exact numL_asc _
    · exact csv_asc _
theorem part_B (n : Nat) (h : Hh) (sc : D) (gr : Bool) (t N M : Nat) (r : List Sh) (l8 : Option D) (lo : Option D) (b c : Option D) (ok : ∀ x ∈ r, x.Ok N M) (h1 : 1 ≤ N) (hN : N ≤ 12) (h2 : 1 ≤ M) (hM : M ≤ N) (hr : r.length ≤ 400) (K : Ss) :
    evSs tx.pg (run tx.pg tx.fns (n + 6)) (.cons pB (.cons pB2 K)) (lwSl sc gr t [some (.int N), some (.int M), some (rowD r), lo, l8, b, c]) h = evSs tx.pg (run tx.pg tx.fns (n + 6)) K (lwSl sc gr t [some (.int N), some (.int M), some (rowD r), lo, some (sD (feeds (rowLs N M r))), b, c]) h := by
  have q1 : run tx.pg tx.fns (n + 6) 28 [.int N, .int M, rowD r] h = _ := v_row_told (n + 5) h N M r ok hN hM hr
  have q2 : run tx.pg tx.fns (n + 6) 15 [.int N, .int M, rowD r] h = _ := v_row_text n h N M r ok h1 hN h2 hM hr
  have q3 : run tx.pg tx.fns (n + 6) 19 [sD (feeds (rowLs N M r))] h = _ := v_read_row n h N M r ok h1 hN h2 hM hr
  obtain ⟨s, es, as⟩ := repr_ret ok hN (show M ≤ 12 by omega) hr
  have fa := feeds_asc (rowLs_asc N M r)
  have c1 : cmpB .ne h (sD (feeds (rowLs N M r))) (sD (feeds (rowLs N M r))) = some false := by
    show cmpB .ne h (.str (SX.S _)) (.str (SX.S _)) = _
    rw [cmp_neS fa fa]; simp
  have c2 : cmpB .ne h (.str (SX.S s)) (.str (SX.S s)) = some false := by
    rw [cmp_neS as as]; simp
  have e3 : .tup [.int N, .int M, rowD r] = retD N M r := rfl
  simp [pB, pB2, lwSl, q1, q2, c1, q3, es, e3, c2]
theorem part_C (n : Nat) (h : Hh) (sc : D) (gr : Bool) (t : Nat) (ls : List (List Nat)) (a4 a5 a6 l8 b c : Option D) (ok : ∀ l ∈ ls, LotOk l) (hl : ls.length ≤ 400) (K : Ss) :
    evSs tx.pg (run tx.pg tx.fns (n + 6)) (.cons pC (.cons pC2 K)) (lwSl sc gr t [a4, a5, a6, some (lotsD ls), l8, b, c]) h = evSs tx.pg (run tx.pg tx.fns (n + 6)) K (lwSl sc gr t [a4, a5, a6, some (lotsD ls), some (sD (feeds (ls.map lotL))), b, c]) h := by
  have q1 : run tx.pg tx.fns (n + 6) 29 [lotsD ls] h = _ := v_lots_told (n + 5) h ls ok hl
  have q2 : run tx.pg tx.fns (n + 6) 21 [lotsD ls] h = _ := v_lots_text (n + 1) h ls ok hl
  have q3 : run tx.pg tx.fns (n + 6) 22 [sD (feeds (ls.map lotL))] h = _ := v_read_lots (n + 1) h ls ok hl
  obtain ⟨s, es, as⟩ := repr_lots ok hl
  have fa : asc (feeds (ls.map lotL)) := feeds_asc fun p hp => by
    obtain ⟨l, _, rfl⟩ := List.mem_map.mp hp
    exact lotL_asc l
  have c1 : cmpB .ne h (sD (feeds (ls.map lotL))) (sD (feeds (ls.map lotL))) = some false := by
    show cmpB .ne h (.str (SX.S _)) (.str (SX.S _)) = _
    rw [cmp_neS fa fa]; simp
  have c2 : cmpB .ne h (.str (SX.S s)) (.str (SX.S s)) = some false := by
    rw [cmp_neS as as]; simp
  simp [pC, pC2, lwSl, q1, q2, c1, q3, es, c2]
end TX
set_option maxRecDepth 100000
namespace TX
open PySem PySem.Spec L2 Ev
open PyProof.Rows hiding St
def pD : S := .set 9 (.call 25 (.cons (.v 1) (.cons (.pur (.lst (.cons (.c (.int 0)) (.cons (.c (.int 1)) (.cons (.neg (.c (.int 1))) (.cons (.c (.int 7)) (.cons (.bin .pow (.c (.int 10)) (.c (.int 30))) (.cons (.neg (.bin .pow (.c (.int 10)) (.c (.int 30)))) (.cons (.call 24 (.cons (.v 1) (.cons (.c (.int 1000)) .nil))) (.cons (.neg (.call 24 (.cons (.v 1) (.cons (.c (.int 1000)) .nil)))) .nil)))))))))) .nil)))
def pD2 : S := .set 10 (.call 26 (.cons (.v 9) (.cons (.call 25 (.cons (.v 1) (.cons (.pur (.lst (.cons (.c (.int 1)) (.cons (.c (.int 2)) (.cons (.c (.int 3)) (.cons (.c (.int 360)) (.cons (.c (.int 27720)) (.cons (.bin .add (.bin .pow (.c (.int 10)) (.c (.int 30))) (.c (.int 1))) .nil)))))))) .nil))) .nil)))
def pD3 : S := .ife (.cmp .ne (.call 14 (.cons (.v 10) .nil)) (.call 27 (.cons (.v 10) .nil))) (.cons (.ret (.c (.bl false))) .nil) .nil
theorem neg_of {f : EF} {s : Sl} {h h1 : Hh} {i : Int} (e : f s h = .ok (.int i) h1) : negE f s h = .ok (.int (-i)) h1 := by
  unfold negE
  rw [e]; rfl
theorem part_D (n : Nat) (x : Hd) (okx : x.Ok) (sc : D) (gr : Bool) (t : Nat) (a4 a5 a6 a7 a8 a9 a10 : Option D) : ∃ (x' : Hd) (b9 b10 : Option D), x'.Ok ∧
    evSs tx.pg (run tx.pg tx.fns (n + 6)) (.cons pD (.cons pD2 (.cons pD3 .nil))) (lwSl sc gr t [a4, a5, a6, a7, a8, a9, a10]) [x.o] = .nx (lwSl sc gr t [a4, a5, a6, a7, a8, b9, b10]) [x'.o] := by
  obtain ⟨x1, r1, ok1, hr1, q1⟩ := v_draw (n + 5) x okx [] 1000 (by omega) (by omega)
  obtain ⟨x2, r2, ok2, hr2, q2⟩ := v_draw (n + 5) x1 ok1 [] 1000 (by omega) (by omega)
  have q1 : run tx.pg tx.fns (n + 6) 24 [.ref 0, .int 1000] [x.o] = .ok (.int r1) [x1.o] := q1
  have q2 : run tx.pg tx.fns (n + 6) 24 [.ref 0, .int 1000] [x1.o] = .ok (.int r2) [x2.o] := q2
  obtain ⟨x3, d, ok3, hd, q3⟩ := v_any (n + 4) x2 ok2 [] [.int 0, .int 1, .int (-1), .int 7, .int (10 ^ 30), .int (-(10 ^ 30)), .int r1, .int (-(r2 : Int))] (by simp) (by simp)
  have q3 : run tx.pg tx.fns (n + 6) 25 [.ref 0, .lst [.int 0, .int 1, .int (-1), .int 7, .int (10 ^ 30), .int (-(10 ^ 30)), .int r1, .int (-(r2 : Int))]] [x2.o] = .ok d [x3.o] := q3
  obtain ⟨a, rfl, ha⟩ : ∃ a : Int, d = .int a ∧ a.natAbs < 10 ^ 40 := by
    simp only [List.mem_cons, List.not_mem_nil, or_false] at hd
    rcases hd with rfl | rfl | rfl | rfl | rfl | rfl | rfl | rfl <;> exact ⟨_, rfl, by omega⟩
  obtain ⟨x4, d, ok4, hd, q4⟩ := v_any (n + 4) x3 ok3 [] [.int 1, .int 2, .int 3, .int 360, .int 27720, .int (10 ^ 30 + 1)] (by simp) (by simp)
  have q4 : run tx.pg tx.fns (n + 6) 25 [.ref 0, .lst [.int 1, .int 2, .int 3, .int 360, .int 27720, .int (10 ^ 30 + 1)]] [x3.o] = .ok d [x4.o] := q4
  obtain ⟨b, rfl, hb, hb2⟩ : ∃ b : Nat, d = .int b ∧ 1 ≤ b ∧ b < 10 ^ 40 := by
    simp only [List.mem_cons, List.not_mem_nil, or_false] at hd
    rcases hd with rfl | rfl | rfl | rfl | rfl | rfl
    · exact ⟨1, rfl, by omega, by omega⟩
    · exact ⟨2, rfl, by omega, by omega⟩
    · exact ⟨3, rfl, by omega, by omega⟩
    · exact ⟨360, rfl, by omega, by omega⟩
    · exact ⟨27720, rfl, by omega, by omega⟩
    · exact ⟨10 ^ 30 + 1, rfl, by omega, by omega⟩
  obtain ⟨c, e, he, he2, hc, hg, q5⟩ := v_lowest (n + 5) [x4.o] a b hb ha hb2
  have q5 : run tx.pg tx.fns (n + 6) 26 [.int a, .int b] [x4.o] = .ok (.tup [.int c, .int e]) [x4.o] := q5
  have q6 : run tx.pg tx.fns (n + 6) 14 [.tup [.int c, .int e]] [x4.o] = _ := v_fraction_text (n + 3) [x4.o] c e he hg hc he2
  have q7 : run tx.pg tx.fns (n + 6) 27 [.tup [.int c, .int e]] [x4.o] = _ := v_fraction_told (n + 5) [x4.o] c e hc he2
  have fa := fracL_asc c e
  have c1 : cmpB .ne [x4.o] (sD (fracL c e)) (sD (fracL c e)) = some false := by
    show cmpB .ne _ (.str (SX.S _)) (.str (SX.S _)) = _
    rw [cmp_neS fa fa]; simp
  have pw : powOk 10 30 := ⟨by decide, by decide, by decide⟩
  have l8 : lim 8 := lim_le (by omega)
  have l6 : lim 6 := lim_le (by omega)
  refine ⟨x4, some (.int a), some (.tup [.int c, .int e]), ok4, ?_⟩
  have n1 : ∀ s h, negE (evE tx.pg (run tx.pg tx.fns (n + 6)) (.c (.int 1))) s h = .ok (.int (-1)) h := fun s h => neg_of rfl
  have n2 : ∀ s h, negE (evE tx.pg (run tx.pg tx.fns (n + 6)) (.bin .pow (.c (.int 10)) (.c (.int 30)))) s h = .ok (.int (-(10 ^ 30))) h := fun s h => neg_of (by simp [pw])
  have n3 : negE (evE tx.pg (run tx.pg tx.fns (n + 6)) (.call 24 (.cons (.v 1) (.cons (.c (.int 1000)) .nil)))) (lwSl sc gr t [a4, a5, a6, a7, a8, a9, a10]) [x1.o] = .ok (.int (-(r2 : Int))) [x2.o] := neg_of (by simp [lwSl, q2])
  simp at q3 q4 n2
  simp only [lwSl] at n3 ⊢
  simp [pD, pD2, pD3, pw, n1, n2, q1, n3, l8, q3, l6, q4, q5, q6, q7, c1]
end TX
set_option maxRecDepth 100000
namespace TX
open PySem PySem.Spec L2 Ev
open PyProof.Rows hiding St
def pA : S := .set 4 (.bin .add (.c (.int 1)) (.call 24 (.cons (.v 1) (.cons (.c (.int 12)) .nil))))
def pA2 : S := .set 5 (.bin .add (.c (.int 1)) (.call 24 (.cons (.v 1) (.cons (.v 4) .nil))))
def pA3 : S := .par [6, 7] (.cons (.call 31 (.cons (.v 1) (.cons (.v 4) (.cons (.v 5) (.cons (.c (.int 12)) .nil))))) (.cons (.call 32 (.cons (.v 1) (.cons (.c (.int 12)) .nil))) .nil))
def pA4 : S := .ife (.and (.e (.v 2)) (.cmp .eq (.v 3) (.c (.int 0)))) (.cons (.par [6, 7] (.cons (.bin .mul (.tup (.cons (.call 30 (.cons (.v 1) (.cons (.v 4) (.cons (.v 5) .nil)))) .nil)) (.c (.int 400))) (.cons (.bin .mul (.tup (.cons (.tup (.cons (.c (.int 0)) (.cons (.c (.int 3)) (.cons (.c (.int 11)) .nil)))) (.cons (.tup .nil) .nil))) (.c (.int 200))) .nil))) .nil) .nil
theorem rep_one {α : Type} (f : α → D) (x : α) : ∀ k : Nat, (List.replicate k [f x]).flatten = (List.replicate k x).map f
  | 0 => rfl
  | k + 1 => by rw [List.replicate_succ, List.replicate_succ, List.flatten_cons, List.map_cons, rep_one f x k]; rfl
theorem rep_two {α : Type} (f : α → D) (x y : α) : ∀ k : Nat, (List.replicate k [f x, f y]).flatten = ((List.replicate k [x, y]).flatten).map f
  | 0 => rfl
  | k + 1 => by rw [List.replicate_succ, List.replicate_succ, List.flatten_cons, List.flatten_cons, List.map_append, rep_two f x y k]; rfl
theorem part_A (n : Nat) (x : Hd) (okx : x.Ok) (sc : D) (gr : Bool) (t : Nat) (a4 a5 a6 a7 a8 a9 a10 : Option D) (K : Ss) : ∃ (x' : Hd) (N M : Nat) (r : List Sh) (ls : List (List Nat)), x'.Ok ∧ 1 ≤ N ∧ N ≤ 12 ∧ 1 ≤ M ∧ M ≤ N ∧ (∀ s ∈ r, s.Ok N M) ∧ r.length ≤ 400 ∧ (∀ l ∈ ls, LotOk l) ∧ ls.length ≤ 400 ∧
    evSs tx.pg (run tx.pg tx.fns (n + 6)) (.cons pA (.cons pA2 (.cons pA3 (.cons pA4 K)))) (lwSl sc gr t [a4, a5, a6, a7, a8, a9, a10]) [x.o] = evSs tx.pg (run tx.pg tx.fns (n + 6)) K (lwSl sc gr t [some (.int N), some (.int M), some (rowD r), some (lotsD ls), a8, a9, a10]) [x'.o] := by
  obtain ⟨x1, r1, ok1, hr1, q1⟩ := v_draw (n + 5) x okx [] 12 (by omega) (by omega)
  have q1 : run tx.pg tx.fns (n + 6) 24 [.ref 0, .int 12] [x.o] = .ok (.int r1) [x1.o] := q1
  obtain ⟨x2, r2, ok2, hr2, q2⟩ := v_draw (n + 5) x1 ok1 [] (1 + r1) (by omega) (by omega)
  have q2 : run tx.pg tx.fns (n + 6) 24 [.ref 0, .int ((1 + r1 : Nat) : Int)] [x1.o] = .ok (.int r2) [x2.o] := q2
  obtain ⟨N, eN⟩ : ∃ N : Nat, N = 1 + r1 := ⟨_, rfl⟩
  obtain ⟨M, eM⟩ : ∃ M : Nat, M = 1 + r2 := ⟨_, rfl⟩
  have iN : (1 + (r1 : Int)) = (N : Int) := by omega
  have iM : (1 + (r2 : Int)) = (M : Int) := by omega
  rw [← eN] at q2
  obtain ⟨x3, r, ok3, hr, hl, q3⟩ := v_row (n + 2) x2 ok2 [] N M 12 (by omega) (by omega) (by omega) (by omega)
  have q3 : run tx.pg tx.fns (n + 6) 31 [.ref 0, .int N, .int M, .int 12] [x2.o] = .ok (rowD r) [x3.o] := q3
  obtain ⟨x4, ls, ok4, hls, hll, q4⟩ := v_lots (n + 3) x3 ok3 [] 12 (by omega)
  have q4 : run tx.pg tx.fns (n + 6) 32 [.ref 0, .int 12] [x3.o] = .ok (lotsD ls) [x4.o] := q4
  have l2 : lim 2 := lim2
  by_cases c : gr = true ∧ (t : Int) = 0
  · obtain ⟨rfl, c0⟩ := c
    obtain ⟨x5, sh, ok5, hsh, q5⟩ := v_shares (n + 3) x4 ok4 [] N M (by omega) (by omega) (by omega)
    have q5 : run tx.pg tx.fns (n + 6) 30 [.ref 0, .int N, .int M] [x4.o] = .ok sh.d [x5.o] := q5
    have m1 : binD .mul [x5.o] (.tup [sh.d]) (.int 400) = some (rowD (List.replicate 400 sh)) := by
      have e : binD .mul [x5.o] (.tup [sh.d]) (.int 400) = gd ([sh.d] ≠ [] ∧ (2 : Int) ≤ 400 ∧ (400 : Int) ≤ 1000 ∧ [sh.d].length ≤ 1000) (.tup (List.replicate (400 : Int).toNat [sh.d]).flatten) := rfl
      rw [e, gd_pos ⟨by simp, by omega, by omega, by simp⟩, show (400 : Int).toNat = 400 from rfl, rep_one]; rfl
    have m2 : binD .mul [x5.o] (.tup [.tup [.int 0, .int 3, .int 11], .tup []]) (.int 200) = some (lotsD ((List.replicate 200 [[0, 3, 11], []]).flatten)) := by
      have e : binD .mul [x5.o] (.tup [.tup [.int 0, .int 3, .int 11], .tup []]) (.int 200) = gd ([D.tup [.int 0, .int 3, .int 11], .tup []] ≠ [] ∧ (2 : Int) ≤ 200 ∧ (200 : Int) ≤ 1000 ∧ [D.tup [.int 0, .int 3, .int 11], .tup []].length ≤ 1000) (.tup (List.replicate (200 : Int).toNat [lotD [0, 3, 11], lotD []]).flatten) := rfl
      rw [e, gd_pos ⟨by simp, by omega, by omega, by simp⟩, show (200 : Int).toNat = 200 from rfl, rep_two]; rfl
    refine ⟨x5, N, M, List.replicate 400 sh, (List.replicate 200 [[0, 3, 11], []]).flatten, ok5, by omega, by omega, by omega, by omega, fun s hs => ?_, by simp, fun l hl => ?_, ?_, ?_⟩
    · rw [List.eq_of_mem_replicate hs]; exact hsh
    · obtain ⟨p, hp, hlp⟩ := List.mem_flatten.mp hl
      rw [List.eq_of_mem_replicate hp] at hlp
      simp at hlp
      rcases hlp with rfl | rfl
      · exact ⟨by decide, by decide, by decide⟩
      · exact ⟨by decide, by decide, by decide⟩
    · simp
    · simp [pA, pA2, pA3, pA4, lwSl, q1, iN, q2, iM, q3, q4, c0, q5, m1, m2]
  · refine ⟨x4, N, M, r, ls, ok4, by omega, by omega, by omega, by omega, hr, by omega, hls, by omega, ?_⟩
    have cc : ¬ (gr = true ∧ t = 0) := fun z => c ⟨z.1, by omega⟩
    cases gr with
    | false => simp [pA, pA2, pA3, pA4, lwSl, q1, iN, q2, iM, q3, q4]
    | true =>
      have t0 : ¬ (t = 0) := fun z => cc ⟨rfl, z⟩
      simp [pA, pA2, pA3, pA4, lwSl, q1, iN, q2, iM, q3, q4, t0]
def lawBody : Ss := .cons pA (.cons pA2 (.cons pA3 (.cons pA4 (.cons pB (.cons pB2 (.cons pC (.cons pC2 (.cons pD (.cons pD2 (.cons pD3 .nil))))))))))
theorem turn_ok (n : Nat) (x : Hd) (okx : x.Ok) (sc : D) (gr : Bool) (t : Nat) (a4 a5 a6 a7 a8 a9 a10 : Option D) : ∃ (x' : Hd) (b4 b5 b6 b7 b8 b9 b10 : Option D), x'.Ok ∧
    evSs tx.pg (run tx.pg tx.fns (n + 6)) lawBody (lwSl sc gr t [a4, a5, a6, a7, a8, a9, a10]) [x.o] = .nx (lwSl sc gr t [b4, b5, b6, b7, b8, b9, b10]) [x'.o] := by
  obtain ⟨x1, N, M, r, ls, ok1, h1, h2, h3, h4, h5, h6, h7, h8, q1⟩ := part_A n x okx sc gr t a4 a5 a6 a7 a8 a9 a10 (.cons pB (.cons pB2 (.cons pC (.cons pC2 (.cons pD (.cons pD2 (.cons pD3 .nil)))))))
  obtain ⟨x2, b9, b10, ok2, q2⟩ := part_D n x1 ok1 sc gr t (some (.int N)) (some (.int M)) (some (rowD r)) (some (lotsD ls)) (some (sD (feeds (ls.map lotL)))) a9 a10
  refine ⟨x2, some (.int N), some (.int M), some (rowD r), some (lotsD ls), some (sD (feeds (ls.map lotL))), b9, b10, ok2, ?_⟩
  unfold lawBody
  rw [q1, part_B n [x1.o] sc gr t N M r _ _ _ _ h5 h1 h2 h3 h4 h6, part_C n [x1.o] sc gr t ls _ _ _ _ _ _ h7 h8, q2]
theorem turns_ok (n : Nat) (sc : D) (gr : Bool) : ∀ (ts : List Nat) (x : Hd) (a3 a4 a5 a6 a7 a8 a9 a10 : Option D), x.Ok → ∃ (x' : Hd) (s' : Sl), forL [] (evTg tx.pg (run tx.pg tx.fns (n + 6)) (.tg (.n 3))) (evSs tx.pg (run tx.pg tx.fns (n + 6)) lawBody) (ts.map fun i : Nat => .int i) [some sc, some (.ref 0), some (.bl gr), a3, a4, a5, a6, a7, a8, a9, a10] [x.o] = .nx s' [x'.o]
  | [], x, _, _, _, _, _, _, _, _, _ => ⟨x, _, forL_nil gok_nil⟩
  | t :: ts, x, a3, a4, a5, a6, a7, a8, a9, a10, ok => by
    obtain ⟨x1, b4, b5, b6, b7, b8, b9, b10, ok1, q1⟩ := turn_ok n x ok sc gr t a4 a5 a6 a7 a8 a9 a10
    obtain ⟨x2, s', q2⟩ := turns_ok n sc gr ts x1 (some (.int t)) b4 b5 b6 b7 b8 b9 b10 ok1
    refine ⟨x2, s', ?_⟩
    rw [List.map_cons, forL_cons gok_nil]
    simp only [lwSl] at q1
    simp only [ap_Tg_tg, ap_bind_n, opt_some, List.set_cons_succ, List.set_cons_zero, q1]
    exact q2
theorem law_val (n : Nat) (ns : List Int) (hn : ns.length ≤ 63) : ∃ h', fin r_law.f.frz [] (evSs tx.pg (run tx.pg tx.fns (n + 6)) r_law.f.body (startD r_law.f.N [.frl (ns.map .int)]) []) = .ok (.bl true) h' := by
  obtain ⟨x, ok, q⟩ := v_hand (n + 5) ns hn
  have q : run tx.pg tx.fns (n + 6) 23 [.frl (ns.map .int)] [] = .ok (.ref 0) [x.o] := q
  obtain ⟨x1, r1, ok1, hr1, q1⟩ := v_draw (n + 5) x ok [] 40 (by omega) (by omega)
  have q1 : run tx.pg tx.fns (n + 6) 24 [.ref 0, .int 40] [x.o] = .ok (.int r1) [x1.o] := q1
  obtain ⟨x2, s', q2⟩ := turns_ok n (.frl (ns.map .int)) (decide ((r1 : Int) = 0)) [0, 1, 2] x1 none none none none none none none none ok1
  have rg : rngO1 [.int 3] = some ⟨[0, 1, 2].map fun i : Nat => .int i, []⟩ := rng1_nat (n := 3) (by omega)
  refine ⟨[x2.o], ?_⟩
  show fin false [] (evSs tx.pg (run tx.pg tx.fns (n + 6)) (.cons (.set 1 (.call 23 (.cons (.v 0) .nil))) (.cons (.set 2 (.tst (.cmp .eq (.call 24 (.cons (.v 1) (.cons (.c (.int 40)) .nil))) (.c (.int 0))))) (.cons (.for (.rng1 (.c (.int 3))) (.tg (.n 3)) lawBody) (.cons (.ret (.c (.bl true))) .nil)))) [some (.frl (ns.map .int)), none, none, none, none, none, none, none, none, none, none] []) = _
  simp only [ap_Ss_cons, ap_S_set, ap_E_call, ap_Es_cons, ap_Es_nil, ap_E_v0, ap_E_v1, R.bind_ok, q, R.thenS_ok, SR.andThen_nx, List.set_cons_succ, List.set_cons_zero, ap_E_tst, ap_T_cmp, ap_E_c, q1, cmp_eq, opt_some, ap_S_for, ap_I_rng1, rg, q2, ap_S_ret, SR.andThen_rt, fin_rt]
end TX
namespace TX
open PySem PySem.Spec L2 Ev
abbrev lvl : Nat := 100
theorem val : ∀ ns : List Int, ns.length ≤ 63 → ∃ h', fin r_law.f.frz [] (evSs tx.pg (run tx.pg tx.fns lvl) r_law.f.body (startD r_law.f.N [.frl (ns.map .int)]) []) = .ok (.bl true) h' := fun ns h => law_val 94 ns h
end TX
namespace TX
open PySem PySem.W PySem.Calls PyProof.Rows Ev
abbrev R : PySem.W.OpenRow := PySem.W.OpenLaw.row PySem.Challenge.rw_harmonicdues_k45_whole_texts_of_rows_lot
def names0 : List PySem.Str := [PySem.Str.ofString "is_integer", PySem.Str.ofString "is_within", PySem.Str.ofString "is_pair", PySem.Str.ofString "is_lot", PySem.Str.ofString "DuesError", PySem.Str.ofString "NoPeople", PySem.Str.ofString "NoThings", PySem.Str.ofString "NoRow", PySem.Str.ofString "BadText", PySem.Str.ofString "NoFraction", PySem.Str.ofString "NoLots", PySem.Str.ofString "divisor", PySem.Str.ofString "is_fraction", PySem.Str.ofString "MOST_PEOPLE", PySem.Str.ofString "MOST_BOTTOM", PySem.Str.ofString "MOST_BEATS", PySem.Str.ofString "check_people", PySem.Str.ofString "check_things", PySem.Str.ofString "are_shares", PySem.Str.ofString "first_wrong", PySem.Str.ofString "check_row", PySem.Str.ofString "FIGURES", PySem.Str.ofString "MOST_FIGURES", PySem.Str.ofString "NO_LOT", PySem.Str.ofString "number_in", PySem.Str.ofString "numbers_in", PySem.Str.ofString "numbers_text", PySem.Str.ofString "fraction_text", PySem.Str.ofString "row_text", PySem.Str.ofString "lines_in", PySem.Str.ofString "head_in", PySem.Str.ofString "shares_in", PySem.Str.ofString "read_row", PySem.Str.ofString "check_lots", PySem.Str.ofString "lots_text"]
def names1 : List PySem.Str := [PySem.Str.ofString "read_lots", PySem.Str.ofString "_law_hand", PySem.Str.ofString "_law_draw", PySem.Str.ofString "_law_any", PySem.Str.ofString "_law_lowest", PySem.Str.ofString "_law_fraction_told", PySem.Str.ofString "_law_row_told", PySem.Str.ofString "_law_lots_told", PySem.Str.ofString "_law_shares", PySem.Str.ofString "_law_row", PySem.Str.ofString "_law_lots"]
def names : List PySem.Str := names0 ++ names1
abbrev fa : List He.Fa := .glo "law" :: tx.need
abbrev fnl : List He.DefD := r_law.d :: tx.rows.map Ev.Row.d
abbrev hk : PySem.W.Hook := He.hookD 4 fa fnl
def ob (s : PySem.W.SharedT) : He.AlD := He.obsDG 4 fa fnl (HandSHeadRun.getT s)
theorem ob_eq (s : PySem.W.SharedT) : ob s = hk.obs s.abs := He.obsDG_eq (HandSHeadRun.getT_eq s)
theorem run (w : World) : HandSHeadRun.RunEq R (PySem.W.view R.prog [52]) hk ob 20000 names w := by
  intro os
  kernel_rfl
end TX
open PySem PySem.W PySem.Calls PyProof.Rows
theorem PySem.Challenge.cw_harmonicdues_k45_whole_texts_of_rows_lot_holds : PySem.Challenge.rw_harmonicdues_k45_whole_texts_of_rows_lot.Holds := by
  w_on; o_law
  refine HandSHeadRun.head_any (r := OpenLaw.row PySem.Challenge.rw_harmonicdues_k45_whole_texts_of_rows_lot) (q := view (OpenLaw.row PySem.Challenge.rw_harmonicdues_k45_whole_texts_of_rows_lot).prog [52]) (H := TX.hk) (ob := TX.ob) (M := 20000) (loose := TX.names) (d := HandSHeadRun.topDef (OpenLaw.row PySem.Challenge.rw_harmonicdues_k45_whole_texts_of_rows_lot).prog 52) (kwd := []) TX.ob_eq
    (by kernel_rfl) (fun s => by kernel_rfl) TX.run (by kernel_rfl) (by kernel_rfl) (by kernel_rfl) (by rfl) (by first | assumption | decide +kernel) (by decide +kernel) ⟨rfl, rfl, rfl, rfl, rfl, by decide +kernel⟩ ?hw ?hc
  case hw => w_witness2
  case hc =>
    refine Ev.walk_top (l := PySem.Challenge.rw_harmonicdues_k45_whole_texts_of_rows_lot) (n := 63) (CX := fun w => L2.CX (PySem.Challenge.rw_harmonicdues_k45_whole_texts_of_rows_lot).prog w) (x := "_law_script") rfl (by decide) (by kernel_rfl) ?F (fun w H s e s' h => by
      obtain ⟨_, _, _, _, _, _, _, _, _, _, _, _, z⟩ := h
      exact z.elim)
    intro w mg fa h Y G hmg0
    have hmg : mg ("law" : PySem.Str) = some (.ref fa) := by
      have e : (HandSHeadRun.topDef (OpenLaw.row PySem.Challenge.rw_harmonicdues_k45_whole_texts_of_rows_lot).prog 52).name = ("law" : PySem.Str) := by kernel_rfl
      rw [← e]
      exact hmg0
    exact Ev.law_end TX.tx TX.r_law (n := TX.lvl) rfl rfl TX.fits TX.ckAll TX.bdAll TX.bd_law TX.sc_law TX.ck_law ⟨rfl, by decide, by decide⟩ TX.val w mg fa h Y G hmg
