import PyProof.Rows.All
import Wide.All
import OpenK.AllK
import Wide.FinOn
import HandS.ForMost
import HandS.Deep
import HandS.Wide
import HandS.Walk
import HandS.Flow
import HandS.Style
import KE.LtData
import HandS.TupAny
import HandS.TupMul
import HandS.Zip
import HandS.IsInst
import KE.KRevSl
import HandS.Ends
import PySem.Challenge.RW_loopsclosed_k06_whole_sums_and_balances
set_option Elab.async false
set_option linter.all false
set_option maxRecDepth 100000
/-! Den1: values as data, how data stand in the abstract heap (by modes), and the judgement "this expression is denoted by that function". -/
namespace Dn
open PySem PySem.Spec PyProof.Rows L2

abbrev D := PyData
abbrev Env := List (Option D)

/-! ### how data stand -/
structure Rdr where
  L : Addr → List V → Prop
  T : Addr → List V → Prop
  C : Addr → List (V × Int × V) → Prop
  hk : D → Int

mutual
inductive Rep (r : Rdr) : D → V → Prop
  | non : Rep r .none .non
  | bl (b : Bool) : Rep r (.bool b) (.bl b)
  | int (i : Int) : Rep r (.int i) (.int i)
  | str (x : Str) : Rep r (.str x) (.str x)
  | lst {a : Addr} {vs : List V} {ds : List D} : r.L a vs → RepAll r ds vs → Rep r (.list ds) (.ref a)
  | tup {a : Addr} {vs : List V} {ds : List D} : r.T a vs → RepAll r ds vs → Rep r (.tuple ds) (.ref a)
  | dic {a : Addr} {xs : List (V × Int × V)} {kvs : List (D × D)} : r.C a xs → RepKv r kvs xs → Rep r (.dict kvs) (.ref a)
inductive RepAll (r : Rdr) : List D → List V → Prop
  | nil : RepAll r [] []
  | cons {d : D} {ds : List D} {v : V} {vs : List V} : Rep r d v → RepAll r ds vs → RepAll r (d :: ds) (v :: vs)
inductive RepKv (r : Rdr) : List (D × D) → List (V × Int × V) → Prop
  | nil : RepKv r [] []
  | cons {k d : D} {kvs : List (D × D)} {kv v : V} {xs : List (V × Int × V)} : Rep r k kv → Rep r d v → RepKv r kvs xs → RepKv r ((k, d) :: kvs) ((kv, r.hk k, v) :: xs)
end

structure Rdr.le (r r' : Rdr) : Prop where
  L : ∀ a vs, r.L a vs → r'.L a vs
  T : ∀ a vs, r.T a vs → r'.T a vs
  C : ∀ a xs, r.C a xs → r'.C a xs
  hk : r.hk = r'.hk

mutual
theorem Rep.mono {r r' : Rdr} (h : r.le r') : ∀ {d : D} {v : V}, Rep r d v → Rep r' d v
  | _, _, .non => .non
  | _, _, .bl b => .bl b
  | _, _, .int i => .int i
  | _, _, .str x => .str x
  | _, _, .lst a b => .lst (h.L _ _ a) (RepAll.mono h b)
  | _, _, .tup a b => .tup (h.T _ _ a) (RepAll.mono h b)
  | _, _, .dic a b => .dic (h.C _ _ a) (RepKv.mono h b)
theorem RepAll.mono {r r' : Rdr} (h : r.le r') : ∀ {ds : List D} {vs : List V}, RepAll r ds vs → RepAll r' ds vs
  | _, _, .nil => .nil
  | _, _, .cons a b => .cons (Rep.mono h a) (RepAll.mono h b)
theorem RepKv.mono {r r' : Rdr} (h : r.le r') : ∀ {kvs : List (D × D)} {xs : List (V × Int × V)}, RepKv r kvs xs → RepKv r' kvs xs
  | _, _, .nil => .nil
  | _, _, .cons a b c => by
    have e := h.hk
    rw [e]
    exact .cons (Rep.mono h a) (Rep.mono h b) (RepKv.mono h c)
end

theorem RepAll.length {r : Rdr} : ∀ {ds : List D} {vs : List V}, RepAll r ds vs → ds.length = vs.length
  | _, _, .nil => rfl
  | _, _, .cons _ b => congrArg (· + 1) (RepAll.length b)
theorem RepAll.get {r : Rdr} : ∀ {ds : List D} {vs : List V} {i : Nat} {d : D}, RepAll r ds vs → ds[i]? = some d → ∃ v, vs[i]? = some v ∧ Rep r d v
  | _, _, _, _, .nil, e => by simp at e
  | _, _, 0, _, .cons a b, e => by simp at e; subst e; exact ⟨_, rfl, a⟩
  | _, _, i + 1, d, .cons a b, e => by
    obtain ⟨v, h1, h2⟩ := RepAll.get (i := i) (d := d) b (by simpa using e)
    exact ⟨v, by simpa using h1, h2⟩
theorem RepAll.getV {r : Rdr} : ∀ {ds : List D} {vs : List V} {i : Nat} {v : V}, RepAll r ds vs → vs[i]? = some v → ∃ d, ds[i]? = some d ∧ Rep r d v
  | _, _, _, _, .nil, e => by simp at e
  | _, _, 0, _, .cons a b, e => by simp at e; subst e; exact ⟨_, rfl, a⟩
  | _, _, i + 1, v, .cons a b, e => by
    obtain ⟨d, h1, h2⟩ := RepAll.getV (i := i) (v := v) b (by simpa using e)
    exact ⟨d, by simpa using h1, h2⟩
theorem RepAll.append {r : Rdr} : ∀ {ds es : List D} {vs ws : List V}, RepAll r ds vs → RepAll r es ws → RepAll r (ds ++ es) (vs ++ ws)
  | _, _, _, _, .nil, h => h
  | _, _, _, _, .cons a b, h => .cons a (RepAll.append b h)
theorem RepAll.drop {r : Rdr} : ∀ {ds : List D} {vs : List V} (n : Nat), RepAll r ds vs → RepAll r (ds.drop n) (vs.drop n)
  | _, _, 0, h => h
  | _, _, _ + 1, .nil => .nil
  | _, _, n + 1, .cons _ b => RepAll.drop n b
theorem RepAll.take {r : Rdr} : ∀ {ds : List D} {vs : List V} (n : Nat), RepAll r ds vs → RepAll r (ds.take n) (vs.take n)
  | _, _, 0, _ => .nil
  | _, _, _ + 1, .nil => .nil
  | _, _, n + 1, .cons a b => .cons a (RepAll.take n b)
theorem RepAll.set {r : Rdr} {d : D} {v : V} (h : Rep r d v) : ∀ {ds : List D} {vs : List V} (i : Nat), RepAll r ds vs → RepAll r (ds.set i d) (vs.set i v)
  | _, _, _, .nil => .nil
  | _, _, 0, .cons _ b => .cons h b
  | _, _, i + 1, .cons a b => .cons a (RepAll.set h i b)
theorem RepAll.reverse {r : Rdr} : ∀ {ds : List D} {vs : List V}, RepAll r ds vs → RepAll r ds.reverse vs.reverse
  | _, _, .nil => .nil
  | _, _, .cons a b => by
    rw [List.reverse_cons, List.reverse_cons]
    exact RepAll.append (RepAll.reverse b) (.cons a .nil)
theorem RepAll.eraseIdx {r : Rdr} : ∀ {ds : List D} {vs : List V} (i : Nat), RepAll r ds vs → RepAll r (ds.eraseIdx i) (vs.eraseIdx i)
  | _, _, _, .nil => .nil
  | _, _, 0, .cons _ b => b
  | _, _, i + 1, .cons a b => .cons a (RepAll.eraseIdx i b)
theorem RepAll.one {r : Rdr} {d : D} {v : V} (h : Rep r d v) : RepAll r [d] [v] := .cons h .nil
theorem RepAll.rep {r : Rdr} {ds : List D} {vs : List V} (h : RepAll r ds vs) : ∀ k : Nat, RepAll r (List.replicate k ds).flatten (List.replicate k vs).flatten
  | 0 => .nil
  | k + 1 => by
    rw [List.replicate_succ, List.replicate_succ, List.flatten_cons, List.flatten_cons]
    exact RepAll.append h (RepAll.rep h k)

/-! ### readers over the abstract heap -/
/-- a dict by its entries: keys, hashes, values -/
def DicAt (a : Addr) (xs : List (V × Int × V)) (h : Heap) : Prop :=
  ∃ o es ep, h.get? a = some o ∧ o.ExactDict ∧ o.data = .dict es ep ∧ Paired (fun (x : V × Int × V) (e : DictEntry) => RelV x.1 e.key ∧ e.hash = x.2.1 ∧ RelV x.2.2 e.val) xs es.toList
def DicO (a : Addr) (xs : List (V × Int × V)) : HO := .ext (DicAt a xs)
/-- the world's hash of a datum as a key (set once the dicts are told) -/
def hk0 : D → Int := fun _ => 0
def LstF (K : PySem.W.Frag) (H : Hp) (a : Addr) (vs : List V) : Prop :=
  (∃ o, H a = some (.frz o (.lst vs))) ∨ ∃ (o : Obj) (its : Array Value) (n : Nat), K.lookup a = some o ∧ o.cls = .type "list" ∧ o.dict = none ∧ o.data = .seq its n ∧ its.size ≤ sizeLine ∧ Vals vs its.toList
theorem LstF.sq {K : PySem.W.Frag} {H : Hp} {a : Addr} {vs : List V} (h : LstF K H a vs) : SqL K H a vs := by
  rcases h with ⟨o, h⟩ | h
  · exact .inl (.inr ⟨o, h⟩)
  · exact .inr h
/-- frozen: nothing in it is ever written -/
def rdF (K : PySem.W.Frag) (H : Hp) : Rdr := ⟨LstF K H, SqT K H, fun a xs => ∃ o, H a = some (.frz o (DicO a xs)), hk0⟩
/-- to be read now -/
def rdL (K : PySem.W.Frag) (H : Hp) : Rdr := ⟨SqL K H, SqT K H, fun a xs => Rd H a (DicO a xs), hk0⟩
/-- to be read: what is frozen, or stands at an address of B, where nothing is written -/
def rdA (K : PySem.W.Frag) (H : Hp) (B : Addr → Prop) : Rdr := ⟨fun a vs => SqL K H a vs ∧ (B a ∨ LstF K H a vs), SqT K H, fun a xs => Rd H a (DicO a xs) ∧ (B a ∨ ∃ o, H a = some (.frz o (DicO a xs))), hk0⟩
theorem rdF_A {K : PySem.W.Frag} {H : Hp} {B : Addr → Prop} : (rdF K H).le (rdA K H B) := ⟨fun _ _ h => ⟨h.sq, .inr h⟩, fun _ _ h => h, fun _ _ h => ⟨.inr h, .inr h⟩, rfl⟩
theorem rdA_L {K : PySem.W.Frag} {H : Hp} {B : Addr → Prop} : (rdA K H B).le (rdL K H) := ⟨fun _ _ h => h.1, fun _ _ h => h, fun _ _ h => h.1, rfl⟩
theorem rdF_L {K : PySem.W.Frag} {H : Hp} : (rdF K H).le (rdL K H) := ⟨fun _ _ h => h.sq, fun _ _ h => h, fun _ _ h => .inr h, rfl⟩
theorem SqL.keep {K : PySem.W.Frag} {H H' : Hp} {a : Addr} {vs : List V} (h : SqL K H a vs) (k : ∀ u, H a = some u → H' a = some u) : SqL K H' a vs := by
  rcases h with (h | ⟨o, h⟩) | h
  · exact .inl (.inl (k _ h))
  · exact .inl (.inr ⟨o, k _ h⟩)
  · exact .inr h
theorem SqT.keep {K : PySem.W.Frag} {H H' : Hp} {a : Addr} {vs : List V} (h : SqT K H a vs) (k : ∀ u, H a = some u → ¬ Mut (some u) → H' a = some u) : SqT K H' a vs := by
  rcases h with (h | ⟨o, h⟩) | h
  · exact .inl (.inl (k _ h fun z => z))
  · exact .inl (.inr ⟨o, k _ h fun z => z⟩)
  · exact .inr h
theorem LstF.keep {K : PySem.W.Frag} {H H' : Hp} {a : Addr} {vs : List V} (h : LstF K H a vs) (k : ∀ u, H a = some u → ¬ Mut (some u) → H' a = some u) : LstF K H' a vs := by
  rcases h with ⟨o, h⟩ | h
  · exact .inl ⟨o, k _ h fun z => z⟩
  · exact .inr h
/-- what is frozen stays while all that is not to be written stays -/
theorem rdF_keep {K : PySem.W.Frag} {H H' : Hp} (k : ∀ a u, H a = some u → ¬ Mut (some u) → H' a = some u) : (rdF K H).le (rdF K H') :=
  ⟨fun a _ h => LstF.keep h (k a), fun a _ h => SqT.keep h (k a), fun a _ h => by
    obtain ⟨o, e⟩ := h
    exact ⟨o, k a _ e fun z => z⟩, rfl⟩
theorem rdL_keep {K : PySem.W.Frag} {H H' : Hp} (k : ∀ a u, H a = some u → H' a = some u) : (rdL K H).le (rdL K H') :=
  ⟨fun a _ h => SqL.keep h (k a), fun a _ h => SqT.keep h fun u e _ => k a u e, fun a _ h => by
    rcases h with h | ⟨o, h⟩
    · exact .inl (k _ _ h)
    · exact .inr ⟨o, k _ _ h⟩, rfl⟩
theorem rdA_keep {K : PySem.W.Frag} {H H' : Hp} {B : Addr → Prop} (k : ∀ a u, H a = some u → (B a ∨ ¬ Mut (some u)) → H' a = some u) : (rdA K H B).le (rdA K H' B) := by
  refine ⟨fun a vs h => ?_, fun a _ h => SqT.keep h fun u e z => k a u e (.inr z), fun a xs h => ?_, rfl⟩
  · obtain ⟨h1, h2⟩ := h
    rcases h2 with h2 | h2
    · rcases h1 with (h1 | ⟨o, h1⟩) | h1
      · exact ⟨.inl (.inl (k _ _ h1 (.inl h2))), .inl h2⟩
      · exact ⟨.inl (.inr ⟨o, k _ _ h1 (.inl h2)⟩), .inl h2⟩
      · exact ⟨.inr h1, .inr (.inr h1)⟩
    · have q := LstF.keep h2 fun u e z => k a u e (.inr z)
      exact ⟨q.sq, .inr q⟩
  · obtain ⟨h1, h2⟩ := h
    rcases h2 with h2 | ⟨o, h2⟩
    · rcases h1 with h1 | ⟨o, h1⟩
      · exact ⟨.inl (k _ _ h1 (.inl h2)), .inl h2⟩
      · exact ⟨.inr ⟨o, k _ _ h1 (.inl h2)⟩, .inl h2⟩
    · exact ⟨.inr ⟨o, k _ _ h2 (.inr fun z => z)⟩, .inr ⟨o, k _ _ h2 (.inr fun z => z)⟩⟩
end Dn
/-! Den2: modes, the frame as data (R), the judgement of expressions (DE), its rules for names, constants and operations. -/
namespace Dn
open PySem PySem.Spec PyProof.Rows L2

/-! ### modes -/
/-- how a value is held: len: to be read at once; sta: to be read, not kept; frz: for ever; own: its own node may be written; io a: the same, the object at a, never bound anew -/
inductive Md where
  | len | sta | frz | own | io (a : Addr)
abbrev MEnv := List (Option Md)

/-- a node of one's own at an address of p, what is in it frozen -/
def Own (K : PySem.W.Frag) (H : Hp) (d : D) (v : V) (p : Addr → Prop) : Prop :=
  match d with
  | .list ds => ∃ a vs, v = .ref a ∧ p a ∧ H a = some (.lst vs) ∧ RepAll (rdF K H) ds vs
  | .dict kvs => ∃ a xs, v = .ref a ∧ p a ∧ H a = some (DicO a xs) ∧ RepKv (rdF K H) kvs xs
  | d => Rep (rdF K H) d v
/-- a result; B: addresses at which nothing is written -/
def RRep (K : PySem.W.Frag) (H : Hp) (B : Addr → Prop) : Md → D → V → (Addr → Prop) → Prop
  | .len, d, v, _ => Rep (rdL K H) d v
  | .sta, d, v, _ => Rep (rdA K H B) d v
  | .frz, d, v, _ => Rep (rdF K H) d v
  | .own, d, v, p => Own K H d v p
  | .io a, d, v, p => Own K H d v p ∧ v = .ref a

/-- what a slot holds: never what is to be read at once alone -/
def SRep (K : PySem.W.Frag) (H : Hp) (B : Addr → Prop) : Md → D → V → (Addr → Prop) → Prop
  | .len, _, _, _ => False
  | .sta, d, v, _ => Rep (rdA K H B) d v
  | .frz, d, v, _ => Rep (rdF K H) d v
  | .own, d, v, p => Own K H d v p
  | .io a, d, v, p => Own K H d v p ∧ v = .ref a

abbrev Fp := Nat → Addr → Prop
def Fp.any (o : Fp) (a : Addr) : Prop := ∃ i, o i a
def noP : Addr → Prop := fun _ => False

/-- the frame's slots hold the data of δ, by the modes of M; o: the addresses that each slot may write; B: what stood ahead of the def and is not written -/
structure R (K : PySem.W.Frag) (B : Addr → Prop) (H : Hp) (σ : L2.St) (δ : Env) (M : MEnv) (o : Fp) : Prop where
  len : σ.length = δ.length
  dis : ∀ i j a, o i a → o j a → i = j
  cell : ∀ i a, o i a → ∃ u, H a = some u ∧ Mut (some u)
  sep : ∀ a, o.any a → ¬ B a
  dom : ∀ a, B a → ∃ u, H a = some u
  at_ : ∀ i m d, M[i]? = some (some m) → δ[i]? = some (some d) → ∃ v, σ[i]? = some (some v) ∧ SRep K H B m d v (o i)

/-- all is kept, but (w) what o may write; nothing goes -/
structure Kp (w : Bool) (o : Fp) (H H' : Hp) : Prop where
  keep : ∀ a u, H a = some u → (w = true → ¬ o.any a) → H' a = some u
  there : ∀ a, H' a = none → H a = none
/-- what is new -/
def Sub (o : Fp) (H : Hp) (o' : Fp) : Prop := ∀ a, o'.any a → o.any a ∨ H a = none
/-- all that stands, stands -/
def Ext (H H' : Hp) : Prop := ∀ a u, H a = some u → H' a = some u
theorem Ext.refl (H : Hp) : Ext H H := fun _ _ h => h
theorem Ext.trans {H H1 H2 : Hp} (a : Ext H H1) (b : Ext H1 H2) : Ext H H2 := fun x u h => b x u (a x u h)
theorem Ext.free {H H' : Hp} (e : Ext H H') {a : Addr} (h : H' a = none) : H a = none := by
  cases q : H a with
  | none => rfl
  | some u => rw [e a u q] at h; cases h
theorem Ext.new {H : Hp} {p : Addr} {u : HO} (h : H p = none) : Ext H (upd H p u) := fun a o e => by
  rw [upd_ne (ne_of_none e h)]
  exact e
theorem Kp.refl (w : Bool) (o : Fp) (H : Hp) : Kp w o H H := ⟨fun _ _ e _ => e, fun _ e => e⟩
theorem Kp.all {w : Bool} {o : Fp} {H H' : Hp} (k : Ext H H') : Kp w o H H' := ⟨fun a u e _ => k a u e, fun _ e => k.free e⟩
theorem Kp.ext {o : Fp} {H H' : Hp} (k : Kp false o H H') : Ext H H' := fun a u e => k.keep a u e fun z => nomatch z
theorem Kp.up {w w' : Bool} {o : Fp} {H H' : Hp} (k : Kp w o H H') (h : w = true → w' = true) : Kp w' o H H' := ⟨fun a u e n => k.keep a u e fun z => n (h z), k.there⟩
theorem Sub.refl (o : Fp) (H : Hp) : Sub o H o := fun _ h => .inl h
theorem Sub.trans {w : Bool} {o o1 o2 : Fp} {H H1 : Hp} (a : Sub o H o1) (k : Kp w o H H1) (b : Sub o1 H1 o2) : Sub o H o2 := fun x h => by
  rcases b x h with h | h
  · exact a x h
  · exact .inr (k.there x h)
theorem Kp.trans {w : Bool} {o o1 : Fp} {H H1 H2 : Hp} (a : Kp w o H H1) (s : Sub o H o1) (b : Kp w o1 H1 H2) : Kp w o H H2 := by
  refine ⟨fun x u e n => ?_, fun x h => a.there x (b.there x h)⟩
  refine b.keep x u (a.keep x u e n) fun z h => ?_
  rcases s x h with q | q
  · exact n z q
  · rw [e] at q
    cases q

section
variable {K : PySem.W.Frag} {H H' : Hp} {σ : L2.St} {δ : Env} {M : MEnv} {o : Fp} {d : D} {v : V} {p : Addr → Prop} {m : Md} {B : Addr → Prop}
/-- what may be written is not frozen -/
theorem R.kpF (r : R K B H σ δ M o) {w : Bool} (k : Kp w o H H') : ∀ a u, H a = some u → ¬ Mut (some u) → H' a = some u := fun a u e n => k.keep a u e fun _ ⟨i, h⟩ => by
  obtain ⟨u', e', mu⟩ := r.cell i a h
  rw [e] at e'
  cases e'
  exact n mu
theorem Own.keep (h : Own K H d v p) (k : ∀ a u, H a = some u → (p a ∨ ¬ Mut (some u)) → H' a = some u) : Own K H' d v p := by
  have kF : (rdF K H).le (rdF K H') := rdF_keep fun a u e n => k a u e (.inr n)
  cases d with
  | list ds =>
    obtain ⟨a, vs, e, q, hl, r⟩ := h
    exact ⟨a, vs, e, q, k _ _ hl (.inl q), RepAll.mono kF r⟩
  | dict kvs =>
    obtain ⟨a, xs, e, q, hl, r⟩ := h
    exact ⟨a, xs, e, q, k _ _ hl (.inl q), RepKv.mono kF r⟩
  | none => exact Rep.mono kF h
  | bool _ => exact Rep.mono kF h
  | int _ => exact Rep.mono kF h
  | str _ => exact Rep.mono kF h
  | tuple _ => exact Rep.mono kF h
theorem Own.lent (h : Own K H d v p) : Rep (rdL K H) d v := by
  cases d with
  | list ds =>
    obtain ⟨a, vs, rfl, q, hl, r⟩ := h
    exact .lst (.inl (.inl hl)) (RepAll.mono rdF_L r)
  | dict kvs =>
    obtain ⟨a, xs, rfl, q, hl, r⟩ := h
    exact .dic (.inl hl) (RepKv.mono rdF_L r)
  | none => exact Rep.mono rdF_L h
  | bool _ => exact Rep.mono rdF_L h
  | int _ => exact Rep.mono rdF_L h
  | str _ => exact Rep.mono rdF_L h
  | tuple _ => exact Rep.mono rdF_L h
theorem Own.sup {p' : Addr → Prop} (h : Own K H d v p) (hp : ∀ a, p a → p' a) : Own K H d v p' := by
  cases d with
  | list ds =>
    obtain ⟨a, vs, e, q, r⟩ := h
    exact ⟨a, vs, e, hp _ q, r⟩
  | dict kvs =>
    obtain ⟨a, xs, e, q, r⟩ := h
    exact ⟨a, xs, e, hp _ q, r⟩
  | none => exact h
  | bool _ => exact h
  | int _ => exact h
  | str _ => exact h
  | tuple _ => exact h
theorem Own.ofF (h : Rep (rdF K H) d v) (nl : ∀ ds, d ≠ .list ds) (nd : ∀ kvs, d ≠ .dict kvs) : Own K H d v p := by
  cases d with
  | list ds => exact absurd rfl (nl ds)
  | dict kvs => exact absurd rfl (nd kvs)
  | none => exact h
  | bool _ => exact h
  | int _ => exact h
  | str _ => exact h
  | tuple _ => exact h
theorem RRep.lent (h : RRep K H B m d v p) : Rep (rdL K H) d v := by
  cases m with
  | len => exact h
  | sta => exact Rep.mono rdA_L h
  | frz => exact Rep.mono rdF_L h
  | own => exact Own.lent h
  | io a => exact Own.lent h.1
def okS : Md → Bool | .len => false | _ => true
theorem SRep.of (h : RRep K H B m d v p) (hm : okS m = true) : SRep K H B m d v p := by
  cases m with
  | len => cases hm
  | _ => exact h
theorem SRep.rr (h : SRep K H B m d v p) : RRep K H B m d v p := by
  cases m with
  | len => exact h.elim
  | _ => exact h
/-- a temporary value is kept over an evaluation -/
def okm (m : Md) (w : Bool) : Bool := match m with | .len => !w | _ => true
theorem R.kpB (r : R K B H σ δ M o) {w : Bool} (k : Kp w o H H') : ∀ a u, H a = some u → (B a ∨ ¬ Mut (some u)) → H' a = some u := fun a u e n => by
  rcases n with n | n
  · exact k.keep a u e fun _ z => r.sep a z n
  · exact r.kpF k a u e n
theorem RRep.keep {w : Bool} (r : R K B H σ δ M o) (h : RRep K H B m d v p) (k : Kp w o H H') (hp : ∀ a, p a → ¬ o.any a) (ok : okm m w = true) : RRep K H' B m d v p := by
  have kF : ∀ a u, H a = some u → ¬ Mut (some u) → H' a = some u := r.kpF k
  cases m with
  | len =>
    have hw : w = false := by cases w <;> simp [okm] at ok; rfl
    subst hw
    exact Rep.mono (rdL_keep k.ext) h
  | sta => exact Rep.mono (rdA_keep (r.kpB k)) h
  | frz => exact Rep.mono (rdF_keep kF) h
  | own =>
    refine Own.keep h fun a u e n => ?_
    rcases n with n | n
    · exact k.keep a u e fun _ => hp a n
    · exact kF a u e n
  | io a =>
    refine ⟨Own.keep h.1 fun a u e n => ?_, h.2⟩
    rcases n with n | n
    · exact k.keep a u e fun _ => hp a n
    · exact kF a u e n
/-- all is kept: the frame holds the same -/
theorem R.keep (r : R K B H σ δ M o) (k : Ext H H') : R K B H' σ δ M o := by
  refine ⟨r.len, r.dis, fun i a h => ?_, r.sep, fun a h => ?_, fun i m d h1 h2 => ?_⟩
  · obtain ⟨u, e, mu⟩ := r.cell i a h
    exact ⟨u, k a u e, mu⟩
  · obtain ⟨u, e⟩ := r.dom a h
    exact ⟨u, k a u e⟩
  · obtain ⟨v, e, q⟩ := r.at_ i m d h1 h2
    refine ⟨v, e, ?_⟩
    cases m with
    | len => exact q.elim
    | sta => exact Rep.mono (rdA_keep fun a u e _ => k a u e) q
    | frz => exact Rep.mono (rdF_keep fun a u e _ => k a u e) q
    | own => exact Own.keep q fun a u e _ => k a u e
    | io b => exact ⟨Own.keep q.1 fun a u e _ => k a u e, q.2⟩
end

/-! ### expressions -/
abbrev CE := Env → Option (D × Env)
/-- the reading of an expression that is denoted by f: with modes M, result held by m; w: it may write -/
def TD (K : PySem.W.Frag) (B : Addr → Prop) (M : MEnv) (w : Bool) (f : CE) (m : Md) : TE := fun σ H Q => ∃ δ o d δ', R K B H σ δ M o ∧ f δ = some (d, δ') ∧
  ∀ v H' o' p, Kp w o H H' → R K B H' σ δ' M o' → Sub o H o' → RRep K H' B m d v p → (∀ a, p a → H a = none ∧ ¬ o'.any a) → (∀ a, p a → ∃ u, H' a = some u ∧ Mut (some u)) → Q v H'
abbrev DE (X : Cx) (B : Addr → Prop) (M : MEnv) (w : Bool) (e : Expr) (f : CE) (m : Md) : Prop := PE X e (TD X.K B M w f m)

theorem PE.mono {X : Cx} {e : Expr} {t t' : TE} (h : PE X e t) (i : ∀ σ H Q, t' σ H Q → t σ H Q) : PE X e t' := ⟨fun pins s σ H Q I q => h.run pins s σ H Q I (i σ H Q q)⟩
theorem PT.mono {X : Cx} {e : Expr} {t t' : TT} (h : PT X e t) (i : ∀ σ H Q, t' σ H Q → t σ H Q) : PT X e t' := ⟨fun pins s σ H Q I q => h.run pins s σ H Q I (i σ H Q q)⟩
theorem PA.mono {X : Cx} {e : List Expr} {t t' : TA} (h : PA X e t) (i : ∀ σ H Q, t' σ H Q → t σ H Q) : PA X e t' := ⟨fun ps pins s σ H Q I q => h.run ps pins s σ H Q I (i σ H Q q)⟩
theorem PS.mono {X : Cx} {e : Stmt} {t t' : TS} (h : PS X e t) (i : ∀ D σ H, t' D σ H → t D σ H) : PS X e t' := ⟨fun pins s σ H D I q => h.run pins s σ H D I (i D σ H q)⟩
theorem PSs.mono {X : Cx} {e : List Stmt} {t t' : TS} (h : PSs X e t) (i : ∀ D σ H, t' D σ H → t D σ H) : PSs X e t' := ⟨fun pins s σ H D I q => h.run pins s σ H D I (i D σ H q)⟩
theorem OpR.imp {X : Cx} {f : Value → Value → Sem Value} {r r' : R2} (h : OpR X f r) (i : ∀ x y H Q, r' x y H Q → r x y H Q) : OpR X f r' :=
  fun pins s σ H x y v u Q I rx ry q => h pins s σ H x y v u Q I rx ry (i x y H Q q)
theorem UnR.imp {X : Cx} {f : Value → Sem Value} {r r' : V → Hp → VK → Prop} (h : UnR X f r) (i : ∀ x H Q, r' x H Q → r x H Q) : UnR X f r' :=
  fun pins s σ H x v Q I rx q => h pins s σ H x v Q I rx (i x H Q q)
theorem CallR.imp {X : Cx} {f : Value} {r r' : List V → Hp → VK → Prop} (h : CallR X f r) (i : ∀ x H Q, r' x H Q → r x H Q) : CallR X f r' :=
  fun pins s σ H xs us Q I rx q => h pins s σ H xs us Q I rx (i xs H Q q)

/-- sizes: what stands is not longer than a list may be -/
def Sz (K : PySem.W.Frag) (H : Hp) : Prop := ∀ a vs, (SqL K H a vs ∨ SqT K H a vs) → vs.length ≤ sizeLine
theorem Sz.of {X : Cx} {pins : List (Addr × Obj)} {s : Shared} {σ : L2.St} {H : Hp} (I : Inv X pins σ H s) : Sz X.K H := fun a vs h => by
  rcases h with h | h
  · obtain ⟨_, _, _, z⟩ := I.list h
    exact z
  · obtain ⟨_, _, _, z⟩ := I.tuple h
    exact z
theorem PE.sz {X : Cx} {e : Expr} {t : TE} (h : PE X e t) : PE X e (fun σ H Q => t σ H fun v H' => Sz X.K H' → Q v H') :=
  ⟨fun pins s σ H Q I q => thn (h.run pins s σ H _ I q) fun u s' ⟨v, H', I', r, q'⟩ => ⟨v, H', I', r, q' (Sz.of I')⟩⟩

/-- an operation on data: what it asks of values, what it gives -/
def Res (K : PySem.W.Frag) (mo : Md) (r : D) (H : Hp) (Q : VK) : Prop := ∀ z H' p, Ext H H' → (∀ B, RRep K H' B mo r z p) → (∀ a, p a → H a = none) → (∀ a, p a → ∃ u, H' a = some u ∧ Mut (some u)) → Q z H'
def rD2 (K : PySem.W.Frag) (φ : D → D → Option D) (mo : Md) : R2 := fun x y H Q => ∃ d e r, Rep (rdL K H) d x ∧ Rep (rdL K H) e y ∧ φ d e = some r ∧ (Sz K H → Res K mo r H Q)
def rD1 (K : PySem.W.Frag) (φ : D → Option D) (mo : Md) : V → Hp → VK → Prop := fun x H Q => ∃ d r, Rep (rdL K H) d x ∧ φ d = some r ∧ (Sz K H → Res K mo r H Q)

def c2 (φ : D → D → Option D) (f g : CE) : CE := fun δ => (f δ).bind fun p => (g p.2).bind fun q => (φ p.1 q.1).bind fun r => some (r, q.2)
def c1 (φ : D → Option D) (f : CE) : CE := fun δ => (f δ).bind fun p => (φ p.1).bind fun r => some (r, p.2)
theorem c2_inv {φ : D → D → Option D} {f g : CE} {δ δ2 : Env} {r : D} (h : c2 φ f g δ = some (r, δ2)) : ∃ d e δ1, f δ = some (d, δ1) ∧ g δ1 = some (e, δ2) ∧ φ d e = some r := by
  unfold c2 at h
  obtain ⟨⟨d, δ1⟩, h1, h⟩ := Option.bind_eq_some_iff.mp h
  obtain ⟨⟨e, δ2'⟩, h2, h⟩ := Option.bind_eq_some_iff.mp h
  obtain ⟨r', h3, h⟩ := Option.bind_eq_some_iff.mp h
  cases h
  exact ⟨d, e, δ1, h1, h2, h3⟩
theorem c1_inv {φ : D → Option D} {f : CE} {δ δ2 : Env} {r : D} (h : c1 φ f δ = some (r, δ2)) : ∃ d, f δ = some (d, δ2) ∧ φ d = some r := by
  unfold c1 at h
  obtain ⟨⟨d, δ1⟩, h1, h⟩ := Option.bind_eq_some_iff.mp h
  obtain ⟨r', h3, h⟩ := Option.bind_eq_some_iff.mp h
  cases h
  exact ⟨d, h1, h3⟩

section
variable {X : Cx} {B : Addr → Prop} {M : MEnv} {wa wb : Bool} {a b : Expr} {f g : CE} {ma mb mo : Md} {pos : Pos}
/-- a fresh result is no slot's -/
theorem R.fresh {K : PySem.W.Frag} {H : Hp} {σ : L2.St} {δ : Env} {M : MEnv} {o : Fp} (r : R K B H σ δ M o) {a : Addr} (h : H a = none) : ¬ o.any a := fun ⟨i, q⟩ => by
  obtain ⟨u, e, _⟩ := r.cell i a q
  rw [h] at e
  cases e
/-- two operands, then an operation on data -/
theorem td_2 {φ : D → D → Option D} (K : PySem.W.Frag) (ok : okm ma wb = true) (σ : L2.St) (H : Hp) (Q : VK) (h : TD K B M (wa || wb) (c2 φ f g) mo σ H Q) :
    TD K B M wa f ma σ H fun x H1 => TD K B M wb g mb σ H1 fun y H2 => rD2 K φ mo x y H2 Q := by
  obtain ⟨δ, o, r, δ2, hR, hf, k⟩ := h
  obtain ⟨d, e, δ1, h1, h2, h3⟩ := c2_inv hf
  refine ⟨δ, o, d, δ1, hR, h1, fun v H1 o1 p1 k1 R1 s1 r1 f1 c1 => ⟨δ1, o1, e, δ2, R1, h2, fun w H2 o2 p2 k2 R2 s2 r2 f2 c2 => ?_⟩⟩
  refine ⟨d, e, r, (RRep.keep (σ := σ) (M := M) R1 r1 k2 (fun a q => (f1 a q).2) ok).lent, r2.lent, h3, fun _ z H3 p3 k3 r3 f3 c3 => ?_⟩
  have kk : Kp (wa || wb) o H H2 := (k1.up fun z => by rw [z]; rfl).trans s1 (k2.up fun z => by rw [z]; simp)
  have ss : Sub o H o2 := s1.trans k1 s2
  exact k z H3 o2 p3 (kk.trans ss (Kp.all k3)) (R2.keep k3) ss (r3 B) (fun a q => ⟨kk.there a (f3 a q), R2.fresh (f3 a q)⟩) c3
end
end Dn
/-! Den3: expressions: names, constants, conversions of modes, operators, comparisons, truth, conditional expressions. -/
namespace Dn
open PySem PySem.Spec PyProof.Rows L2

section
variable {X : Cx} {B : Addr → Prop} {M : MEnv} {w wa wb : Bool} {a b e : Expr} {f g : CE} {m ma mb mo : Md} {pos : Pos}

/-! ### constants, names -/
def cst (d : D) : CE := fun δ => some (d, δ)
def rd (i : Nat) : CE := fun δ => match δ[i]? with | some (some d) => some (d, δ) | _ => none
theorem rd_inv {i : Nat} {δ δ' : Env} {d : D} (h : rd i δ = some (d, δ')) : δ[i]? = some (some d) ∧ δ' = δ := by
  unfold rd at h
  split at h
  · rename_i d' e
    cases h
    exact ⟨e, rfl⟩
  · cases h
theorem td_cst {K : PySem.W.Frag} {d : D} {v : V} {σ : L2.St} {H : Hp} {Q : VK} (r : ∀ H, Rep (rdF K H) d v) (h : TD K B M false (cst d) .frz σ H Q) : tC v σ H Q := by
  obtain ⟨δ, o, d', δ', hR, hf, k⟩ := h
  cases hf
  exact k v H o noP (Kp.refl _ _ _) hR (Sub.refl _ _) (r H) (fun _ z => z.elim) (fun _ z => z.elim)
theorem de_int {i : Int} {j : Nat} : DE X B M false (.Constant (.int i) j pos) (cst (.int i)) .frz := PE.mono pe_int fun _ _ _ h => td_cst (fun _ => .int i) h
theorem de_str {x : Str} {j : Nat} : DE X B M false (.Constant (.str x) j pos) (cst (.str x)) .frz := PE.mono pe_str fun _ _ _ h => td_cst (fun _ => .str x) h
theorem de_bl {c : Bool} {j : Nat} : DE X B M false (.Constant (.bool c) j pos) (cst (.bool c)) .frz := PE.mono pe_bl fun _ _ _ h => td_cst (fun _ => .bl c) h
theorem de_non {j : Nat} : DE X B M false (.Constant .none j pos) (cst .none) .frz := PE.mono pe_non fun _ _ _ h => td_cst (fun _ => .non) h
/-- a module's constant -/
def Kon (K : PySem.W.Frag) (mg : Str → Option Value) (x : Str) (d : D) : Prop := ∃ u v, mg x = some u ∧ RelV v u ∧ ∀ H, Rep (rdF K H) d v
theorem de_glob {x : Str} {d : D} (hk : Kon X.K X.mg x d) (hg : Gl X x) (hd : (x == ("__debug__" : Str)) = false) : DE X B M false (.Name x pos) (cst d) .frz := by
  obtain ⟨u, v, hm, r, h⟩ := hk
  exact PE.mono (pe_glob hg hm r hd) fun _ _ _ q => td_cst h q
/-- the mode in which a slot is read -/
def rdM : Md → Md | .frz => .frz | .sta => .sta | _ => .len
theorem td_var {K : PySem.W.Frag} {i : Nat} {σ : L2.St} {H : Hp} {Q : VK} (hM : M[i]? = some (some m)) (h : TD K B M false (rd i) (rdM m) σ H Q) : tVar i σ H Q := by
  obtain ⟨δ, o, d, δ', hR, hf, k⟩ := h
  obtain ⟨hd, rfl⟩ := rd_inv hf
  obtain ⟨v, e, r⟩ := hR.at_ i m d hM hd
  refine ⟨v, e, k v H o noP (Kp.refl _ _ _) hR (Sub.refl _ _) ?_ (fun _ z => z.elim) (fun _ z => z.elim)⟩
  cases m with
  | len => exact r.elim
  | sta => exact r
  | frz => exact r
  | own => exact Own.lent r
  | io a => exact Own.lent r.1
theorem de_var {i : Nat} {x : Str} (hM : M[i]? = some (some m)) (h : PE X (.Name x pos) (tVar i)) : DE X B M false (.Name x pos) (rd i) (rdM m) := PE.mono h fun _ _ _ q => td_var hM q

/-! ### modes changed -/
theorem DE.lenOf (h : DE X B M w e f m) : DE X B M w e f .len := PE.mono h fun σ H Q q => by
  obtain ⟨δ, o, d, δ', hR, hf, k⟩ := q
  exact ⟨δ, o, d, δ', hR, hf, fun v H' o' p k1 R1 s1 r1 f1 c1 => k v H' o' p k1 R1 s1 r1.lent f1 c1⟩
theorem DE.up {w' : Bool} (h : DE X B M w e f m) (hw : w = true → w' = true) : DE X B M w' e f m := PE.mono h fun σ H Q q => by
  obtain ⟨δ, o, d, δ', hR, hf, k⟩ := q
  exact ⟨δ, o, d, δ', hR, hf, fun v H' o' p k1 R1 s1 r1 f1 c1 => k v H' o' p (k1.up hw) R1 s1 r1 f1 c1⟩
theorem DE.staOf (h : DE X B M w e f .frz) : DE X B M w e f .sta := PE.mono h fun σ H Q q => by
  obtain ⟨δ, o, d, δ', hR, hf, k⟩ := q
  exact ⟨δ, o, d, δ', hR, hf, fun v H' o' p k1 R1 s1 r1 f1 c1 => k v H' o' p k1 R1 s1 (Rep.mono rdF_A r1) f1 c1⟩
mutual
/-- data without lists and dicts in it -/
def immut : D → Bool
  | .list _ => false
  | .dict _ => false
  | .tuple ds => immutAll ds
  | .none => true
  | .bool _ => true
  | .int _ => true
  | .str _ => true
def immutAll : List D → Bool
  | [] => true
  | d :: ds => immut d && immutAll ds
end
mutual
theorem Rep.imm {r r' : Rdr} (ht : ∀ a vs, r.T a vs → r'.T a vs) : ∀ {d : D} {v : V}, Rep r d v → immut d = true → Rep r' d v
  | _, _, .non, _ => .non
  | _, _, .bl b, _ => .bl b
  | _, _, .int i, _ => .int i
  | _, _, .str x, _ => .str x
  | _, _, .lst _ _, h => by simp [immut] at h
  | _, _, .dic _ _, h => by simp [immut] at h
  | _, _, .tup a b, h => .tup (ht _ _ a) (RepAll.imm ht b (by simpa [immut] using h))
theorem RepAll.imm {r r' : Rdr} (ht : ∀ a vs, r.T a vs → r'.T a vs) : ∀ {ds : List D} {vs : List V}, RepAll r ds vs → immutAll ds = true → RepAll r' ds vs
  | _, _, .nil, _ => .nil
  | _, _, .cons a b, h => by
    simp only [immutAll, Bool.and_eq_true] at h
    exact .cons (Rep.imm ht a h.1) (RepAll.imm ht b h.2)
end
/-- what is read and has no list in it may be kept -/
def imm (f : CE) : CE := fun δ => (f δ).bind fun p => if immut p.1 = true then some p else none
theorem imm_inv {δ δ' : Env} {d : D} (h : imm f δ = some (d, δ')) : f δ = some (d, δ') ∧ immut d = true := by
  unfold imm at h
  obtain ⟨⟨d1, δ1⟩, h1, h⟩ := Option.bind_eq_some_iff.mp h
  split at h
  · rename_i hi
    cases h
    exact ⟨h1, hi⟩
  · cases h
theorem DE.immOf (h : DE X B M w e f m) : DE X B M w e (imm f) .frz := PE.mono h fun σ H Q q => by
  obtain ⟨δ, o, d, δ', hR, hf, k⟩ := q
  obtain ⟨hf, hi⟩ := imm_inv hf
  exact ⟨δ, o, d, δ', hR, hf, fun v H' o' p k1 R1 s1 r1 f1 c1 => k v H' o' noP k1 R1 s1 (Rep.imm (r := rdL X.K H') (r' := rdF X.K H') (fun _ _ z => z) r1.lent hi) (fun _ z => z.elim) (fun _ z => z.elim)⟩
/-- things of one's own locked -/
def Lk (H H' : Hp) : Prop := ∀ a u, H a = some u → H' a = some u ∨ (Mut (some u) ∧ ∃ od, H' a = some (.frz od u))
theorem Lk.refl (H : Hp) : Lk H H := fun _ _ e => .inl e
theorem Lk.sq {K : PySem.W.Frag} {H H' : Hp} (l : Lk H H') {a : Addr} {vs : List V} (h : SqL K H a vs) : SqL K H' a vs := by
  rcases h with (h | ⟨o, h⟩) | h
  · rcases l _ _ h with q | ⟨_, od, q⟩
    · exact .inl (.inl q)
    · exact .inl (.inr ⟨od, q⟩)
  · rcases l _ _ h with q | ⟨mu, _⟩
    · exact .inl (.inr ⟨o, q⟩)
    · exact mu.elim
  · exact .inr h
theorem Lk.rd {H H' : Hp} (l : Lk H H') {a : Addr} {xs : List (V × Int × V)} (h : Rd H a (DicO a xs)) : Rd H' a (DicO a xs) := by
  rcases h with h | ⟨o, h⟩
  · rcases l _ _ h with q | ⟨_, od, q⟩
    · exact .inl q
    · exact .inr ⟨od, q⟩
  · rcases l _ _ h with q | ⟨mu, _⟩
    · exact .inr ⟨o, q⟩
    · exact mu.elim
theorem Lk.fix {H H' : Hp} (l : Lk H H') : ∀ a u, H a = some u → ¬ Mut (some u) → H' a = some u := fun a u e n => by
  rcases l a u e with q | ⟨mu, _⟩
  · exact q
  · exact absurd mu n
theorem Lk.there {H H' : Hp} (l : Lk H H') (n : ∀ a, H' a = none → H a = none := by assumption) : ∀ a, H' a = none → H a = none := n
theorem rdF_lk {K : PySem.W.Frag} {H H' : Hp} (l : Lk H H') : (rdF K H).le (rdF K H') := rdF_keep l.fix
theorem rdL_lk {K : PySem.W.Frag} {H H' : Hp} (l : Lk H H') : (rdL K H).le (rdL K H') := ⟨fun _ _ h => l.sq h, fun _ _ h => SqT.keep h fun u e n => l.fix _ u e n, fun _ _ h => l.rd h, rfl⟩
theorem rdA_lk {K : PySem.W.Frag} {H H' : Hp} {B : Addr → Prop} (l : Lk H H') : (rdA K H B).le (rdA K H' B) := by
  refine ⟨fun a vs h => ⟨l.sq h.1, h.2.imp id fun q => LstF.keep q fun u e n => l.fix _ u e n⟩, fun _ _ h => SqT.keep h fun u e n => l.fix _ u e n, fun a xs h => ⟨l.rd h.1, h.2.imp id fun ⟨o, q⟩ => ⟨o, l.fix _ _ q fun z => z⟩⟩, rfl⟩
/-- the frame holds the same when things that no slot may write are locked -/
theorem R.lock {K : PySem.W.Frag} {H H' : Hp} {σ : L2.St} {δ : Env} {M : MEnv} {o : Fp} (r : R K B H σ δ M o) (l : Lk H H') (k : ∀ a u, H a = some u → o.any a → H' a = some u) : R K B H' σ δ M o := by
  refine ⟨r.len, r.dis, fun i a h => ?_, r.sep, fun a h => ?_, fun i m d h1 h2 => ?_⟩
  · obtain ⟨u, e, mu⟩ := r.cell i a h
    exact ⟨u, k a u e ⟨i, h⟩, mu⟩
  · obtain ⟨u, e⟩ := r.dom a h
    rcases l a u e with q | ⟨_, od, q⟩
    · exact ⟨u, q⟩
    · exact ⟨_, q⟩
  · obtain ⟨v, e, q⟩ := r.at_ i m d h1 h2
    have kk : ∀ a u, H a = some u → (o i a ∨ ¬ Mut (some u)) → H' a = some u := fun a u e n => by
      rcases n with n | n
      · exact k a u e ⟨i, n⟩
      · exact l.fix a u e n
    refine ⟨v, e, ?_⟩
    cases m with
    | len => exact q.elim
    | sta => exact Rep.mono (rdA_lk l) q
    | frz => exact Rep.mono (rdF_lk l) q
    | own => exact Own.keep q kk
    | io b => exact ⟨Own.keep q.1 kk, q.2⟩
/-- what is one's own becomes frozen for ever -/
theorem own_frz {pins : List (Addr × Obj)} {s : Shared} {σ : L2.St} {H : Hp} {d : D} {v : V} {p : Addr → Prop} (I : Inv X pins σ H s) (h : Own X.K H d v p) :
    ∃ H', Inv X pins σ H' s ∧ Rep (rdF X.K H') d v ∧ Lk H H' ∧ (∀ a u, H a = some u → ¬ p a → H' a = some u) ∧ (∀ a, H' a = none → H a = none) := by
  have stay : ∀ {a : Addr} {u : HO} {od : Obj}, H a = some u → Mut (some u) → p a → Lk H (upd H a (.frz od u)) ∧ (∀ b v, H b = some v → ¬ p b → upd H a (.frz od u) b = some v) ∧ (∀ b, upd H a (.frz od u) b = none → H b = none) := by
    intro a u od e mu q
    refine ⟨fun b v e' => ?_, fun b v e' n => ?_, fun b n => ?_⟩
    · by_cases hb : b = a
      · rw [hb] at e' ⊢
        rw [e] at e'; cases e'
        exact .inr ⟨mu, od, upd_same⟩
      · rw [upd_ne hb]; exact .inl e'
    · rw [upd_ne (fun z => n (by rw [z]; exact q))]; exact e'
    · by_cases hb : b = a
      · rw [hb, upd_same] at n; cases n
      · rw [upd_ne hb] at n; exact n
  cases d with
  | list ds =>
    obtain ⟨a, vs, rfl, q, hl, r⟩ := h
    obtain ⟨od, I1⟩ := I.lock hl trivial
    obtain ⟨s1, s2, s3⟩ := stay (od := od) hl trivial q
    exact ⟨_, I1, .lst (.inl ⟨od, upd_same⟩) (RepAll.mono (rdF_lk s1) r), s1, s2, s3⟩
  | dict kvs =>
    obtain ⟨a, xs, rfl, q, hl, r⟩ := h
    obtain ⟨od, I1⟩ := I.lock hl trivial
    obtain ⟨s1, s2, s3⟩ := stay (od := od) hl trivial q
    exact ⟨_, I1, .dic ⟨od, upd_same⟩ (RepKv.mono (rdF_lk s1) r), s1, s2, s3⟩
  | none => exact ⟨H, I, h, Lk.refl H, fun _ _ e _ => e, fun _ e => e⟩
  | bool _ => exact ⟨H, I, h, Lk.refl H, fun _ _ e _ => e, fun _ e => e⟩
  | int _ => exact ⟨H, I, h, Lk.refl H, fun _ _ e _ => e, fun _ e => e⟩
  | str _ => exact ⟨H, I, h, Lk.refl H, fun _ _ e _ => e, fun _ e => e⟩
  | tuple _ => exact ⟨H, I, h, Lk.refl H, fun _ _ e _ => e, fun _ e => e⟩
theorem DE.frzOf (h : DE X B M w e f .own) : DE X B M w e f .frz := by
  refine ⟨fun pins s σ H Q I q => ?_⟩
  obtain ⟨δ, o, d, δ', hR, hf, k⟩ := q
  refine thn (h.run pins s σ H (fun v H' => ∃ (o' : Fp) (p : Addr → Prop), Kp w o H H' ∧ R X.K B H' σ δ' M o' ∧ Sub o H o' ∧ Own X.K H' d v p ∧ (∀ a, p a → H a = none ∧ ¬ o'.any a)) I
    ⟨δ, o, d, δ', hR, hf, fun v H' o' p k1 R1 s1 r1 f1 c1 => ⟨o', p, k1, R1, s1, r1, f1⟩⟩) fun u s' ⟨v, H1, I1, rv, o', p, k1, R1, s1, r1, f1⟩ => ?_
  obtain ⟨H2, I2, r2, l2, k2, t2⟩ := own_frz I1 r1
  refine ⟨v, H2, I2, rv, k v H2 o' noP ⟨fun a u e n => k2 a u (k1.keep a u e n) fun z => ?_, fun a n => k1.there a (t2 a n)⟩ (R1.lock l2 fun a u e n => k2 a u e fun z => (f1 a z).2 n) s1 r2 (fun _ z => z.elim) (fun _ z => z.elim)⟩
  rw [(f1 a z).1] at e
  cases e

/-! ### data read by the library -/
mutual
theorem Rep.dp {K : PySem.W.Frag} {H : Hp} : ∀ {d : D} {v : V}, Rep (rdL K H) d v → d.canLay0 = true → Dp K H v d
  | _, _, .non, _ => .non
  | _, _, .bl b, _ => .bl b
  | _, _, .int i, _ => .int i
  | _, _, .str x, _ => .str x
  | _, _, .lst a b, h => .lst a (RepAll.dp b (by simpa [PyData.canLay0] using h))
  | _, _, .tup a b, h => .tup a (RepAll.dp b (by simpa [PyData.canLay0] using h))
  | _, _, .dic _ _, h => by simp [PyData.canLay0] at h
theorem RepAll.dp {K : PySem.W.Frag} {H : Hp} : ∀ {ds : List D} {vs : List V}, RepAll (rdL K H) ds vs → PyData.canLayAll0 ds = true → DpAll K H vs ds
  | _, _, .nil, _ => .nil
  | _, _, .cons a b, h => by
    simp only [PyData.canLayAll0, Bool.and_eq_true] at h
    exact .cons (Rep.dp a h.1) (RepAll.dp b h.2)
end

/-! ### operations -/
theorem Res.val {K : PySem.W.Frag} {r : D} {H : Hp} {Q : VK} {v : V} (h : Res K .frz r H Q) (hv : Rep (rdF K H) r v) : Q v H := h v H noP (Ext.refl H) (fun _ => hv) (fun _ z => z.elim) fun _ z => z.elim
theorem de_op {op : Operator} {φ : D → D → Option D} (ok : okm ma wb = true) (ho : OpR X (binaryOp op) (rD2 X.K φ mo)) (ha : DE X B M wa a f ma) (hb : DE X B M wb b g mb) : DE X B M (wa || wb) (.BinOp a op b pos) (c2 φ f g) mo :=
  PE.mono (pe_op ho ha hb) fun σ H Q h => td_2 X.K ok σ H Q h
theorem de_cmp {op : CmpOp} {φ : D → D → Option D} (ok : okm ma wb = true) (ho : OpR X (compareOp op) (rD2 X.K φ mo)) (ha : DE X B M wa a f ma) (hb : DE X B M wb b g mb) (hk : behindInMarks op b = false) : DE X B M (wa || wb) (.Compare a [op] [b] pos) (c2 φ f g) mo :=
  PE.mono (pe_cmpR ho ha hb hk) fun σ H Q h => td_2 X.K ok σ H Q h
/-- one operand, then an operation on data -/
theorem td_1 {φ : D → Option D} (K : PySem.W.Frag) (σ : L2.St) (H : Hp) (Q : VK) (h : TD K B M wa (c1 φ f) mo σ H Q) :
    TD K B M wa f ma σ H fun x H1 => rD1 K φ mo x H1 Q := by
  obtain ⟨δ, o, r, δ1, hR, hf, k⟩ := h
  obtain ⟨d, h1, h3⟩ := c1_inv hf
  exact ⟨δ, o, d, δ1, hR, h1, fun v H1 o1 p1 k1 R1 s1 r1 f1 c1 => ⟨d, r, r1.lent, h3, fun _ z H3 p3 k3 r3 f3 c3 =>
    k z H3 o1 p3 (k1.trans s1 (Kp.all k3)) (R1.keep k3) s1 (r3 B) (fun a q => ⟨k1.there a (f3 a q), R1.fresh (f3 a q)⟩) c3⟩⟩
theorem de_un {op : UnaryOp} {φ : D → Option D} (ho : UnR X (unaryOp op) (rD1 X.K φ mo)) (ha : DE X B M wa a f ma) : DE X B M wa (.UnaryOp op a pos) (c1 φ f) mo :=
  PE.mono (pe_un ho ha) fun σ H Q h => td_1 X.K σ H Q h
end

/-! ### the operations one by one -/
def dI (C : Int → Int → Bool) (g : Int → Int → D) : D → D → Option D
  | .int i, .int j => if C i j = true then some (g i j) else none
  | _, _ => none
section
variable {X : Cx}
theorem rI_of {K : PySem.W.Frag} {C : Int → Int → Bool} {C' : Int → Int → Prop} {g : Int → Int → D} {g' : Int → Int → V} (hC : ∀ i j, C i j = true → C' i j) (hg : ∀ i j H, Rep (rdF K H) (g i j) (g' i j)) :
    ∀ x y H Q, rD2 K (dI C g) .frz x y H Q → Sz K H → rI C' g' x y H Q := by
  rintro x y H Q ⟨d, e, r, hd, he, hr, k⟩ sz
  cases hd <;> try (simp [dI] at hr; done)
  cases he <;> try (simp [dI] at hr; done)
  rename_i i j
  simp only [dI] at hr
  split at hr
  · rename_i hc
    cases hr
    exact ⟨i, j, rfl, rfl, hC i j hc, (k sz).val (hg i j H)⟩
  · cases hr
end
end Dn
/-! Den4: the operations on data, one by one. -/
namespace Dn
open PySem PySem.Spec PyProof.Rows L2

theorem OpR.impS {X : Cx} {f : Value → Value → Sem Value} {r r' : R2} (h : OpR X f r) (i : ∀ x y H Q, r' x y H Q → Sz X.K H → r x y H Q) : OpR X f r' :=
  fun pins s σ H x y v u Q I rx ry q => h pins s σ H x y v u Q I rx ry (i x y H Q q (Sz.of I))
theorem UnR.impS {X : Cx} {f : Value → Sem Value} {r r' : V → Hp → VK → Prop} (h : UnR X f r) (i : ∀ x H Q, r' x H Q → Sz X.K H → r x H Q) : UnR X f r' :=
  fun pins s σ H x v Q I rx q => h pins s σ H x v Q I rx (i x H Q q (Sz.of I))
theorem CallR.impS {X : Cx} {f : Value} {r r' : List V → Hp → VK → Prop} (h : CallR X f r) (i : ∀ x H Q, r' x H Q → Sz X.K H → r x H Q) : CallR X f r' :=
  fun pins s σ H xs us Q I rx q => h pins s σ H xs us Q I rx (i xs H Q q (Sz.of I))

/-! ### results -/
section
variable {K : PySem.W.Frag} {H : Hp} {Q : VK} {d : D} {v : V} {r : D}
theorem Res.own {v : V} (h : Res K .own r H Q) (hv : Rep (rdF K H) r v) (nl : ∀ ds, r ≠ .list ds) (nd : ∀ kvs, r ≠ .dict kvs) : Q v H :=
  h v H noP (Ext.refl H) (fun _ => Own.ofF hv nl nd) (fun _ z => z.elim) fun _ z => z.elim
/-- a new list -/
theorem Res.lst {ds : List D} {vs : List V} {p : Addr} (h : Res K .own (.list ds) H Q) (hp : H p = none) (hv : RepAll (rdF K H) ds vs) : Q (.ref p) (upd H p (.lst vs)) :=
  h (.ref p) _ (fun a => a = p) (Ext.new hp) (fun _ => ⟨p, vs, rfl, rfl, upd_same, RepAll.mono (rdF_keep fun a u e _ => Ext.new hp a u e) hv⟩) (fun a e => e ▸ hp) fun a e => ⟨.lst vs, by rw [e]; exact upd_same, trivial⟩
/-- a new tuple -/
theorem Rep.tupNew {ds : List D} {vs : List V} {p : Addr} (hp : H p = none) (hv : RepAll (rdF K H) ds vs) : Rep (rdF K (upd H p (.tup vs))) (.tuple ds) (.ref p) :=
  .tup (.inl (.inl upd_same)) (RepAll.mono (rdF_keep fun a u e _ => Ext.new hp a u e) hv)
theorem Res.tup {ds : List D} {vs : List V} {p : Addr} (h : Res K .own (.tuple ds) H Q) (hp : H p = none) (hv : RepAll (rdF K H) ds vs) : Q (.ref p) (upd H p (.tup vs)) :=
  h (.ref p) _ noP (Ext.new hp) (fun _ => Rep.tupNew hp hv) (fun _ z => z.elim) fun _ z => z.elim
theorem Res.tupF {ds : List D} {vs : List V} {p : Addr} (h : Res K .frz (.tuple ds) H Q) (hp : H p = none) (hv : RepAll (rdF K H) ds vs) : Q (.ref p) (upd H p (.tup vs)) :=
  h (.ref p) _ noP (Ext.new hp) (fun _ => Rep.tupNew hp hv) (fun _ z => z.elim) fun _ z => z.elim
theorem imm_F {d : D} {v : V} (h : Rep (rdL K H) d v) (hi : immut d = true) : Rep (rdF K H) d v := Rep.imm (r := rdL K H) (r' := rdF K H) (fun _ _ z => z) h hi
theorem immAll_F {ds : List D} {vs : List V} (h : RepAll (rdL K H) ds vs) (hi : immutAll ds = true) : RepAll (rdF K H) ds vs := RepAll.imm (r := rdL K H) (r' := rdF K H) (fun _ _ z => z) h hi
end
theorem flatten_len {α : Type} (xs : List α) (k : Nat) : (List.replicate k xs).flatten.length = k * xs.length := by
  induction k with
  | zero => simp
  | succ k ih => rw [List.replicate_succ, List.flatten_cons, List.length_append, ih, Nat.succ_mul]; omega

/-! ### ints alone -/
def intC : Int → Int → Bool := fun _ _ => true
def mulC (i j : Int) : Bool := decide (i.natAbs < 2 ^ 64) || decide (j.natAbs < 2 ^ 64)
def divC (_ j : Int) : Bool := decide (j ≠ 0) && decide (j.natAbs < 2 ^ 9000)
def modC (_ j : Int) : Bool := decide (j ≠ 0)
def powC (i j : Int) : Bool := decide (0 ≤ j) && decide (j ≤ 1000000) && decide (i.natAbs < 2 ^ 64)
def subD : D → D → Option D := dI intC fun i j => .int (i - j)
def fdivD : D → D → Option D := dI divC fun i j => .int (i.fdiv j)
def modD : D → D → Option D := dI modC fun i j => .int (i.fmod j)
def powD : D → D → Option D := dI powC fun i j => .int (i ^ j.toNat)
def shlD : D → D → Option D := dI powC fun i j => .int (i * 2 ^ j.toNat)
section
variable {X : Cx}
theorem o_sub : OpR X (binaryOp .Sub) (rD2 X.K subD .frz) := OpR.impS (r := rI (fun _ _ => True) fun i j => .int (i - j)) (L2.opI fun _ _ _ _ _ _ _ _ q => sub_int q) fun x y H Q h sz => rI_of (fun _ _ _ => trivial) (fun _ _ _ => .int _) x y H Q h sz
theorem o_fdiv : OpR X (binaryOp .FloorDiv) (rD2 X.K fdivD .frz) :=
  OpR.impS (r := rI (fun i j => divC i j = true) fun i j => .int (i.fdiv j)) (L2.opI fun i j _ _ _ _ _ hc q => by
    simp only [divC, Bool.and_eq_true, decide_eq_true_eq] at hc
    exact floordiv_int hc.1 q (.inl (PyProof.noPylong_of_log2 (Nat.lt_of_lt_of_le (PySem.Flt.log2_lt_of (by decide) hc.2) (Nat.le_refl _)))))
  fun x y H Q h sz => rI_of (fun _ _ z => z) (fun _ _ _ => .int _) x y H Q h sz
theorem o_mod : OpR X (binaryOp .Mod) (rD2 X.K modD .frz) := OpR.impS op_modN fun x y H Q h sz => rI_of (fun i j z => by simpa [modC] using z) (fun _ _ _ => .int _) x y H Q h sz
theorem o_pow : OpR X (binaryOp .Pow) (rD2 X.K powD .frz) := OpR.impS op_pow fun x y H Q h sz => rI_of (fun i j z => by simpa [powC, CPow, and_assoc] using z) (fun _ _ _ => .int _) x y H Q h sz
theorem o_shl : OpR X (binaryOp .LShift) (rD2 X.K shlD .frz) := OpR.impS op_shl fun x y H Q h sz => rI_of (fun i j z => by simpa [powC, CPow, and_assoc] using z) (fun _ _ _ => .int _) x y H Q h sz
end
def negD : D → Option D
  | .int i => some (.int (-i))
  | _ => none
theorem o_neg {X : Cx} : UnR X (unaryOp .USub) (rD1 X.K negD .frz) := UnR.impS un_neg fun x H Q h sz => by
  obtain ⟨d, r, hd, hr, k⟩ := h
  cases hd <;> simp [negD] at hr
  subst hr
  exact ⟨_, rfl, (k sz).val (.int _)⟩

/-! ### + -/
def addD : D → D → Option D
  | .int i, .int j => some (.int (i + j))
  | .str x, .str y => if x.length + y.length ≤ sizeLine then some (.str (x ++ y)) else none
  | .list xs, .list ys => if (immutAll xs && immutAll ys) = true ∧ xs.length + ys.length ≤ sizeLine then some (.list (xs ++ ys)) else none
  | .tuple xs, .tuple ys => if (immutAll xs && immutAll ys) = true ∧ xs.length + ys.length ≤ sizeLine then some (.tuple (xs ++ ys)) else none
  | _, _ => none
def rCatL (K : PySem.W.Frag) : R2 := fun x y H Q => ∃ l b xs zs, x = .ref l ∧ y = .ref b ∧ SqL K H l xs ∧ SqL K H b zs ∧ xs.length + zs.length ≤ sizeLine ∧ ∀ p, H p = none → Q (.ref p) (upd H p (.lst (xs ++ zs)))
section
variable {X : Cx}
theorem op_catL : OpR X (binaryOp .Add) (rCatL X.K) := by
  intro pins s σ H x y v u Q I rx ry h
  obtain ⟨l, b, xs, zs, rfl, rfl, hl, hb, hz, q⟩ := h
  cases rx
  cases ry
  obtain ⟨its, r, ⟨⟨c1, d1, da1, sl1⟩, n1, ho, hc, hdn, hd⟩, _⟩ := I.list hl
  obtain ⟨its2, r2, ⟨⟨c2, d2, da2, sl2⟩, n2, ho2, hc2, hdn2, hd2⟩, _⟩ := I.list hb
  simp only at hc hd hc2 hd2
  subst hc hd hc2 hd2
  refine concat_meets ⟨_, ho, rfl⟩ ⟨_, ho2, rfl⟩ noFill_list_add seq_list_add PySem.F.slot_list_add PySem.F.entry_list_add (PySem.F.args_list_add_2 _ _)
    (list_addW l b its.toArray its2.toArray n1 n2 d1 d2 sl1 sl2 (by rw [List.size_toArray, List.size_toArray, ← r.length, ← r2.length]; exact hz)) ⟨ho, ho2, ?_⟩
  have ea : its.toArray ++ its2.toArray = (its ++ its2).toArray := by simp
  rw [ea]
  exact ⟨.ref _, _, I.lnew (t' := s.toks) (r.append r2) (by rw [List.length_append]; omega), rfl, q _ I.fresh⟩
theorem o_add : OpR X (binaryOp .Add) (rD2 X.K addD .own) := by
  refine OpR.impS (OpR.or (OpR.or op_add op_add_str) (OpR.or op_catL op_catA)) fun x y H Q h sz => ?_
  obtain ⟨d, e, r, hd, he, hr, k⟩ := h
  have k := k sz
  cases hd with
  | int i =>
    cases he <;> simp [addD] at hr
    subst hr
    exact .inl (.inl ⟨_, _, rfl, rfl, k.own (.int _) (fun _ z => nomatch z) fun _ z => nomatch z⟩)
  | str a =>
    cases he <;> simp [addD] at hr
    obtain ⟨hz, rfl⟩ := hr
    exact .inl (.inr ⟨_, _, rfl, rfl, hz, k.own (.str _) (fun _ z => nomatch z) fun _ z => nomatch z⟩)
  | lst ha hb =>
    cases he <;> simp [addD] at hr
    rename_i ds' hc' hd'
    obtain ⟨⟨⟨i1, i2⟩, hz⟩, rfl⟩ := hr
    rename_i a1 vs1 ds1 a2 vs2 ds2
    refine .inr (.inl ⟨_, _, _, _, rfl, rfl, ha, hc', by rw [← hb.length, ← hd'.length]; exact hz, fun p hp => k.lst hp (RepAll.append (immAll_F hb i1) (immAll_F hd' i2))⟩)
  | tup ha hb =>
    cases he <;> simp [addD] at hr
    rename_i hc' hd'
    obtain ⟨⟨⟨i1, i2⟩, hz⟩, rfl⟩ := hr
    have f1 := immAll_F hb i1
    have f2 := immAll_F hd' i2
    refine .inr (.inr ⟨_, _, _, _, rfl, rfl, ha, hc', by rw [← hb.length, ← hd'.length]; exact hz, fun e1 => ?_, fun _ e2 => ?_, fun _ _ p hp => k.tup hp (RepAll.append f1 f2)⟩)
    · have hl := f1.length
      rw [e1] at hl
      rw [List.eq_nil_of_length_eq_zero hl, List.nil_append] at k
      exact k.own (.tup hc' f2) (fun _ z => nomatch z) fun _ z => nomatch z
    · have hl := f2.length
      rw [e2] at hl
      rw [List.eq_nil_of_length_eq_zero hl, List.append_nil] at k
      exact k.own (.tup ha f1) (fun _ z => nomatch z) fun _ z => nomatch z
  | non => cases he <;> simp [addD] at hr
  | bl b => cases he <;> simp [addD] at hr
  | dic _ _ => cases he <;> simp [addD] at hr
end

/-! ### comparisons -/
def eqD : D → D → Option D := fun d e => if SeqAt.shaped d = true ∧ SeqAt.shaped e = true then some (.bool (PyData.eqv d e)) else none
def neD : D → D → Option D := fun d e => if SeqAt.shaped d = true ∧ SeqAt.shaped e = true then some (.bool (!PyData.eqv d e)) else none
theorem shaped_lay {d : D} (h : SeqAt.shaped d = true) : d.canLay0 = true := (Bool.and_eq_true_iff.mp h).1
section
variable {X : Cx}
theorem o_eq (hu : X.A.units + 64 < cLine) : OpR X (compareOp .Eq) (rD2 X.K eqD .frz) := OpR.impS (op_eqD hu) fun x y H Q h sz => by
  obtain ⟨d, e, r, hd, he, hr, k⟩ := h
  unfold eqD at hr
  split at hr
  · rename_i hc
    cases hr
    exact ⟨d, e, hd.dp (shaped_lay hc.1), he.dp (shaped_lay hc.2), hc.1, hc.2, (k sz).val (.bl _)⟩
  · cases hr
theorem o_ne (hu : X.A.units + 64 < cLine) : OpR X (compareOp .NotEq) (rD2 X.K neD .frz) := OpR.impS (op_neD hu) fun x y H Q h sz => by
  obtain ⟨d, e, r, hd, he, hr, k⟩ := h
  unfold neD at hr
  split at hr
  · rename_i hc
    cases hr
    exact ⟨d, e, hd.dp (shaped_lay hc.1), he.dp (shaped_lay hc.2), hc.1, hc.2, (k sz).val (.bl _)⟩
  · cases hr
end
def cmpI (p : Int → Int → Bool) : D → D → Option D
  | .int i, .int j => some (.bool (p i j))
  | _, _ => none
def ordD (p : Int → Int → Bool) (q : List Nat → List Nat → Bool) : D → D → Option D
  | .int i, .int j => some (.bool (p i j))
  | .str x, .str y => some (.bool (q x.cps.toList y.cps.toList))
  | _, _ => none
/-- x < y, of sequences too -/
def ltD : D → D → Option D := fun d e => match ordD (fun i j => decide (i < j)) (fun x y => decide (x < y)) d e with
  | some r => some r
  | none => if (SeqAt.shaped d && SeqAt.shaped e && PySem.W.alike d e) = true ∧ d.depth ≠ 0 then some (.bool (PySem.W.dataLt d e)) else none
def leD : D → D → Option D := ordD (fun i j => decide (i ≤ j)) fun x y => !decide (y < x)
def gtD : D → D → Option D := ordD (fun i j => decide (j < i)) fun x y => decide (y < x)
def geD : D → D → Option D := ordD (fun i j => decide (j ≤ i)) fun x y => !decide (x < y)
section
variable {X : Cx}
theorem ord_of {K : PySem.W.Frag} {p : Int → Int → Bool} {q : List Nat → List Nat → Bool} {d e r : D} {x y : V} {H : Hp} {Q : VK} (hd : Rep (rdL K H) d x) (he : Rep (rdL K H) e y) (hr : ordD p q d e = some r) (k : Res K .frz r H Q) :
    (∃ i j, x = .int i ∧ y = .int j ∧ Q (.bl (p i j)) H) ∨ (∃ i j, x = .str i ∧ y = .str j ∧ Q (.bl (q i.cps.toList j.cps.toList)) H) := by
  cases hd <;> try (simp [ordD] at hr; done)
  · cases he <;> simp [ordD] at hr
    subst hr
    exact .inl ⟨_, _, rfl, rfl, k.val (.bl _)⟩
  · cases he <;> simp [ordD] at hr
    subst hr
    exact .inr ⟨_, _, rfl, rfl, k.val (.bl _)⟩
theorem o_le : OpR X (compareOp .LtE) (rD2 X.K leD .frz) := OpR.impS (OpR.or op_le op_le_str) fun x y H Q ⟨d, e, r, hd, he, hr, k⟩ sz => ord_of hd he hr (k sz)
theorem o_gt : OpR X (compareOp .Gt) (rD2 X.K gtD .frz) := OpR.impS (OpR.or op_gt op_gt_str) fun x y H Q ⟨d, e, r, hd, he, hr, k⟩ sz => ord_of hd he hr (k sz)
theorem o_ge : OpR X (compareOp .GtE) (rD2 X.K geD .frz) := OpR.impS (OpR.or op_ge op_ge_str) fun x y H Q ⟨d, e, r, hd, he, hr, k⟩ sz => ord_of hd he hr (k sz)
def rLtA (K : PySem.W.Frag) : R2 := fun x y H Q => ∃ d e, Dp K H x d ∧ Dp K H y e ∧ SeqAt.shaped d = true ∧ PySem.W.alike d e = true ∧ d ≠ .none ∧ Q (.bl (PySem.W.dataLt d e)) H
theorem op_ltA (hu : X.A.units + 64 < cLine) : OpR X (compareOp .Lt) (rLtA X.K) := by
  intro pins s σ H x y v u Q I rx ry h
  obtain ⟨d, e, hd, he, sd, al, nn, q⟩ := h
  obtain ⟨as, r1⟩ := Dp.reads I d x v hd rx
  obtain ⟨bs, r2⟩ := Dp.reads I e y u he ry
  have hdep : d.depth ≤ 64 := of_decide_eq_true (Bool.and_eq_true_iff.mp sd).2
  have hmin : min d.depth e.depth ≤ 64 := Nat.le_trans (Nat.min_le_left _ _) hdep
  exact PySem.W.rcLt_alike d e X.A s v u as bs r1 r2 al nn (by omega) X.prog X.w X.xe _ ⟨.bl _, H, I, rfl, q⟩
theorem o_lt (hu : X.A.units + 64 < cLine) : OpR X (compareOp .Lt) (rD2 X.K ltD .frz) := OpR.impS (OpR.or (OpR.or op_lt op_lt_str) (op_ltA hu)) fun x y H Q ⟨d, e, r, hd, he, hr, k⟩ sz => by
  unfold ltD at hr
  split at hr
  · rename_i r' h'
    cases hr
    exact .inl (ord_of hd he h' (k sz))
  · split at hr
    · rename_i hc
      cases hr
      simp only [Bool.and_eq_true] at hc
      exact .inr ⟨d, e, hd.dp (shaped_lay hc.1.1.1), he.dp (shaped_lay hc.1.1.2), hc.1.1.1, hc.1.2, fun z => hc.2 (by rw [z]; simp [PyData.depth]), (k sz).val (.bl _)⟩
    · cases hr
/-- is, with None, True, False on the right -/
def isD : D → D → Option D
  | d, .none => some (.bool (match d with | .none => true | _ => false))
  | d, .bool b => some (.bool (match d with | .bool c => c == b | _ => false))
  | _, _ => none
def isNotD : D → D → Option D
  | d, .none => some (.bool (match d with | .none => false | _ => true))
  | d, .bool b => some (.bool (match d with | .bool c => !(c == b) | _ => true))
  | _, _ => none
theorem rep_none {K : PySem.W.Frag} {H : Hp} {d : D} {x : V} (h : Rep (rdL K H) d x) : decide (x = .non) = (match d with | .none => true | _ => false) := by cases h <;> rfl
theorem plainIs_of {x : V} {v : Value} {b : Bool} (r : L2.RelV x v) : plainIs v (.bool b) = true := by
  cases x with
  | non => cases (show v = Value.none from r); rfl
  | bl c => cases (show v = Value.bool c from r); rfl
  | int i => obtain ⟨t, e⟩ := (show ∃ t, v = Value.int i t from r); subst e; rfl
  | str i => obtain ⟨t, e⟩ := (show ∃ t, v = Value.str i t from r); subst e; rfl
  | byt i => obtain ⟨t, e⟩ := (show ∃ t, v = Value.bytes i t from r); subst e; rfl
  | flt i => obtain ⟨t, e⟩ := (show ∃ t, v = Value.float i t from r); subst e; rfl
  | ref a => cases (show v = Value.ref a from r); rfl
  | ty a => cases (show v = Value.type a from r); rfl
def rIsV : R2 := fun x y H Q => ∃ b, y = .bl b ∧ Q (.bl (decide (x = .bl b))) H
def rIsNV : R2 := fun x y H Q => ∃ b, y = .bl b ∧ Q (.bl (!decide (x = .bl b))) H
theorem op_isV : OpR X (compareOp .Is) rIsV := by
  intro pins s σ H x y v u Q I rx ry h
  obtain ⟨b, rfl, q⟩ := h
  cases (show u = Value.bool b from ry)
  by_cases e : x = .bl b
  · subst e
    cases (show v = Value.bool b from rx)
    exact wpAny_is_self rfl ⟨.bl true, H, I, rfl, by simpa using q⟩
  · have ne : v ≠ Value.bool b := fun z => e (rx.inj (z ▸ (show L2.RelV (.bl b) (Value.bool b) from rfl)))
    rw [decide_eq_false e] at q
    exact wpAny_is_other (plainIs_of rx) ne ⟨.bl false, H, I, rfl, q⟩
theorem op_isNV : OpR X (compareOp .IsNot) rIsNV := by
  intro pins s σ H x y v u Q I rx ry h
  obtain ⟨b, rfl, q⟩ := h
  cases (show u = Value.bool b from ry)
  by_cases e : x = .bl b
  · subst e
    cases (show v = Value.bool b from rx)
    exact wpAny_isNot_self rfl ⟨.bl false, H, I, rfl, by simpa using q⟩
  · have ne : v ≠ Value.bool b := fun z => e (rx.inj (z ▸ (show L2.RelV (.bl b) (Value.bool b) from rfl)))
    rw [decide_eq_false e] at q
    exact wpAny_isNot_other (plainIs_of rx) ne ⟨.bl true, H, I, rfl, q⟩
theorem o_is : OpR X (compareOp .Is) (rD2 X.K isD .frz) := OpR.impS (OpR.or op_isN op_isV) fun x y H Q ⟨d, e, r, hd, he, hr, k⟩ sz => by
  have k := k sz
  cases he with
  | non =>
    simp only [isD, Option.some.injEq] at hr
    subst hr
    refine .inl ⟨rfl, ?_⟩
    have k := k.val (.bl _)
    cases hd <;> exact k
  | bl b =>
    simp only [isD, Option.some.injEq] at hr
    subst hr
    refine .inr ⟨b, rfl, ?_⟩
    have k := k.val (.bl _)
    cases hd with
    | bl c => rw [show decide (V.bl c = V.bl b) = (c == b) by cases c <;> cases b <;> rfl]; exact k
    | _ => exact k
  | _ => simp [isD] at hr
theorem o_isNot : OpR X (compareOp .IsNot) (rD2 X.K isNotD .frz) := OpR.impS (OpR.or op_notN op_isNV) fun x y H Q ⟨d, e, r, hd, he, hr, k⟩ sz => by
  have k := k sz
  cases he with
  | non =>
    simp only [isNotD, Option.some.injEq] at hr
    subst hr
    refine .inl ⟨rfl, ?_⟩
    have k := k.val (.bl _)
    cases hd <;> exact k
  | bl b =>
    simp only [isNotD, Option.some.injEq] at hr
    subst hr
    refine .inr ⟨b, rfl, ?_⟩
    have k := k.val (.bl _)
    cases hd with
    | bl c => rw [show decide (V.bl c = V.bl b) = (c == b) by cases c <;> cases b <;> rfl]; exact k
    | _ => exact k
  | _ => simp [isNotD] at hr
/-- in, of a sequence or a text -/
def inD : D → D → Option D
  | d, .list ds => if SeqAt.shaped d = true ∧ SeqAt.shaped (.list ds) = true then some (.bool (ds.any fun z => PyData.eqv z d)) else none
  | d, .tuple ds => if SeqAt.shaped d = true ∧ SeqAt.shaped (.list ds) = true then some (.bool (ds.any fun z => PyData.eqv z d)) else none
  | .str x, .str y => some (.bool (!(Builtin.Str.occurrences y x 0 y.length 1).isEmpty))
  | _, _ => none
def notInD : D → D → Option D
  | d, .list ds => if SeqAt.shaped d = true ∧ SeqAt.shaped (.list ds) = true then some (.bool (!ds.any fun z => PyData.eqv z d)) else none
  | d, .tuple ds => if SeqAt.shaped d = true ∧ SeqAt.shaped (.list ds) = true then some (.bool (!ds.any fun z => PyData.eqv z d)) else none
  | .str x, .str y => some (.bool (!(!(Builtin.Str.occurrences y x 0 y.length 1).isEmpty)))
  | _, _ => none
def rInT (K : PySem.W.Frag) : R2 := fun x y H Q => ∃ d ds, Dp K H x d ∧ Dp K H y (.tuple ds) ∧ SeqAt.shaped d = true ∧ SeqAt.shaped (.list ds) = true ∧ Q (.bl (ds.any fun z => PyData.eqv z d)) H
def rNotInT (K : PySem.W.Frag) : R2 := fun x y H Q => ∃ d ds, Dp K H x d ∧ Dp K H y (.tuple ds) ∧ SeqAt.shaped d = true ∧ SeqAt.shaped (.list ds) = true ∧ Q (.bl (!ds.any fun z => PyData.eqv z d)) H
theorem op_inT (hu : X.A.units + 65 < cLine) : OpR X (compareOp .In) (rInT X.K) := by
  intro pins s σ H x y v u Q I rx ry h
  obtain ⟨d, ds, hd, he, sd, se, q⟩ := h
  obtain ⟨as, r1⟩ := Dp.reads I d x v hd rx
  obtain ⟨bs, r2⟩ := Dp.reads I (.tuple ds) y u he ry
  exact SeqAt.in_tuple_reads r2 r1 (SeqAt.canLay_of_shaped se) (SeqAt.canLay_of_shaped sd) (room_in_shaped sd hu) ⟨.bl _, H, I, rfl, q⟩
theorem op_notInT (hu : X.A.units + 65 < cLine) : OpR X (compareOp .NotIn) (rNotInT X.K) := by
  intro pins s σ H x y v u Q I rx ry h
  obtain ⟨d, ds, hd, he, sd, se, q⟩ := h
  obtain ⟨as, r1⟩ := Dp.reads I d x v hd rx
  obtain ⟨bs, r2⟩ := Dp.reads I (.tuple ds) y u he ry
  exact SeqAt.notIn_tuple_reads r2 r1 (SeqAt.canLay_of_shaped se) (SeqAt.canLay_of_shaped sd) (room_in_shaped sd hu) ⟨.bl _, H, I, rfl, q⟩
theorem o_in (hu : X.A.units + 65 < cLine) : OpR X (compareOp .In) (rD2 X.K inD .frz) := OpR.impS (OpR.or (OpR.or (op_inD hu) (op_inT hu)) op_in_str) fun x y H Q ⟨d, e, r, hd, he, hr, k⟩ sz => by
  have k := k sz
  cases he with
  | lst ha hb =>
    simp only [inD] at hr
    split at hr
    · rename_i hc
      cases hr
      exact .inl (.inl ⟨d, _, hd.dp (shaped_lay hc.1), (Rep.lst ha hb).dp (shaped_lay hc.2), hc.1, hc.2, k.val (.bl _)⟩)
    · cases hr
  | tup ha hb =>
    simp only [inD] at hr
    split at hr
    · rename_i hc
      cases hr
      exact .inl (.inr ⟨d, _, hd.dp (shaped_lay hc.1), (Rep.tup ha hb).dp (by simpa [PyData.canLay0] using shaped_lay hc.2), hc.1, hc.2, k.val (.bl _)⟩)
    · cases hr
  | str y =>
    cases hd <;> simp [inD] at hr
    subst hr
    exact .inr ⟨_, _, rfl, rfl, by simpa using k.val (.bl _)⟩
  | _ => cases hd <;> simp [inD] at hr
theorem o_notIn (hu : X.A.units + 65 < cLine) : OpR X (compareOp .NotIn) (rD2 X.K notInD .frz) := OpR.impS (OpR.or (OpR.or (op_notInD hu) (op_notInT hu)) op_notin_str) fun x y H Q ⟨d, e, r, hd, he, hr, k⟩ sz => by
  have k := k sz
  cases he with
  | lst ha hb =>
    simp only [notInD] at hr
    split at hr
    · rename_i hc
      cases hr
      exact .inl (.inl ⟨d, _, hd.dp (shaped_lay hc.1), (Rep.lst ha hb).dp (shaped_lay hc.2), hc.1, hc.2, k.val (.bl _)⟩)
    · cases hr
  | tup ha hb =>
    simp only [notInD] at hr
    split at hr
    · rename_i hc
      cases hr
      exact .inl (.inr ⟨d, _, hd.dp (shaped_lay hc.1), (Rep.tup ha hb).dp (by simpa [PyData.canLay0] using shaped_lay hc.2), hc.1, hc.2, k.val (.bl _)⟩)
    · cases hr
  | str y =>
    cases hd <;> simp [notInD] at hr
    subst hr
    exact .inr ⟨_, _, rfl, rfl, by simpa using k.val (.bl _)⟩
  | _ => cases hd <;> simp [notInD] at hr
end
end Dn
/-! Den5: products of sequences. -/
namespace Dn
open PySem PySem.Spec PyProof.Rows L2

theorem int_rmul_seq (a : Int) (t : Tok) (l : Addr) (T : String) (items : Array Value) (n : Nat) (dd : Option Addr) (sl : Array (Option Value)) (hT : T = "list" ∨ T = "tuple") :
    Meets (Builtin.«int.__rmul__» ⟨[.int a t, .ref l], []⟩) (fun _ R s => s.heap.get? l = some { cls := .type T, dict := dd, data := .seq items n, slots := sl } ∧ R (.ok (.ret Value.notImplemented)) s) :=
  .of_wp fun prog w A R s h => by
    obtain ⟨hp, g, d, tk, os⟩ := s; obtain ⟨hl, h⟩ := h
    rcases hT with rfl | rfl
    · wp_walk using wpAny_loadPart' hl; exact ⟨_, rfl, h⟩
    · wp_walk using wpAny_loadPart' hl; exact ⟨_, rfl, h⟩
theorem list_mulW (l : Addr) (items : Array Value) (n : Nat) (dd : Option Addr) (sl : Array (Option Value)) (x : Int) (u : Tok) (hc0 : ¬(!Builtin.List.listFitsIndex x) = true) (hc1 : ¬items.size * x.toNat > (2 ^ 63 - 1) / 8) (hc2 : ¬Builtin.List.listTooLong (items.size * x.toNat) = true)
    (hsz : (List.foldl (fun x1 x2 => x1 ++ x2) #[] (List.replicate (if items.isEmpty = true then 0 else x.toNat) items)).size ≤ sizeLine) :
    Meets (Builtin.«list.__mul__» ⟨[.ref l, .int x u], []⟩) (fun _ R s => s.heap.get? l = some { cls := .type "list", dict := dd, data := .seq items n, slots := sl } ∧ R (.ok (.ret (Value.ref s.heap.objs.size))) { s with heap := s.heap.push { cls := Value.type "list", data := Data.seq (List.foldl (fun x1 x2 => x1 ++ x2) #[] (List.replicate (if items.isEmpty = true then 0 else x.toNat) items)) }, toks := s.toks }) :=
  .of_wp fun prog w A R s h => by
    obtain ⟨hp, g, d, tk, os⟩ := s; obtain ⟨hl, h⟩ := h
    have f1 := AutoSeq1.idx_int
    wp_walk using wpAny_loadPart' hl
    repeat (first
      | (refine wpAny_ite_false (decide_eq_false hc0) ?_; wp_walk using wpAny_loadPart' hl)
      | (refine wpAny_ite_false (decide_eq_false hc1) ?_; wp_walk using wpAny_loadPart' hl)
      | (refine wpAny_ite_false (decide_eq_false hc2) ?_; wp_walk using wpAny_loadPart' hl)
      | (refine wpAny_ite_false (decide_eq_false (Nat.not_lt.mpr hsz)) ?_; wp_walk using wpAny_loadPart' hl))
    exact ⟨_, rfl, h⟩
def rRepL (K : PySem.W.Frag) : R2 := fun x y H Q => ∃ l k xs, x = .ref l ∧ y = .int k ∧ SqL K H l xs ∧ -(2 ^ 63) ≤ k ∧ k < 2 ^ 63 ∧ xs.length * k.toNat ≤ sizeLine ∧
  ∀ p, H p = none → Q (.ref p) (upd H p (.lst (List.replicate k.toNat xs).flatten))
section
variable {X : Cx}
theorem op_repL : OpR X (binaryOp .Mult) (rRepL X.K) := by
  intro pins s σ H x y v u Q I rx ry h
  obtain ⟨l, k, xs, rfl, rfl, hT, h1, h2, hz, q⟩ := h
  cases rx
  obtain ⟨t, rfl⟩ := ry
  obtain ⟨its, r, ⟨⟨cls, dd, data, sl⟩, n, ho, hc, hdn, hd⟩, hs⟩ := I.list hT
  simp only at hc hd
  subst hc hd
  have hl := r.length
  have hlen : its.toArray.size * k.toNat ≤ sizeLine := by rw [List.size_toArray, ← hl]; exact hz
  have hsl : (sizeLine : Nat) ≤ (2 ^ 63 - 1) / 8 := by decide
  have hnew : List.foldl (fun x1 x2 => x1 ++ x2) #[] (List.replicate (if its.toArray.isEmpty = true then 0 else k.toNat) its.toArray) = (List.replicate k.toNat its).flatten.toArray := by
    rw [size_rep]
    cases its with
    | nil => simp
    | cons a r' => rw [if_neg (by simp)]
  refine wpAny_binaryOp_repeat_ref (T := "list") (U := "int") (by decide) ⟨_, ho, rfl⟩ (fun s' => typeIs_int s' k t) noFill_list_mul F.fills_int_mul F.slot_int_rmul repeat_list F.slot_int_index.lookup
    (call_meets F.slot_int_rmul (typeIs_int s k t) F.entry_int_rmul (F.args_int_rmul_2 _ _) (int_rmul_seq k t l "list" its.toArray n dd sl (.inl rfl))
      ⟨ho, rfl, ⟨_, ho, rfl⟩, call_meets F.slot_list_mul ⟨_, ho, rfl⟩ F.entry_list_mul (F.args_list_mul_2 _ _) (list_mulW l its.toArray n dd sl k t (by rw [fitsIndex_both h1 h2]; exact Bool.false_ne_true) (by omega) (by rw [notLongL hlen]; exact Bool.false_ne_true) (by
        rw [hnew, List.size_toArray, flatten_len, Nat.mul_comm]
        rw [List.size_toArray] at hlen
        exact hlen)) ⟨ho, ?_⟩⟩)
  rw [hnew]
  refine ⟨.ref _, _, I.lnew (t' := s.toks) (r.rep k.toNat) ?_, rfl, q _ I.fresh⟩
  rw [flatten_len, Nat.mul_comm]
  exact hz
end
theorem tuple_mulS (l : Addr) (items : Array Value) (n : Nat) (dd : Option Addr) (sl : Array (Option Value)) (x : Int) (u : Tok) (c0 : (decide (x < -(2 ^ 63)) || decide (x ≥ 2 ^ 63)) = false) (c1 : (items.isEmpty || x == 1) = true) :
    Meets (Builtin.«tuple.__mul__» ⟨[.ref l, .int x u], []⟩) (fun _ R s => s.heap.get? l = some { cls := .type "tuple", dict := dd, data := .seq items n, slots := sl } ∧ R (.ok (.ret (Value.ref l))) s) :=
  .of_wp fun prog w A R s h => by
    obtain ⟨hp, g, d, tk, os⟩ := s
    obtain ⟨hl, h⟩ := h
    have f1 := AutoSeq1.idx_int
    wp_walk using wpAny_loadPart' hl
    repeat (first
      | (refine wpAny_ite_false (decide_eq_false (by rw [c0]; exact Bool.false_ne_true)) ?_; wp_walk using wpAny_loadPart' hl)
      | (refine wpAny_ite_true (decide_eq_true c1) ?_; wp_walk using wpAny_loadPart' hl))
    exact ⟨_, rfl, h⟩
theorem tuple_mul0 (l : Addr) (items : Array Value) (n : Nat) (dd : Option Addr) (sl : Array (Option Value)) (x : Int) (u : Tok) (c0 : (decide (x < -(2 ^ 63)) || decide (x ≥ 2 ^ 63)) = false) (c1 : (items.isEmpty || x == 1) = false) (c2 : (decide (x ≤ 0) || items.isEmpty) = true) :
    Meets (Builtin.«tuple.__mul__» ⟨[.ref l, .int x u], []⟩) (fun _ R s => s.heap.get? l = some { cls := .type "tuple", dict := dd, data := .seq items n, slots := sl } ∧
      R (.ok (.ret (Value.ref s.heap.objs.size))) { s with heap := s.heap.push { cls := Value.type "tuple", data := Data.seq #[] }, toks := s.toks }) :=
  .of_wp fun prog w A R s h => by
    obtain ⟨hp, g, d, tk, os⟩ := s
    obtain ⟨hl, h⟩ := h
    have f1 := AutoSeq1.idx_int
    wp_walk using wpAny_loadPart' hl
    repeat (first
      | (refine wpAny_ite_false (decide_eq_false (by rw [c0]; exact Bool.false_ne_true)) ?_; wp_walk using wpAny_loadPart' hl)
      | (refine wpAny_ite_false (decide_eq_false (by rw [c1]; exact Bool.false_ne_true)) ?_; wp_walk using wpAny_loadPart' hl)
      | (refine wpAny_ite_true (decide_eq_true c2) ?_; wp_walk using wpAny_loadPart' hl))
    exact ⟨_, rfl, h⟩
def rRepTA (K : PySem.W.Frag) : R2 := fun x y H Q => ∃ l k xs, x = .ref l ∧ y = .int k ∧ SqT K H l xs ∧ -(2 ^ 63) ≤ k ∧ k < 2 ^ 63 ∧ xs.length * k.toNat ≤ sizeLine ∧
  ((xs = [] ∨ k = 1) → Q (.ref l) H) ∧ (¬ (xs = [] ∨ k = 1) → ∀ p, H p = none → Q (.ref p) (upd H p (.tup (List.replicate k.toNat xs).flatten)))
section
variable {X : Cx}
theorem op_repTA : OpR X (binaryOp .Mult) (rRepTA X.K) := by
  intro pins s σ H x y v u Q I rx ry h
  obtain ⟨l, k, xs, rfl, rfl, hT, h1, h2, hz, q1, q2⟩ := h
  cases rx
  obtain ⟨t, rfl⟩ := ry
  obtain ⟨its, r, ⟨⟨cls, dd, data, sl⟩, ho, hc, n, hd⟩, hs⟩ := I.tuple hT
  simp only at hc hd
  subst hc hd
  have hl := r.length
  have hnil : its = [] ↔ xs = [] := r.nil_iff
  have hie : its.toArray.isEmpty = decide (xs = []) := by
    by_cases e : xs = []
    · rw [decide_eq_true e, hnil.mpr e]; rfl
    · rw [decide_eq_false e]
      have e' : its ≠ [] := fun z => e (hnil.mp z)
      cases its with
      | nil => exact absurd rfl e'
      | cons a b => rfl
  have c0 : (decide (k < -(2 ^ 63)) || decide (k ≥ 2 ^ 63)) = false := by
    rw [decide_eq_false (by omega), decide_eq_false (by omega)] <;> rfl
  have go : ∀ {Q' : Value → Shared → Prop} (Z : Shared → Value) (G : Shared → Shared), Meets (Builtin.«tuple.__mul__» ⟨[.ref l, .int k t], []⟩) (fun _ R s => s.heap.get? l = some { cls := .type "tuple", dict := dd, data := .seq its.toArray n, slots := sl } ∧ R (.ok (.ret (Z s))) (G s)) →
      Q' (Z s) (G s) → wpAny (model X.prog X.w) X.A (binaryOp .Mult (.ref l) (.int k t)) Q' X.xe s := fun {Q'} Z G M q =>
    wpAny_binaryOp_repeat_ref (T := "tuple") (U := "int") (by decide) ⟨_, ho, rfl⟩ (fun s' => typeIs_int s' k t) noFill_tuple_mul F.fills_int_mul F.slot_int_rmul repeat_tuple F.slot_int_index.lookup
      (call_meets F.slot_int_rmul (typeIs_int s k t) F.entry_int_rmul (F.args_int_rmul_2 _ _) (int_rmul_seq k t l "tuple" its.toArray n dd sl (.inr rfl))
        ⟨ho, rfl, ⟨_, ho, rfl⟩, call_meets F.slot_tuple_mul ⟨_, ho, rfl⟩ F.entry_tuple_mul (F.args_tuple_mul_2 _ _) M ⟨ho, q⟩⟩)
  by_cases hs1 : xs = [] ∨ k = 1
  · have c1 : (its.toArray.isEmpty || k == 1) = true := by
      rw [hie, Bool.or_eq_true, decide_eq_true_eq, beq_iff_eq]
      exact hs1
    exact go (fun _ => .ref l) (fun s => s) (tuple_mulS l its.toArray n dd sl k t c0 c1) ⟨.ref l, H, I, rfl, q1 hs1⟩
  · have c1 : (its.toArray.isEmpty || k == 1) = false := by
      rw [hie, Bool.or_eq_false_iff, decide_eq_false_iff_not, beq_eq_false_iff_ne]
      exact ⟨fun z => hs1 (.inl z), fun z => hs1 (.inr z)⟩
    have hie0 : its.toArray.isEmpty = false := by rw [hie]; exact decide_eq_false fun z => hs1 (.inl z)
    have fin : ∀ {h' : Heap}, h' = s.heap.push { cls := Value.type "tuple", data := Data.seq ((List.replicate k.toNat its).flatten.toArray) } → EP X pins σ Q (.ref s.heap.objs.size) { s with heap := h' } := by
      rintro h' rfl
      refine ⟨.ref s.heap.objs.size, _, I.laid (t' := s.toks) (o := .tup (List.replicate k.toNat xs).flatten) (fun b ob q => Heap.get?_push_of_some _ q) (Nat.le_refl _) ?_, rfl, q2 hs1 _ I.fresh⟩
      exact ⟨by rw [flatten_len, Nat.mul_comm]; exact hz, _, r.rep k.toNat, IsTup.new _ _⟩
    by_cases hk : k ≤ 0
    · refine go (fun s => .ref s.heap.objs.size) (fun s => { s with heap := s.heap.push { cls := Value.type "tuple", data := Data.seq #[] }, toks := s.toks }) (tuple_mul0 l its.toArray n dd sl k t c0 c1 (by rw [decide_eq_true hk]; rfl)) (fin ?_)
      rw [show k.toNat = 0 by omega]
      rfl
    · have hlen : its.toArray.size * k.toNat ≤ sizeLine := by rw [List.size_toArray, ← hl]; exact hz
      have hsl := sizeLine_eq
      have ek : ((its.toArray.size : Nat) : Int) * k = ((its.toArray.size * k.toNat : Nat) : Int) := by rw [Int.natCast_mul, Int.toNat_of_nonneg (by omega)]
      refine go (fun s => .ref s.heap.objs.size) (fun s => { s with heap := s.heap.push { cls := Value.type "tuple", data := Data.seq (List.foldl (fun x1 x2 => x1 ++ x2) #[] (List.replicate k.toNat its.toArray)) }, toks := s.toks }) (tuple_mulW l its.toArray n dd sl k t c0 c1 (by rw [decide_eq_false hk, hie0]; rfl) (by rw [ek]; omega) ?_ ?_) (fin (h' := s.heap.push { cls := Value.type "tuple", data := Data.seq (List.foldl (fun x1 x2 => x1 ++ x2) #[] (List.replicate k.toNat its.toArray)) }) (by rw [size_rep]))
      · rw [ek]
        unfold Builtin.Tuple.tupleTooMany
        exact decide_eq_false (by omega)
      · rw [size_rep, List.size_toArray, flatten_len, Nat.mul_comm]
        rw [List.size_toArray] at hlen
        exact hlen
/-- products: of ints, of a sequence and an int -/
def mulD : D → D → Option D
  | .int i, .int j => if mulC i j = true then some (.int (i * j)) else none
  | .list ds, .int k => if immutAll ds = true ∧ -(2 ^ 63) ≤ k ∧ k < 2 ^ 63 ∧ ds.length * k.toNat ≤ sizeLine then some (.list (List.replicate k.toNat ds).flatten) else none
  | .tuple ds, .int k => if immutAll ds = true ∧ -(2 ^ 63) ≤ k ∧ k < 2 ^ 63 ∧ ds.length * k.toNat ≤ sizeLine then some (.tuple (List.replicate k.toNat ds).flatten) else none
  | _, _ => none
theorem flat_one {α : Type} (l : List α) : (List.replicate (1 : Int).toNat l).flatten = l := by
  rw [show (1 : Int).toNat = 1 from rfl, List.replicate_one, List.flatten_cons, List.flatten_nil, List.append_nil]
theorem o_mul : OpR X (binaryOp .Mult) (rD2 X.K mulD .own) := by
  refine OpR.impS (OpR.or op_mul (OpR.or op_repL op_repTA)) fun x y H Q h sz => ?_
  obtain ⟨d, e, r, hd, he, hr, k⟩ := h
  have k := k sz
  cases hd with
  | int i =>
    cases he <;> simp [mulD] at hr
    obtain ⟨hc, rfl⟩ := hr
    refine .inl ⟨_, _, rfl, rfl, ?_, k.own (.int _) (fun _ z => nomatch z) fun _ z => nomatch z⟩
    simp only [mulC, Bool.or_eq_true, decide_eq_true_eq] at hc
    unfold CMul
    omega
  | lst ha hb =>
    cases he <;> simp [mulD] at hr
    obtain ⟨⟨hi, h1, h2, hz⟩, rfl⟩ := hr
    exact .inr (.inl ⟨_, _, _, rfl, rfl, ha, h1, h2, by rw [← hb.length]; exact hz, fun p hp => k.lst hp (RepAll.rep (immAll_F hb hi) _)⟩)
  | tup ha hb =>
    cases he <;> simp [mulD] at hr
    obtain ⟨⟨hi, h1, h2, hz⟩, rfl⟩ := hr
    have f1 := immAll_F hb hi
    refine .inr (.inr ⟨_, _, _, rfl, rfl, ha, h1, h2, by rw [← hb.length]; exact hz, fun e => ?_, fun _ p hp => k.tup hp (RepAll.rep f1 _)⟩)
    rename_i vs0 ds' n' k0
    have e2 : (List.replicate n'.toNat ds').flatten = ds' := by
      rcases e with e | e
      · have hl := f1.length
        rw [e] at hl
        rw [List.eq_nil_of_length_eq_zero hl]
        induction n'.toNat with
        | zero => rfl
        | succ m ih => rw [List.replicate_succ, List.flatten_cons, ih]; rfl
      · rw [e]; exact flat_one ds'
    rw [e2] at k
    exact k.own (.tup ha f1) (fun _ z => nomatch z) fun _ z => nomatch z
  | _ => cases he <;> simp [mulD] at hr
end
end Dn
/-! Den6: truth, and, or, not, tests, conditional expressions, items, argument lists, displays, calls of built-ins. -/
namespace Dn
open PySem PySem.Spec PyProof.Rows L2

/-! ### truth -/
def truD : D → Option Bool
  | .none => some false
  | .bool b => some b
  | .int i => some (i != 0)
  | .str x => if x.length ≤ sizeLine then some ((x.length : Int) != 0) else none
  | .list ds => some (!ds.isEmpty)
  | .tuple ds => some (!ds.isEmpty)
  | .dict _ => none
theorem RepAll.isEmpty {r : Rdr} {ds : List D} {vs : List V} (h : RepAll r ds vs) : ds.isEmpty = vs.isEmpty := by cases h <;> rfl
theorem tru_of {K : PySem.W.Frag} {H : Hp} {d : D} {v : V} {k : Bool} (h : Rep (rdL K H) d v) (e : truD d = some k) : TruV K v H k := by
  cases h with
  | non => exact (Option.some.inj e).symm
  | bl b => exact (Option.some.inj e).symm
  | int i => exact (Option.some.inj e).symm
  | str x =>
    simp only [truD] at e
    split at e
    · rename_i hc
      exact ⟨hc, (Option.some.inj e).symm⟩
    · cases e
  | lst ha hb => exact .inl ⟨_, ha, by rw [← hb.isEmpty]; exact (Option.some.inj e).symm⟩
  | tup ha hb => exact .inr (.inl ⟨_, ha, by rw [← hb.isEmpty]; exact (Option.some.inj e).symm⟩)
  | dic _ _ => cases e

section
variable {X : Cx} {B : Addr → Prop} {M : MEnv} {w wa wb wc : Bool} {a b c e : Expr} {rest : List Expr} {f g : CE} {m ma mb mo : Md} {pos : Pos}

/-- what is left of a reading behind a first part -/
theorem td_then {K : PySem.W.Frag} {σ : L2.St} {H H1 : Hp} {Q : VK} {o o1 : Fp} {δ1 δ2 : Env} {d : D} (k : ∀ v H' o' p, Kp (wa || wb) o H H' → R K B H' σ δ2 M o' → Sub o H o' → RRep K H' B m d v p → (∀ a, p a → H a = none ∧ ¬ o'.any a) → (∀ a, p a → ∃ u, H' a = some u ∧ Mut (some u)) → Q v H')
    (k1 : Kp wa o H H1) (s1 : Sub o H o1) (R1 : R K B H1 σ δ1 M o1) (hg : g δ1 = some (d, δ2)) : TD K B M wb g m σ H1 Q :=
  ⟨δ1, o1, d, δ2, R1, hg, fun v H' o' p k2 R2 s2 r2 f2 c2 => k v H' o' p ((k1.up fun z => by rw [z]; rfl).trans s1 (k2.up fun z => by rw [z]; simp)) R2 (s1.trans k1 s2) r2 (fun a q => ⟨k1.there a (f2 a q).1, (f2 a q).2⟩) c2⟩
/-- the result is the first part's -/
theorem td_stop {K : PySem.W.Frag} {σ : L2.St} {H H1 : Hp} {Q : VK} {o o1 : Fp} {δ1 : Env} {d : D} {v : V} {p : Addr → Prop} (k : ∀ v H' o' p, Kp (wa || wb) o H H' → R K B H' σ δ1 M o' → Sub o H o' → RRep K H' B m d v p → (∀ a, p a → H a = none ∧ ¬ o'.any a) → (∀ a, p a → ∃ u, H' a = some u ∧ Mut (some u)) → Q v H')
    (k1 : Kp wa o H H1) (s1 : Sub o H o1) (R1 : R K B H1 σ δ1 M o1) (r1 : RRep K H1 B m d v p) (f1 : ∀ a, p a → H a = none ∧ ¬ o1.any a) (c1 : ∀ a, p a → ∃ u, H1 a = some u ∧ Mut (some u)) : Q v H1 :=
  k v H1 o1 p (k1.up fun z => by rw [z]; rfl) R1 s1 r1 f1 c1

def andV (f g : CE) : CE := fun δ => (f δ).bind fun p => (truD p.1).bind fun b => if b = true then g p.2 else some p
def orV (f g : CE) : CE := fun δ => (f δ).bind fun p => (truD p.1).bind fun b => if b = true then some p else g p.2
theorem de_one {op : BoolOp} (h : DE X B M w a f m) : DE X B M w (.BoolOp op [a] pos) f m := pe_one h
theorem de_and (ha : DE X B M wa a f m) (hb : DE X B M wb (.BoolOp .And (b :: rest) pos) g m) : DE X B M (wa || wb) (.BoolOp .And (a :: b :: rest) pos) (andV f g) m := PE.mono (pe_andT ha hb) fun σ H Q h => by
  obtain ⟨δ, o, d, δ2, hR, hf, k⟩ := h
  obtain ⟨⟨d1, δ1⟩, h1, hf⟩ := Option.bind_eq_some_iff.mp hf
  obtain ⟨c, ht, hf⟩ := Option.bind_eq_some_iff.mp hf
  refine ⟨δ, o, d1, δ1, hR, h1, fun v H1 o1 p1 k1 R1 s1 r1 f1 c1 => ⟨c, tru_of r1.lent ht, ?_⟩⟩
  cases c with
  | true => exact td_then k k1 s1 R1 hf
  | false =>
    cases hf
    exact td_stop k k1 s1 R1 r1 f1 c1
theorem de_or (ha : DE X B M wa a f m) (hb : DE X B M wb (.BoolOp .Or (b :: rest) pos) g m) : DE X B M (wa || wb) (.BoolOp .Or (a :: b :: rest) pos) (orV f g) m := PE.mono (pe_orT ha hb) fun σ H Q h => by
  obtain ⟨δ, o, d, δ2, hR, hf, k⟩ := h
  obtain ⟨⟨d1, δ1⟩, h1, hf⟩ := Option.bind_eq_some_iff.mp hf
  obtain ⟨c, ht, hf⟩ := Option.bind_eq_some_iff.mp hf
  refine ⟨δ, o, d1, δ1, hR, h1, fun v H1 o1 p1 k1 R1 s1 r1 f1 c1 => ⟨c, tru_of r1.lent ht, ?_⟩⟩
  cases c with
  | false => exact td_then k k1 s1 R1 hf
  | true =>
    cases hf
    exact td_stop k k1 s1 R1 r1 f1 c1
def notD (d : D) : Option D := (truD d).map fun b => .bool (!b)
theorem de_not (ha : DE X B M w a f m) : DE X B M w (.UnaryOp .Not a pos) (c1 notD f) .frz := PE.mono (pe_notT ha) fun σ H Q h => by
  obtain ⟨δ, o, r, δ1, hR, hf, k⟩ := h
  obtain ⟨d, h1, h3⟩ := c1_inv hf
  obtain ⟨c, hc, rfl⟩ := Option.map_eq_some_iff.mp h3
  exact ⟨δ, o, d, δ1, hR, h1, fun v H1 o1 p1 k1 R1 s1 r1 f1 c1 => ⟨c, tru_of r1.lent hc, k (.bl (!c)) H1 o1 noP k1 R1 s1 (.bl _) (fun _ z => z.elim) fun _ z => z.elim⟩⟩

/-! ### tests -/
abbrev CT := Env → Option (Bool × Env)
def TT' (K : PySem.W.Frag) (B : Addr → Prop) (M : MEnv) (w : Bool) (f : CT) : TT := fun σ H Q => ∃ δ o b δ', R K B H σ δ M o ∧ f δ = some (b, δ') ∧
  ∀ H' o', Kp w o H H' → R K B H' σ δ' M o' → Sub o H o' → Q b H'
abbrev DT (X : Cx) (B : Addr → Prop) (M : MEnv) (w : Bool) (e : Expr) (f : CT) : Prop := PT X e (TT' X.K B M w f)
abbrev DW (X : Cx) (B : Addr → Prop) (M : MEnv) (w : Bool) (e : Expr) (f : CT) : Prop := PW X e (TT' X.K B M w f)
def tst (f : CE) : CT := fun δ => (f δ).bind fun p => (truD p.1).bind fun b => some (b, p.2)
def tstB (f : CE) : CT := fun δ => (f δ).bind fun p => match p.1 with | .bool b => some (b, p.2) | _ => none
theorem tstB_inv {f : CE} {δ δ' : Env} {b : Bool} (h : tstB f δ = some (b, δ')) : f δ = some (.bool b, δ') := by
  obtain ⟨⟨d, δ1⟩, h1, h⟩ := Option.bind_eq_some_iff.mp h
  cases d <;> first | (simp at h; done) | skip
  rename_i c
  simp only [Option.some.injEq, Prod.mk.injEq] at h
  rw [← h.1, ← h.2]
  exact h1
theorem dt_val (h : DE X B M w e f m) (he : ∀ whole, isTrue e X.env whole = (do let v ← whole; standAt e.pos; holding [v] (truthy v))) : DT X B M w e (tst f) := PT.mono (pt_truth h he) fun σ H Q q => by
  obtain ⟨δ, o, b, δ', hR, hf, k⟩ := q
  obtain ⟨⟨d, δ1⟩, h1, hf⟩ := Option.bind_eq_some_iff.mp hf
  obtain ⟨c, ht, hf⟩ := Option.bind_eq_some_iff.mp hf
  cases hf
  exact ⟨δ, o, d, δ1, hR, h1, fun v H1 o1 p1 k1 R1 s1 r1 f1 c1 => ⟨_, tru_of r1.lent ht, k H1 o1 k1 R1 s1⟩⟩
theorem dt_cmp {op : CmpOp} {φ : D → D → Option D} (ok : okm ma wb = true) (ho : OpR X (compareOp op) (rD2 X.K φ .frz)) (ha : DE X B M wa a f ma) (hb : DE X B M wb b g mb) (hk : behindInMarks op b = false) : DT X B M (wa || wb) (.Compare a [op] [b] pos) (tstB (c2 φ f g)) :=
  PT.mono (pt_cmpR ho ha hb hk) fun σ H Q q => by
    obtain ⟨δ, o, b, δ', hR, hf, k⟩ := q
    refine td_2 (mo := .frz) X.K ok σ H _ ⟨δ, o, .bool b, δ', hR, tstB_inv hf, fun v H' o' p k1 R1 s1 r1 f1 c1 => ⟨b, ?_, k H' o' k1 R1 s1⟩⟩
    cases (show Rep (rdF X.K H') (.bool b) v from r1)
    rfl
def andT (f g : CT) : CT := fun δ => (f δ).bind fun p => if p.1 = true then g p.2 else some (false, p.2)
def orT (f g : CT) : CT := fun δ => (f δ).bind fun p => if p.1 = true then some (true, p.2) else g p.2
def notT (f : CT) : CT := fun δ => (f δ).bind fun p => some (!p.1, p.2)
section
variable {f g : CT}
theorem dw_and1 (ha : DT X B M w a f) : DW X B M w (.BoolOp .And [a] pos) f := pw_and1 ha
theorem dw_or1 (ha : DT X B M w a f) : DW X B M w (.BoolOp .Or [a] pos) f := pw_or1 ha
theorem PW.mono {X : Cx} {e : Expr} {t t' : TT} (h : PW X e t) (i : ∀ σ H Q, t' σ H Q → t σ H Q) : PW X e t' := ⟨fun wh pins s σ H Q I q => h.run wh pins s σ H Q I (i σ H Q q)⟩
theorem tt_then {K : PySem.W.Frag} {σ : L2.St} {H H1 : Hp} {Q : Bool → Hp → Prop} {o o1 : Fp} {δ1 δ2 : Env} {d : Bool} (k : ∀ H' o', Kp (wa || wb) o H H' → R K B H' σ δ2 M o' → Sub o H o' → Q d H')
    (k1 : Kp wa o H H1) (s1 : Sub o H o1) (R1 : R K B H1 σ δ1 M o1) (hg : g δ1 = some (d, δ2)) : TT' K B M wb g σ H1 Q :=
  ⟨δ1, o1, d, δ2, R1, hg, fun H' o' k2 R2 s2 => k H' o' ((k1.up fun z => by rw [z]; rfl).trans s1 (k2.up fun z => by rw [z]; simp)) R2 (s1.trans k1 s2)⟩
theorem dw_and (ha : DT X B M wa a f) (hb : DW X B M wb (.BoolOp .And (b :: rest) pos) g) : DW X B M (wa || wb) (.BoolOp .And (a :: b :: rest) pos) (andT f g) := PW.mono (pw_and ha hb) fun σ H Q q => by
  obtain ⟨δ, o, c, δ2, hR, hf, k⟩ := q
  obtain ⟨⟨b1, δ1⟩, h1, hf⟩ := Option.bind_eq_some_iff.mp hf
  refine ⟨δ, o, b1, δ1, hR, h1, fun H1 o1 k1 R1 s1 => ?_⟩
  cases b1 with
  | true => exact tt_then k k1 s1 R1 hf
  | false =>
    cases hf
    exact k H1 o1 (k1.up fun z => by rw [z]; rfl) R1 s1
theorem dw_or (ha : DT X B M wa a f) (hb : DW X B M wb (.BoolOp .Or (b :: rest) pos) g) : DW X B M (wa || wb) (.BoolOp .Or (a :: b :: rest) pos) (orT f g) := PW.mono (pw_or ha hb) fun σ H Q q => by
  obtain ⟨δ, o, c, δ2, hR, hf, k⟩ := q
  obtain ⟨⟨b1, δ1⟩, h1, hf⟩ := Option.bind_eq_some_iff.mp hf
  refine ⟨δ, o, b1, δ1, hR, h1, fun H1 o1 k1 R1 s1 => ?_⟩
  cases b1 with
  | false => exact tt_then k k1 s1 R1 hf
  | true =>
    cases hf
    exact k H1 o1 (k1.up fun z => by rw [z]; rfl) R1 s1
theorem dt_bool (h : DW X B M w e f) : DT X B M w e f := PW.pt h
theorem dt_not (ha : DT X B M w a f) : DT X B M w (.UnaryOp .Not a pos) (notT f) := PT.mono (pt_not ha) fun σ H Q q => by
  obtain ⟨δ, o, c, δ2, hR, hf, k⟩ := q
  obtain ⟨⟨b1, δ1⟩, h1, hf⟩ := Option.bind_eq_some_iff.mp hf
  cases hf
  exact ⟨δ, o, b1, δ1, hR, h1, fun H1 o1 k1 R1 s1 => k H1 o1 k1 R1 s1⟩
end
def ifV (t : CT) (f g : CE) : CE := fun δ => (t δ).bind fun p => if p.1 = true then f p.2 else g p.2
theorem de_if {t : CT} (hc : DT X B M wc c t) (ha : DE X B M wa a f m) (hb : DE X B M wb b g m) : DE X B M (wc || (wa || wb)) (.IfExp c a b pos) (ifV t f g) m := PE.mono (pe_ifExp hc ha hb) fun σ H Q q => by
  obtain ⟨δ, o, d, δ2, hR, hf, k⟩ := q
  obtain ⟨⟨b1, δ1⟩, h1, hf⟩ := Option.bind_eq_some_iff.mp hf
  refine ⟨δ, o, b1, δ1, hR, h1, fun H1 o1 k1 R1 s1 => ?_⟩
  cases b1 with
  | true => exact td_then (wb := wa) (fun v H' o' p k2 => k v H' o' p (k2.up fun z => by revert z; cases wc <;> cases wa <;> cases wb <;> simp)) k1 s1 R1 hf
  | false => exact td_then (wb := wb) (fun v H' o' p k2 => k v H' o' p (k2.up fun z => by revert z; cases wc <;> cases wa <;> cases wb <;> simp)) k1 s1 R1 hf

/-! ### chains of two comparisons -/
def ch (φ ψ : D → D → Option D) (f g h : CE) : CE := fun δ => (f δ).bind fun p => (g p.2).bind fun q => (φ p.1 q.1).bind fun r => match r with
  | .bool true => (h q.2).bind fun s => (ψ q.1 s.1).bind fun r' => some (r', s.2)
  | .bool false => some (.bool false, q.2)
  | _ => none
theorem td_ch {φ ψ : D → D → Option D} {h : CE} {mc : Md} (K : PySem.W.Frag) (ok : okm ma wb = true) (ok2 : okm mb wc = true) (σ : L2.St) (H : Hp) (Q : VK) (q : TD K B M (wa || wb || wc) (ch φ ψ f g h) .frz σ H Q) :
    tChain (rD2 K φ .frz) (rD2 K ψ .frz) (TD K B M wa f ma) (TD K B M wb g mb) (TD K B M wc h mc) σ H Q := by
  obtain ⟨δ, o, r, δ3, hR, hf, k⟩ := q
  obtain ⟨⟨d1, δ1⟩, h1, hf⟩ := Option.bind_eq_some_iff.mp hf
  obtain ⟨⟨d2, δ2⟩, h2, hf⟩ := Option.bind_eq_some_iff.mp hf
  obtain ⟨r1, h3, hf⟩ := Option.bind_eq_some_iff.mp hf
  refine ⟨δ, o, d1, δ1, hR, h1, fun v H1 o1 p1 k1 R1 s1 rp1 f1 c1 => ⟨δ1, o1, d2, δ2, R1, h2, fun w H2 o2 p2 k2 R2 s2 rp2 f2 c2 => ?_⟩⟩
  refine ⟨d1, d2, r1, (RRep.keep (σ := σ) (M := M) R1 rp1 k2 (fun a q => (f1 a q).2) ok).lent, rp2.lent, h3, fun _ z H3 p3 k3 rp3 f3 c3 => ?_⟩
  have kk : Kp (wa || wb) o H H2 := (k1.up fun z => by rw [z]; rfl).trans s1 (k2.up fun z => by rw [z]; simp)
  have ss : Sub o H o2 := s1.trans k1 s2
  have R3 := R2.keep k3
  have rp2' : RRep K H3 B mb d2 w p2 := by
    refine RRep.keep (w := false) R2 rp2 (Kp.all k3) (fun a q => (f2 a q).2) ?_
    cases mb <;> rfl
  cases r1 with
  | bool c =>
    cases (show Rep (rdF K H3) (.bool c) z from rp3 B)
    refine ⟨c, rfl, ?_⟩
    cases c with
    | true =>
      obtain ⟨⟨d3, δ3'⟩, h4, hf⟩ := Option.bind_eq_some_iff.mp hf
      obtain ⟨r2, h5, hf⟩ := Option.bind_eq_some_iff.mp hf
      cases hf
      refine ⟨δ2, o2, d3, _, R3, h4, fun x H4 o4 p4 k4 R4 s4 rp4 f4 c4 => ?_⟩
      refine ⟨d2, d3, r, (RRep.keep (σ := σ) (M := M) R3 rp2' k4 (fun a q => (f2 a q).2) ok2).lent, rp4.lent, h5, fun _ y H5 p5 k5 rp5 f5 c5 => ?_⟩
      have kk3 : Kp (wa || wb) o H H3 := kk.trans ss (Kp.all k3)
      have kk4 : Kp (wa || wb || wc) o H H4 := (kk3.up fun z => by rw [z]; rfl).trans ss (k4.up fun z => by rw [z]; simp)
      have ss4 : Sub o H o4 := ss.trans kk3 s4
      exact k y H5 o4 noP (kk4.trans ss4 (Kp.all k5)) (R4.keep k5) ss4 (rp5 B) (fun _ z => z.elim) fun _ z => z.elim
    | false =>
      cases hf
      have kk3 : Kp (wa || wb || wc) o H H3 := (kk.trans ss (Kp.all k3)).up fun z => by rw [z]; rfl
      exact k (.bl false) H3 o2 noP kk3 R3 ss (.bl false) (fun _ z => z.elim) fun _ z => z.elim
  | _ => cases hf
theorem de_chain {op op' : CmpOp} {φ ψ : D → D → Option D} {h : CE} {mc : Md} (ok : okm ma wb = true) (ok2 : okm mb wc = true) (ho : OpR X (compareOp op) (rD2 X.K φ .frz)) (ho' : OpR X (compareOp op') (rD2 X.K ψ .frz)) (ha : DE X B M wa a f ma) (hb : DE X B M wb b g mb) (hc : DE X B M wc c h mc)
    (hk : lastMarks [op, op'] [b, c] = false) : DE X B M (wa || wb || wc) (.Compare a [op, op'] [b, c] pos) (ch φ ψ f g h) .frz :=
  PE.mono (pe_chain ho ho' ha hb hc hk) fun σ H Q q => td_ch X.K ok ok2 σ H Q q
theorem dt_chain {op op' : CmpOp} {φ ψ : D → D → Option D} {h : CE} {mc : Md} (ok : okm ma wb = true) (ok2 : okm mb wc = true) (ho : OpR X (compareOp op) (rD2 X.K φ .frz)) (ho' : OpR X (compareOp op') (rD2 X.K ψ .frz)) (ha : DE X B M wa a f ma) (hb : DE X B M wb b g mb) (hc : DE X B M wc c h mc)
    (hk : lastMarks [op, op'] [b, c] = false) : DT X B M (wa || wb || wc) (.Compare a [op, op'] [b, c] pos) (tstB (ch φ ψ f g h)) :=
  PT.mono (pt_chain ho ho' ha hb hc hk) fun σ H Q q => by
    obtain ⟨δ, o, b, δ', hR, hf, k⟩ := q
    refine td_ch X.K ok ok2 σ H _ ⟨δ, o, .bool b, δ', hR, tstB_inv hf, fun v H' o' p k1 R1 s1 r1 f1 c1 => ⟨b, ?_, k H' o' k1 R1 s1⟩⟩
    cases (show Rep (rdF X.K H') (.bool b) v from r1)
    rfl
end
end Dn
/-! Den7: items, slices, argument lists, displays, calls of built-ins, calls of defs. -/
namespace Dn
open PySem PySem.Spec PyProof.Rows L2

theorem atI_rep {r : Rdr} {ds : List D} {vs : List V} {i : Int} {d : D} (h : RepAll r ds vs) (e : atI ds i = some d) : ∃ v, atI vs i = some v ∧ Rep r d v := by
  unfold atI at e ⊢
  rw [← h.length]
  obtain ⟨j, hj, e⟩ := Option.bind_eq_some_iff.mp e
  rw [hj]
  obtain ⟨v, h1, h2⟩ := h.get e
  exact ⟨v, h1, h2⟩
/-- the mode of a part of a value -/
def ptM : Md → Md | .frz => .frz | .own => .frz | .sta => .sta | _ => .len
def ixD : D → D → Option D
  | .list ds, .int i => atI ds i
  | .tuple ds, .int i => atI ds i
  | .str x, .int i => if x.length ≤ sizeLine then (atI x.cps.toList i).map fun c => .str ⟨#[c]⟩ else none
  | _, _ => none
/-- a sequence that is held by m: its items, held by ptM m -/
theorem RRep.seqL {K : PySem.W.Frag} {H : Hp} {B : Addr → Prop} {m : Md} {ds : List D} {v : V} {p : Addr → Prop} (h : RRep K H B m (.list ds) v p) :
    ∃ a vs r, v = .ref a ∧ SqL K H a vs ∧ RepAll r ds vs ∧ ∀ d u, Rep r d u → RRep K H B (ptM m) d u noP := by
  have own : Own K H (.list ds) v p → ∃ a vs, v = .ref a ∧ SqL K H a vs ∧ RepAll (rdF K H) ds vs := fun h => by
    obtain ⟨a, vs, e, q, hl, r⟩ := h
    exact ⟨a, vs, e, .inl (.inl hl), r⟩
  cases m with
  | len => cases h with | lst ha hb => exact ⟨_, _, _, rfl, ha, hb, fun _ _ z => z⟩
  | sta => cases h with | lst ha hb => exact ⟨_, _, _, rfl, ha.1, hb, fun _ _ z => z⟩
  | frz => cases h with | lst ha hb => exact ⟨_, _, _, rfl, LstF.sq ha, hb, fun _ _ z => z⟩
  | own =>
    obtain ⟨a, vs, e, hl, r⟩ := own h
    exact ⟨a, vs, _, e, hl, r, fun _ _ z => z⟩
  | io b =>
    obtain ⟨a, vs, e, hl, r⟩ := own h.1
    exact ⟨a, vs, _, e, hl, r, fun _ _ z => Rep.mono rdF_L z⟩
theorem RRep.seqT {K : PySem.W.Frag} {H : Hp} {B : Addr → Prop} {m : Md} {ds : List D} {v : V} {p : Addr → Prop} (h : RRep K H B m (.tuple ds) v p) :
    ∃ a vs r, v = .ref a ∧ SqT K H a vs ∧ RepAll r ds vs ∧ ∀ d u, Rep r d u → RRep K H B (ptM m) d u noP := by
  have own : Own K H (.tuple ds) v p → ∃ a vs, v = .ref a ∧ SqT K H a vs ∧ RepAll (rdF K H) ds vs := fun h => by
    cases (show Rep (rdF K H) (.tuple ds) v from h) with
    | tup ha hb => exact ⟨_, _, rfl, ha, hb⟩
  cases m with
  | len => cases h with | tup ha hb => exact ⟨_, _, _, rfl, ha, hb, fun _ _ z => z⟩
  | sta => cases h with | tup ha hb => exact ⟨_, _, _, rfl, ha, hb, fun _ _ z => z⟩
  | frz => cases h with | tup ha hb => exact ⟨_, _, _, rfl, ha, hb, fun _ _ z => z⟩
  | own =>
    obtain ⟨a, vs, e, hl, r⟩ := own h
    exact ⟨a, vs, _, e, hl, r, fun _ _ z => z⟩
  | io b =>
    obtain ⟨a, vs, e, hl, r⟩ := own h.1
    exact ⟨a, vs, _, e, hl, r, fun _ _ z => Rep.mono rdF_L z⟩
/-- data that hold nothing are held by any mode -/
theorem RRep.flat {K : PySem.W.Frag} {H : Hp} {B : Addr → Prop} {m : Md} {d : D} {v : V} (h : ∀ r, Rep r d v) (nl : ∀ ds, d ≠ .list ds) (nd : ∀ kvs, d ≠ .dict kvs) (ni : ∀ a, m ≠ .io a) : RRep K H B m d v noP := by
  cases m with
  | len => exact h _
  | sta => exact h _
  | frz => exact h _
  | own => exact Own.ofF (h _) nl nd
  | io a => exact absurd rfl (ni a)

section
variable {X : Cx} {B : Addr → Prop} {M : MEnv} {w wa wb wc : Bool} {a b c e : Expr} {es rest : List Expr} {f g : CE} {m ma mb mo : Md} {pos : Pos}
theorem de_ix (ok : okm ma wb = true) (ha : DE X B M wa a f ma) (hb : DE X B M wb b g mb) (hs : PlainIx b) : DE X B M (wa || wb) (.Subscript a b pos) (c2 ixD f g) (ptM ma) :=
  PE.mono (pe_ix ix_seq ha hb hs) fun σ H Q h => by
    obtain ⟨δ, o, r, δ2, hR, hf, k⟩ := h
    obtain ⟨d, e, δ1, h1, h2, h3⟩ := c2_inv hf
    refine ⟨δ, o, d, δ1, hR, h1, fun v H1 o1 p1 k1 R1 s1 r1 f1 c1 => ⟨δ1, o1, e, δ2, R1, h2, fun w H2 o2 p2 k2 R2 s2 r2 f2 c2 => ?_⟩⟩
    have r1' := RRep.keep (σ := σ) (M := M) R1 r1 k2 (fun a q => (f1 a q).2) ok
    have kk : Kp (wa || wb) o H H2 := (k1.up fun z => by rw [z]; rfl).trans s1 (k2.up fun z => by rw [z]; simp)
    have fin : ∀ u, RRep X.K H2 B (ptM ma) r u noP → Q u H2 := fun u q => k u H2 o2 noP kk R2 (s1.trans k1 s2) q (fun _ z => z.elim) fun _ z => z.elim
    cases e with
    | int i =>
      cases (show Rep (rdL X.K H2) (.int i) w from r2.lent)
      cases d with
      | list ds =>
        obtain ⟨a, vs, r, rfl, hl, hv, hp⟩ := r1'.seqL
        obtain ⟨u, hu, ru⟩ := atI_rep hv h3
        exact .inl ⟨a, vs, i, u, rfl, rfl, hl, hu, fin u (hp _ _ ru)⟩
      | tuple ds =>
        obtain ⟨a, vs, r, rfl, hl, hv, hp⟩ := r1'.seqT
        obtain ⟨u, hu, ru⟩ := atI_rep hv h3
        exact .inr (.inl ⟨a, vs, i, u, rfl, rfl, hl, hu, fin u (hp _ _ ru)⟩)
      | str x =>
        cases (show Rep (rdL X.K H2) (.str x) v from r1'.lent)
        simp only [ixD] at h3
        split at h3
        · rename_i hz
          obtain ⟨c, hc, rfl⟩ := Option.map_eq_some_iff.mp h3
          exact .inr (.inr ⟨x, i, c, rfl, rfl, hz, hc, fin _ (RRep.flat (fun _ => .str _) (fun _ z => nomatch z) (fun _ z => nomatch z) (fun _ z => by cases ma <;> cases z))⟩)
        · cases h3
      | _ => cases h3
    | _ => cases d <;> cases h3

/-! ### slices -/
abbrev CP := Env → Option (Option Int × Env)
def TP' (K : PySem.W.Frag) (B : Addr → Prop) (M : MEnv) (w : Bool) (f : CP) : TO := fun σ H Q => ∃ δ o i δ', R K B H σ δ M o ∧ f δ = some (i, δ') ∧
  ∀ H' o', Kp w o H H' → R K B H' σ δ' M o' → Sub o H o' → Q i H'
abbrev DP (X : Cx) (B : Addr → Prop) (M : MEnv) (w : Bool) (e : Option Expr) (f : CP) : Prop := PO X e (TP' X.K B M w f)
theorem PO.mono {X : Cx} {e : Option Expr} {t t' : TO} (h : PO X e t) (i : ∀ σ H Q, t' σ H Q → t σ H Q) : PO X e t' := ⟨fun pins s σ H Q I q => h.run pins s σ H Q I (i σ H Q q)⟩
def noPt : CP := fun δ => some (none, δ)
def ptOf (f : CE) : CP := fun δ => (f δ).bind fun p => match p.1 with | .int i => some (some i, p.2) | _ => none
theorem dp_none : DP X B M false none noPt := PO.mono po_none fun σ H Q h => by
  obtain ⟨δ, o, i, δ', hR, hf, k⟩ := h
  cases hf
  exact k H o (Kp.refl _ _ _) hR (Sub.refl _ _)
theorem dp_some (h : DE X B M w e f m) : DP X B M w (some e) (ptOf f) := PO.mono (po_some h) fun σ H Q q => by
  obtain ⟨δ, o, i, δ', hR, hf, k⟩ := q
  obtain ⟨⟨d, δ1⟩, h1, hf⟩ := Option.bind_eq_some_iff.mp hf
  cases d <;> first | (simp at hf; done) | skip
  rename_i j
  simp only [Option.some.injEq, Prod.mk.injEq] at hf
  obtain ⟨rfl, rfl⟩ := hf
  refine ⟨δ, o, .int j, δ1, hR, h1, fun v H1 o1 p1 k1 R1 s1 r1 f1 c1 => ?_⟩
  cases (show Rep (rdL X.K H1) (.int j) v from r1.lent)
  exact ⟨j, rfl, k H1 o1 k1 R1 s1⟩
def cutD (ds : List D) (lo hi : Option Int) : List D := (ds.drop (HT.sIx ds.length 0 lo)).take (HT.sIx ds.length ds.length hi - HT.sIx ds.length 0 lo)
theorem cutD_rep {r : Rdr} {ds : List D} {vs : List V} (h : RepAll r ds vs) (lo hi : Option Int) : RepAll r (cutD ds lo hi) (cutV vs lo hi) := by
  unfold cutD cutV
  rw [h.length]
  exact (h.drop _).take _
def slD (d : D) (lo hi : Option Int) : Option D := match d with
  | .list ds => if immutAll ds = true then some (.list (cutD ds lo hi)) else none
  | .tuple ds => if immutAll ds = true then some (.tuple (cutD ds lo hi)) else none
  | .str x => if x.length ≤ sizeLine then some (.str (cutS x lo hi)) else none
  | _ => none
def slV (f : CE) (lo hi : CP) : CE := fun δ => (f δ).bind fun p => (lo p.2).bind fun l => (hi l.2).bind fun h => (slD p.1 l.1 h.1).bind fun r => some (r, h.2)
theorem cut_whole (ds : List D) (lo hi : Option Int) (h : HT.sIx ds.length 0 lo = 0 ∧ HT.sIx ds.length ds.length hi = ds.length) : cutD ds lo hi = ds := by
  unfold cutD
  rw [h.1, h.2]
  simp
theorem de_slice {lo hi : Option Expr} {fl fh : CP} {p2 : Pos} (ok : okm ma wb = true) (ok2 : okm ma wc = true) (ha : DE X B M wa a f ma) (hl : DP X B M wb lo fl) (hh : DP X B M wc hi fh) : DE X B M (wa || wb || wc) (.Subscript a (.Slice lo hi none p2) pos) (slV f fl fh) .own :=
  PE.mono (pe_slice (SlR.or sl_list (SlR.or sl_tupA sl_str)) ha hl hh) fun σ H Q h => by
    obtain ⟨δ, o, r, δ3, hR, hf, k⟩ := h
    obtain ⟨⟨d, δ1⟩, h1, hf⟩ := Option.bind_eq_some_iff.mp hf
    obtain ⟨⟨l, δ2⟩, h2, hf⟩ := Option.bind_eq_some_iff.mp hf
    obtain ⟨⟨u, δ3'⟩, h3, hf⟩ := Option.bind_eq_some_iff.mp hf
    obtain ⟨r', h4, hf⟩ := Option.bind_eq_some_iff.mp hf
    cases hf
    refine ⟨δ, o, d, δ1, hR, h1, fun v H1 o1 p1 k1 R1 s1 r1 f1 c1 => ⟨δ1, o1, l, δ2, R1, h2, fun H2 o2 k2 R2 s2 => ⟨δ2, o2, u, _, R2, h3, fun H3 o3 k3 R3 s3 => ?_⟩⟩⟩
    have r1' := RRep.keep (σ := σ) (M := M) R1 r1 k2 (fun a q => (f1 a q).2) ok
    have k12 : Kp (wa || wb) o H H2 := (k1.up fun z => by rw [z]; rfl).trans s1 (k2.up fun z => by rw [z]; simp)
    have s12 : Sub o H o2 := s1.trans k1 s2
    have r1'' := (RRep.keep (σ := σ) (M := M) R2 r1' k3 (fun a q z => by
      rcases s2 a z with h | h
      · exact (f1 a q).2 h
      · obtain ⟨u, e, _⟩ := c1 a q
        rw [h] at e; cases e) ok2).lent
    have kk : Kp (wa || wb || wc) o H H3 := (k12.up fun z => by rw [z]; rfl).trans s12 (k3.up fun z => by rw [z]; simp)
    have ss : Sub o H o3 := s12.trans k12 s3
    have res : Res X.K .own r H3 Q := fun z H4 p4 k4 r4 f4 c4 => k z H4 o3 p4 (kk.trans ss (Kp.all k4)) (R3.keep k4) ss (r4 B) (fun a q => ⟨kk.there a (f4 a q), R3.fresh (f4 a q)⟩) c4
    cases r1'' with
    | lst ha hb =>
      simp only [slD] at h4
      split at h4
      · rename_i hi
        cases h4
        exact .inl ⟨_, _, rfl, ha, fun p hp => res.lst hp (cutD_rep (immAll_F hb hi) _ _)⟩
      · cases h4
    | tup ha hb =>
      simp only [slD] at h4
      split at h4
      · rename_i hi
        cases h4
        have fb := immAll_F hb hi
        refine .inr (.inl ⟨_, _, rfl, ha, fun hw => ?_, fun _ p hp => res.tup hp (cutD_rep fb _ _)⟩)
        rw [← fb.length] at hw
        rw [cut_whole _ _ _ hw] at res
        exact res.own (.tup ha fb) (fun _ z => nomatch z) fun _ z => nomatch z
      · cases h4
    | str x =>
      simp only [slD] at h4
      split at h4
      · rename_i hz
        cases h4
        exact .inr (.inr ⟨_, rfl, hz, res.own (.str _) (fun _ z => nomatch z) fun _ z => nomatch z⟩)
      · cases h4
    | _ => cases h4

/-! ### argument lists -/
abbrev CA := Env → Option (List D × Env)
/-- arguments as they are held: frz for ever, else to be read -/
inductive ARep (K : PySem.W.Frag) (H : Hp) (B : Addr → Prop) : List Md → List D → List V → Prop
  | nil : ARep K H B [] [] []
  | cons {m : Md} {ms : List Md} {d : D} {ds : List D} {v : V} {vs : List V} {p : Addr → Prop} : RRep K H B m d v p → ARep K H B ms ds vs → ARep K H B (m :: ms) (d :: ds) (v :: vs)
def TA' (K : PySem.W.Frag) (B : Addr → Prop) (M : MEnv) (w : Bool) (f : CA) (ms : List Md) : TA := fun σ H Q => ∃ δ o ds δ', R K B H σ δ M o ∧ f δ = some (ds, δ') ∧
  ∀ vs H' o', Kp w o H H' → R K B H' σ δ' M o' → Sub o H o' → ARep K H' B ms ds vs → Q vs H'
abbrev DA (X : Cx) (B : Addr → Prop) (M : MEnv) (w : Bool) (es : List Expr) (f : CA) (ms : List Md) : Prop := PA X es (TA' X.K B M w f ms)
def aNil : CA := fun δ => some ([], δ)
def aCons (f : CE) (g : CA) : CA := fun δ => (f δ).bind fun p => (g p.2).bind fun q => some (p.1 :: q.1, q.2)
theorem da_nil : DA X B M false [] aNil [] := PA.mono pa_nil fun σ H Q h => by
  obtain ⟨δ, o, ds, δ', hR, hf, k⟩ := h
  cases hf
  exact k [] H o (Kp.refl _ _ _) hR (Sub.refl _ _) .nil
theorem da_cons {g : CA} {ms : List Md} (ok : okm m wb = true) (ha : DE X B M wa e f m) (hr : DA X B M wb es g ms) (hs : starEach (e :: es) X.env = (false, eval e X.env) :: starEach es X.env) : DA X B M (wa || wb) (e :: es) (aCons f g) (m :: ms) :=
  PA.mono (pa_cons ha hr hs) fun σ H Q h => by
    obtain ⟨δ, o, ds, δ', hR, hf, k⟩ := h
    obtain ⟨⟨d, δ1⟩, h1, hf⟩ := Option.bind_eq_some_iff.mp hf
    obtain ⟨⟨ds', δ2⟩, h2, hf⟩ := Option.bind_eq_some_iff.mp hf
    cases hf
    refine ⟨δ, o, d, δ1, hR, h1, fun v H1 o1 p1 k1 R1 s1 r1 f1 c1 => ⟨δ1, o1, ds', _, R1, h2, fun vs H2 o2 k2 R2 s2 a2 => ?_⟩⟩
    have kk : Kp (wa || wb) o H H2 := (k1.up fun z => by rw [z]; rfl).trans s1 (k2.up fun z => by rw [z]; simp)
    exact k (v :: vs) H2 o2 kk R2 (s1.trans k1 s2) (.cons (RRep.keep (σ := σ) (M := M) R1 r1 k2 (fun a q => (f1 a q).2) ok) a2)
theorem ARep.frz {K : PySem.W.Frag} {H : Hp} {B : Addr → Prop} : ∀ {ms : List Md} {ds : List D} {vs : List V}, ARep K H B ms ds vs → (∀ m ∈ ms, m = .frz) → RepAll (rdF K H) ds vs
  | _, _, _, .nil, _ => .nil
  | _, _, _, .cons (m := m) a b, h => by
    have e : m = .frz := h m (List.mem_cons_self)
    subst e
    exact .cons a (ARep.frz b fun m hm => h m (List.mem_cons_of_mem _ hm))
theorem ARep.lent {K : PySem.W.Frag} {H : Hp} {B : Addr → Prop} : ∀ {ms : List Md} {ds : List D} {vs : List V}, ARep K H B ms ds vs → RepAll (rdL K H) ds vs
  | _, _, _, .nil => .nil
  | _, _, _, .cons a b => .cons a.lent (ARep.lent b)
/-- (a, b, ..) -/
def tupV (f : CA) : CE := fun δ => (f δ).bind fun p => some (.tuple p.1, p.2)
def lstV (f : CA) : CE := fun δ => (f δ).bind fun p => some (.list p.1, p.2)
theorem alen {K : PySem.W.Frag} {H : Hp} {B : Addr → Prop} : ∀ {ms : List Md} {ds : List D} {vs : List V}, ARep K H B ms ds vs → vs.length = ms.length
  | _, _, _, .nil => rfl
  | _, _, _, .cons _ b => congrArg (· + 1) (alen b)
theorem de_tup {f : CA} {ms : List Md} {x1 : Nat} (hm : ∀ m ∈ ms, m = .frz) (hz : ms.length ≤ sizeLine) (h : DA X B M w es f ms) : DE X B M w (.Tuple es x1 pos) (tupV f) .frz := PE.mono (pe_tup h) fun σ H Q q => by
  obtain ⟨δ, o, d, δ', hR, hf, k⟩ := q
  obtain ⟨⟨ds, δ1⟩, h1, hf⟩ := Option.bind_eq_some_iff.mp hf
  cases hf
  refine ⟨δ, o, ds, _, hR, h1, fun vs H1 o1 k1 R1 s1 a1 => ⟨by rw [alen a1]; exact hz, fun p hp => ?_⟩⟩
  exact k (.ref p) _ o1 noP (k1.trans s1 (Kp.all (Ext.new hp))) (R1.keep (Ext.new hp)) s1 (Rep.tupNew hp (a1.frz hm)) (fun _ z => z.elim) fun _ z => z.elim
theorem de_lst {f : CA} {ms : List Md} (hm : ∀ m ∈ ms, m = .frz) (hz : ms.length ≤ sizeLine) (h : DA X B M w es f ms) : DE X B M w (.List es pos) (lstV f) .own := PE.mono (pe_lst h) fun σ H Q q => by
  obtain ⟨δ, o, d, δ', hR, hf, k⟩ := q
  obtain ⟨⟨ds, δ1⟩, h1, hf⟩ := Option.bind_eq_some_iff.mp hf
  cases hf
  refine ⟨δ, o, ds, _, hR, h1, fun vs H1 o1 k1 R1 s1 a1 => ⟨by rw [alen a1]; exact hz, fun p hp => ?_⟩⟩
  refine k (.ref p) _ o1 (fun a => a = p) (k1.trans s1 (Kp.all (Ext.new hp))) (R1.keep (Ext.new hp)) s1 ⟨p, vs, rfl, rfl, upd_same, RepAll.mono (rdF_keep fun a u e _ => Ext.new hp a u e) (a1.frz hm)⟩ (fun a e => ?_) fun a e => ⟨.lst vs, by rw [e]; exact upd_same, trivial⟩
  subst e
  exact ⟨k1.there a hp, R1.fresh hp⟩

/-! ### calls of built-ins -/
/-- what a call of a built-in asks, by data -/
def rDN (K : PySem.W.Frag) (φ : List D → Option D) (mo : Md) : List V → Hp → VK → Prop := fun vs H Q => ∃ ds r, RepAll (rdL K H) ds vs ∧ φ ds = some r ∧ (Sz K H → Res K mo r H Q)
def cN (φ : List D → Option D) (f : CA) : CE := fun δ => (f δ).bind fun p => (φ p.1).bind fun r => some (r, p.2)
theorem td_N {φ : List D → Option D} {f : CA} {ms : List Md} (σ : L2.St) (H : Hp) (Q : VK) (K : PySem.W.Frag) (h : TD K B M w (cN φ f) mo σ H Q) : TA' K B M w f ms σ H fun vs H1 => rDN K φ mo vs H1 Q := by
  obtain ⟨δ, o, r, δ', hR, hf, k⟩ := h
  obtain ⟨⟨ds, δ1⟩, h1, hf⟩ := Option.bind_eq_some_iff.mp hf
  obtain ⟨r', h2, hf⟩ := Option.bind_eq_some_iff.mp hf
  cases hf
  exact ⟨δ, o, ds, _, hR, h1, fun vs H1 o1 k1 R1 s1 a1 => ⟨ds, r, a1.lent, h2, fun _ z H3 p3 k3 r3 f3 c3 =>
    k z H3 o1 p3 (k1.trans s1 (Kp.all k3)) (R1.keep k3) s1 (r3 B) (fun a q => ⟨k1.there a (f3 a q), R1.fresh (f3 a q)⟩) c3⟩⟩
end
end Dn
/-! Den8: statements, targets, loops, the call of a def by its denotation. -/
namespace Dn
open PySem PySem.Spec PyProof.Rows L2

/-! ### calls of defs -/
/-- a def's promise by its denotation F: parameters held by ms, result by mr -/
def spD (K : PySem.W.Frag) (ms : List Md) (mr : Md) (F : List D → Option D) : Sp := fun vs H Q _ => ∃ ds r, ARep K H (fun a => ∃ u, H a = some u) ms ds vs ∧ F ds = some r ∧ Res K mr r H Q
abbrev FnD (P : Program) (w : World) (K : PySem.W.Frag) (mg : Str → Option Value) (base : Heap) (k : Nat) (f : Addr) (fd : FuncData) (ps : List Str) (ms : List Md) (mr : Md) (F : List D → Option D) : Prop :=
  FnOk P w K mg base CX0 k f fd ps (spD K ms mr F)
def aw1 : Md → Md → Bool
  | .frz, .frz => true
  | _, .sta => true
  | _, _ => false
def awOk : List Md → List Md → Bool
  | [], [] => true
  | m :: ms, n :: ns => aw1 m n && awOk ms ns
  | _, _ => false
theorem rdL_A {K : PySem.W.Frag} {H : Hp} : (rdL K H).le (rdA K H fun a => ∃ u, H a = some u) := by
  refine ⟨fun a vs h => ⟨h, ?_⟩, fun _ _ h => h, fun a xs h => ⟨h, ?_⟩, rfl⟩
  · rcases h with (h | ⟨o, h⟩) | h
    · exact .inl ⟨_, h⟩
    · exact .inl ⟨_, h⟩
    · exact .inr (.inr h)
  · rcases h with h | ⟨o, h⟩
    · exact .inl ⟨_, h⟩
    · exact .inl ⟨_, h⟩
theorem ARep.weak {K : PySem.W.Frag} {H : Hp} {B : Addr → Prop} : ∀ {ms ns : List Md} {ds : List D} {vs : List V}, ARep K H B ms ds vs → awOk ms ns = true → ARep K H (fun a => ∃ u, H a = some u) ns ds vs
  | _, [], _, _, .nil, _ => .nil
  | _, _ :: _, _, _, .nil, h => by simp [awOk] at h
  | _, [], _, _, .cons _ _, h => by simp [awOk] at h
  | _, n :: ns, _, _, .cons (m := m) a b, h => by
    simp only [awOk, Bool.and_eq_true] at h
    refine .cons (p := noP) ?_ (ARep.weak b h.2)
    cases n with
    | frz =>
      cases m with
      | frz => exact a
      | _ => simp [aw1] at h
    | sta => exact Rep.mono rdL_A a.lent
    | _ => cases m <;> simp [aw1] at h
section
variable {X : Cx} {B : Addr → Prop} {M : MEnv} {w wa wb wc : Bool} {a b c e : Expr} {es rest : List Expr} {f g : CE} {m ma mb mo : Md} {pos p : Pos}
theorem td_call {ms ns : List Md} {fa : CA} {F : List D → Option D} {E : XK} (K : PySem.W.Frag) (hw : awOk ms ns = true) (σ : L2.St) (H : Hp) (Q : VK) (h : TD K B M w (cN F fa) mo σ H Q) :
    TA' K B M w fa ms σ H fun vs H1 => spD K ns mo F (vs ++ []) H1 Q E := by
  obtain ⟨δ, o, r, δ', hR, hf, k⟩ := h
  obtain ⟨⟨ds, δ1⟩, h1, hf⟩ := Option.bind_eq_some_iff.mp hf
  obtain ⟨r', h2, hf⟩ := Option.bind_eq_some_iff.mp hf
  cases hf
  exact ⟨δ, o, ds, _, hR, h1, fun vs H1 o1 k1 R1 s1 a1 => ⟨ds, r, by rw [List.append_nil]; exact a1.weak hw, h2, fun z H3 p3 k3 r3 f3 c3 =>
    k z H3 o1 p3 (k1.trans s1 (Kp.all k3)) (R1.keep k3) s1 (r3 B) (fun a q => ⟨k1.there a (f3 a q), R1.fresh (f3 a q)⟩) c3⟩⟩
theorem de_call {k : Nat} {fn : Addr} {fd : FuncData} {ps : List Str} {ms ns : List Md} {fa : CA} {F : List D → Option D} {x : Str} (G : FnD X.prog X.w X.K X.mg X.base k fn fd ps ns mo F) (hr : Room k X.A) (hw : awOk ms ns = true)
    (hg : Gl X x) (hx : X.mg x = some (.ref fn)) (hk : PySem.W.keepIn X.K (.ref fn) = true) (hb : Binds X.K fd ps []) (ha : DA X B M w (e :: es) fa ms)
    (hdb : (x == ("__debug__" : Str)) = false) (he : starEach (e :: es) X.env = (false, eval e X.env) :: starEach es X.env) (hpl : (backTo pos (starEach es X.env)).any (·.1) = false) :
    DE X B M w (.Call (.Name x p) (e :: es) [] pos) (cN F fa) mo :=
  PE.mono (pe_call G hr hg hx hk hb .nil pass0 ha hdb he hpl) fun σ H Q h => td_call X.K hw σ H Q h
theorem de_call0 {k : Nat} {fn : Addr} {fd : FuncData} {ps : List Str} {F : List D → Option D} {x : Str} (G : FnD X.prog X.w X.K X.mg X.base k fn fd ps [] mo F) (hr : Room k X.A)
    (hg : Gl X x) (hx : X.mg x = some (.ref fn)) (hk : PySem.W.keepIn X.K (.ref fn) = true) (hb : Binds X.K fd ps []) (hdb : (x == ("__debug__" : Str)) = false) :
    DE X B M false (.Call (.Name x p) [] [] pos) (cN F aNil) mo :=
  PE.mono (pe_call0 G hr hg hx hk hb .nil pass0 hdb) fun σ H Q h => by
    obtain ⟨δ, o, r, δ', hR, hf, k⟩ := h
    obtain ⟨⟨ds, δ1⟩, h1, hf⟩ := Option.bind_eq_some_iff.mp hf
    obtain ⟨r', h2, hf⟩ := Option.bind_eq_some_iff.mp hf
    cases hf
    cases h1
    exact ⟨[], r, .nil, h2, fun z H3 p3 k3 r3 f3 c3 => k z H3 o p3 (Kp.all k3) (hR.keep k3) (Sub.refl _ _) (r3 B) (fun a q => ⟨f3 a q, hR.fresh (f3 a q)⟩) c3⟩
end

/-! ### statements -/
inductive Fl where
  | nx (δ : Env) | rt (d : D) (δ : Env) | bk (δ : Env) | ct (δ : Env)
abbrev CS := Env → Option Fl
/-- what surrounds a statement: the mode of what is returned, the modes at a break, at a continue, at a return (what callers see) -/
structure Sc where
  mr : Md
  Mb : MEnv
  Mc : MEnv
  Mr : MEnv
/-- what may be returned: new, or what a slot owned -/
def SD (K : PySem.W.Frag) (B : Addr → Prop) (o : Fp) (H : Hp) (S : Sc) (M' : MEnv) (D' : Ends) : Fl → Prop
  | .nx δ' => ∀ σ' H' o', Kp true o H H' → Sub o H o' → R K B H' σ' δ' M' o' → D'.nx σ' H'
  | .bk δ' => ∀ σ' H' o', Kp true o H H' → Sub o H o' → R K B H' σ' δ' S.Mb o' → D'.bk σ' H'
  | .ct δ' => ∀ σ' H' o', Kp true o H H' → Sub o H o' → R K B H' σ' δ' S.Mc o' → D'.ct σ' H'
  | .rt d δ' => ∀ v σ' H' o' p, Kp true o H H' → Sub o H o' → R K B H' σ' δ' S.Mr o' → RRep K H' B S.mr d v p → (∀ a, p a → (o.any a ∨ H a = none) ∧ ¬ o'.any a) → (∀ a, p a → ∃ u, H' a = some u ∧ Mut (some u)) → D'.rt v H'
def TS' (K : PySem.W.Frag) (B : Addr → Prop) (S : Sc) (M : MEnv) (g : CS) (M' : MEnv) : TS := fun D' σ H => ∃ δ o fl, R K B H σ δ M o ∧ g δ = some fl ∧ SD K B o H S M' D' fl
abbrev DS (X : Cx) (B : Addr → Prop) (S : Sc) (M : MEnv) (st : Stmt) (g : CS) (M' : MEnv) : Prop := PS X st (TS' X.K B S M g M')
abbrev DSs (X : Cx) (B : Addr → Prop) (S : Sc) (M : MEnv) (sts : List Stmt) (g : CS) (M' : MEnv) : Prop := PSs X sts (TS' X.K B S M g M')

theorem SD.mono {K : PySem.W.Frag} {B : Addr → Prop} {o o1 : Fp} {H H1 : Hp} {S : Sc} {M' : MEnv} {D' : Ends} {fl : Fl} (h : SD K B o H S M' D' fl) (k : Kp true o H H1) (s : Sub o H o1) : SD K B o1 H1 S M' D' fl := by
  cases fl with
  | nx δ' => exact fun σ' H' o' k' s' r => h σ' H' o' (k.trans s k') (s.trans k s') r
  | bk δ' => exact fun σ' H' o' k' s' r => h σ' H' o' (k.trans s k') (s.trans k s') r
  | ct δ' => exact fun σ' H' o' k' s' r => h σ' H' o' (k.trans s k') (s.trans k s') r
  | rt d δ' =>
    refine fun v σ' H' o' p k' s' r rr f c => h v σ' H' o' p (k.trans s k') (s.trans k s') r rr (fun a q => ⟨?_, (f a q).2⟩) c
    rcases (f a q).1 with z | z
    · exact s a z
    · exact .inr (k.there a z)
section
variable {X : Cx} {B : Addr → Prop} {S : Sc} {M M1 M2 M' : MEnv} {st : Stmt} {rest : List Stmt} {e c : Expr} {f : CE} {g h : CS} {m : Md} {w : Bool} {pos : Pos}
def skip : CS := fun δ => some (.nx δ)
def seqS (g h : CS) : CS := fun δ => (g δ).bind fun fl => match fl with | .nx δ' => h δ' | fl => some fl
theorem dss_nil : DSs X B S M [] skip M := PSs.mono pss_nil fun D' σ H q => by
  obtain ⟨δ, o, fl, hR, hf, k⟩ := q
  cases hf
  exact k σ H o (Kp.refl _ _ _) (Sub.refl _ _) hR
theorem dss_cons (h1 : DS X B S M st g M1) (h2 : DSs X B S M1 rest h M2) : DSs X B S M (st :: rest) (seqS g h) M2 := PSs.mono (pss_cons h1 h2) fun D' σ H q => by
  obtain ⟨δ, o, fl, hR, hf, k⟩ := q
  obtain ⟨fl1, h1, hf⟩ := Option.bind_eq_some_iff.mp hf
  refine ⟨δ, o, fl1, hR, h1, ?_⟩
  cases fl1 with
  | nx δ' => exact fun σ' H' o' k1 s1 R1 => ⟨δ', o', fl, R1, hf, k.mono k1 s1⟩
  | bk δ' => cases hf; exact k
  | ct δ' => cases hf; exact k
  | rt d δ' => cases hf; exact k
theorem dss_one (h1 : DS X B S M st g M1) : DSs X B S M [st] g M1 := pss_one h1

end
end Dn
/-! Den9: modes weakened, targets, assignments. -/
namespace Dn
open PySem PySem.Spec PyProof.Rows L2

/-! ### modes weakened -/
inductive Wk1 : Option Md → Option Md → Prop
  | same (m : Option Md) : Wk1 m m
  | dead (m : Option Md) : Wk1 m none
  | fs : Wk1 (some .frz) (some .sta)
inductive WkE : MEnv → MEnv → Prop
  | nil {M : MEnv} : WkE M []
  | cons {m n : Option Md} {M N : MEnv} : Wk1 m n → WkE M N → WkE (m :: M) (n :: N)
theorem WkE.refl : ∀ M : MEnv, WkE M M
  | [] => .nil
  | m :: M => .cons (.same m) (WkE.refl M)
theorem WkE.get : ∀ {M N : MEnv} {i : Nat} {n : Md}, WkE M N → N[i]? = some (some n) → ∃ m, M[i]? = some (some m) ∧ Wk1 (some m) (some n)
  | _, _, _, _, .nil, e => by simp at e
  | _, _, 0, n, .cons a b, e => by
    simp at e
    subst e
    cases a with
    | same => exact ⟨n, by simp, .same _⟩
    | fs => exact ⟨_, by simp, .fs⟩
  | _, _, i + 1, n, .cons a b, e => by
    obtain ⟨m, h1, h2⟩ := WkE.get (i := i) (n := n) b (by simpa using e)
    exact ⟨m, by simpa using h1, h2⟩
/-- does a mode write -/
def Md.wr : Md → Bool | .own => true | .io _ => true | _ => false
/-- the footprints of what is still one's own -/
def cutO (o : Fp) (N : MEnv) : Fp := fun i a => (∃ n, N[i]? = some (some n) ∧ n.wr = true) ∧ o i a
theorem cutO_le {o : Fp} {N : MEnv} {a : Addr} (h : (cutO o N).any a) : o.any a := let ⟨i, _, q⟩ := h; ⟨i, q⟩
theorem R.weak {K : PySem.W.Frag} {B : Addr → Prop} {H : Hp} {σ : L2.St} {δ : Env} {M N : MEnv} {o : Fp} (r : R K B H σ δ M o) (h : WkE M N) : R K B H σ δ N (cutO o N) := by
  refine ⟨r.len, fun i j a h1 h2 => r.dis i j a h1.2 h2.2, fun i a h => r.cell i a h.2, fun a z => r.sep a (cutO_le z), r.dom, fun i n d h1 h2 => ?_⟩
  obtain ⟨m, e, hw⟩ := h.get h1
  obtain ⟨v, ev, q⟩ := r.at_ i m d e h2
  refine ⟨v, ev, ?_⟩
  cases hw with
  | same =>
    cases n with
    | own => exact Own.keep (Own.sup q fun a z => ⟨⟨_, h1, rfl⟩, z⟩) fun a u e _ => e
    | io b => exact ⟨Own.sup q.1 fun a z => ⟨⟨_, h1, rfl⟩, z⟩, q.2⟩
    | len => exact q.elim
    | sta => exact q
    | frz => exact q
  | fs => exact Rep.mono rdF_A q
theorem SD.cut {K : PySem.W.Frag} {B : Addr → Prop} {o o1 : Fp} {H : Hp} {S : Sc} {M' : MEnv} {D' : Ends} {fl : Fl} (h : SD K B o H S M' D' fl) (c : ∀ a, o1.any a → o.any a) : SD K B o1 H S M' D' fl := by
  have k : ∀ {H' : Hp}, Kp true o1 H H' → Kp true o H H' := fun k => ⟨fun a u e n => k.keep a u e fun z q => n z (c a q), k.there⟩
  have s : ∀ {o' : Fp}, Sub o1 H o' → Sub o H o' := fun s a z => (s a z).imp (c a) id
  cases fl with
  | nx δ' => exact fun σ' H' o' k' s' r => h σ' H' o' (k k') (s s') r
  | bk δ' => exact fun σ' H' o' k' s' r => h σ' H' o' (k k') (s s') r
  | ct δ' => exact fun σ' H' o' k' s' r => h σ' H' o' (k k') (s s') r
  | rt d δ' => exact fun v σ' H' o' p k' s' r rr f t => h v σ' H' o' p (k k') (s s') r rr (fun a q => ⟨(f a q).1.imp (c a) id, (f a q).2⟩) t
section
variable {X : Cx} {B : Addr → Prop} {S : Sc} {M M1 M2 M' N : MEnv} {st : Stmt} {sts rest : List Stmt} {e c : Expr} {f : CE} {g h : CS} {m mi : Md} {w : Bool} {pos : Pos}
theorem ts_weak {K : PySem.W.Frag} (hw : WkE M N) (D' : Ends) (σ : L2.St) (H : Hp) (q : TS' K B S M g M' D' σ H) : TS' K B S N g M' D' σ H := by
  obtain ⟨δ, o, fl, hR, hf, k⟩ := q
  exact ⟨δ, cutO o N, fl, hR.weak hw, hf, k.cut fun a z => cutO_le z⟩
theorem DS.weak (hw : WkE M N) (h : DS X B S N st g M') : DS X B S M st g M' := PS.mono h (ts_weak hw)
theorem DSs.weak (hw : WkE M N) (h : DSs X B S N sts g M') : DSs X B S M sts g M' := PSs.mono h (ts_weak hw)
theorem ts_end {K : PySem.W.Frag} (hw : WkE M' N) (D' : Ends) (σ : L2.St) (H : Hp) (q : TS' K B S M g N D' σ H) : TS' K B S M g M' D' σ H := by
  obtain ⟨δ, o, fl, hR, hf, k⟩ := q
  refine ⟨δ, o, fl, hR, hf, ?_⟩
  cases fl with
  | nx δ' => exact fun σ' H' o' k' s' r => k σ' H' (cutO o' N) k' (fun a z => s' a (cutO_le z)) (r.weak hw)
  | bk δ' => exact k
  | ct δ' => exact k
  | rt d δ' => exact k
/-- behind a statement modes may be forgotten -/
theorem DS.fin (hw : WkE M' N) (h : DS X B S M st g M') : DS X B S M st g N := PS.mono h fun D' σ H q => ts_end hw D' σ H q
theorem DSs.fin (hw : WkE M' N) (h : DSs X B S M sts g M') : DSs X B S M sts g N := PSs.mono h fun D' σ H q => ts_end hw D' σ H q
end
end Dn
/-! Den10: freezing a slot, targets, assignments, return, if, while. -/
namespace Dn
open PySem PySem.Spec PyProof.Rows L2

/-! ### a slot stored -/
def setO (o : Fp) (i : Nat) (p : Addr → Prop) : Fp := fun j a => if j = i then p a else o j a
theorem setO_any {o : Fp} {i : Nat} {p : Addr → Prop} {a : Addr} (h : (setO o i p).any a) : o.any a ∨ p a := by
  obtain ⟨j, h⟩ := h
  unfold setO at h
  split at h
  · exact .inr h
  · exact .inl ⟨j, h⟩
/-- what a slot of this mode may write -/
def fpOf (m : Md) (p : Addr → Prop) : Addr → Prop := if m.wr = true then p else noP
theorem R.set {K : PySem.W.Frag} {B : Addr → Prop} {H : Hp} {σ : L2.St} {δ : Env} {M : MEnv} {o : Fp} {i : Nat} {m : Md} {d : D} {v : V} {p : Addr → Prop} (r : R K B H σ δ M o) (h : RRep K H B m d v p) (hd : ∀ a, p a → ¬ o.any a) (hc : ∀ a, p a → ∃ u, H a = some u ∧ Mut (some u))
    (hB : ∀ a, p a → ¬ B a) (hi : i < σ.length) (hm : okS m = true) : R K B H (σ.set i (some v)) (δ.set i (some d)) (M.set i (some m)) (setO o i (fpOf m p)) := by
  have le : ∀ a, fpOf m p a → p a := fun a z => by
    unfold fpOf at z
    split at z
    · exact z
    · exact z.elim
  refine ⟨by rw [List.length_set, List.length_set]; exact r.len, fun j k a h1 h2 => ?_, fun j a h1 => ?_, fun a z => ?_, r.dom, fun j m' d' h1 h2 => ?_⟩
  · unfold setO at h1 h2
    split at h1
    · split at h2
      · rename_i e1 e2; rw [e1, e2]
      · exact absurd ⟨k, h2⟩ (hd a (le a h1))
    · split at h2
      · exact absurd ⟨j, h1⟩ (hd a (le a h2))
      · exact r.dis j k a h1 h2
  · unfold setO at h1
    split at h1
    · exact hc a (le a h1)
    · exact r.cell j a h1
  · rcases setO_any z with z | z
    · exact r.sep a z
    · exact hB a (le a z)
  · by_cases e : j = i
    · subst e
      have hj : j < δ.length := by rw [← r.len]; exact hi
      rw [List.getElem?_set_self hj] at h2
      have hM : j < M.length := by
        have := (List.getElem?_eq_some_iff.mp h1).1
        rw [List.length_set] at this
        exact this
      rw [List.getElem?_set_self hM] at h1
      cases h1
      cases h2
      refine ⟨v, List.getElem?_set_self hi, ?_⟩
      have es : setO o j (fpOf m p) j = fpOf m p := by funext a; unfold setO; rw [if_pos rfl]
      rw [es]
      cases m with
      | own => exact h
      | io b => exact h
      | len => cases hm
      | sta => exact h
      | frz => exact h
    · rw [List.getElem?_set_ne (Ne.symm e)] at h1 h2
      obtain ⟨v', e', q⟩ := r.at_ j m' d' h1 h2
      refine ⟨v', by rw [List.getElem?_set_ne (Ne.symm e)]; exact e', ?_⟩
      have es : setO o i (fpOf m p) j = o j := by funext a; unfold setO; rw [if_neg e]
      rw [es]
      exact q
section
variable {X : Cx} {B : Addr → Prop} {S : Sc} {M M1 M2 M' N : MEnv} {st : Stmt} {sts rest body orelse : List Stmt} {e c tg : Expr} {f : CE} {g h : CS} {m mi : Md} {w wc : Bool} {pos : Pos}

/-! ### freezing a slot -/
theorem DS.frzAt {i : Nat} (hM : M[i]? = some (some .own)) (h : DS X B S (M.set i (some .frz)) st g M') : DS X B S M st g M' := by
  refine ⟨fun pins s σ H D' I q => ?_⟩
  obtain ⟨δ, o, fl, hR, hf, k⟩ := q
  -- what the slot holds
  have hlen : i < M.length := (List.getElem?_eq_some_iff.mp hM).1
  have go : ∀ (H2 : Hp), L2.Inv X pins σ H2 s → Lk H H2 → (∀ a u, H a = some u → ¬ o i a → H2 a = some u) → (∀ a, H2 a = none → H a = none) → (∀ d v, δ[i]? = some (some d) → σ[i]? = some (some v) → Own X.K H d v (o i) → Rep (rdF X.K H2) d v) →
      wpAny (model X.prog X.w) X.A (exec st X.env) (SP X pins D') X.xe s := by
    intro H2 I2 l2 k2 t2 hrep
    have o1 : Fp := fun j a => j ≠ i ∧ o j a
    refine h.run pins s σ H2 D' I2 ⟨δ, fun j a => j ≠ i ∧ o j a, fl, ⟨hR.len, fun j k a h1 h2 => hR.dis j k a h1.2 h2.2, fun j a h1 => ?_, fun a ⟨j, z⟩ => hR.sep a ⟨j, z.2⟩, fun a z => ?_, fun j m d h1 h2 => ?_⟩, hf, ?_⟩
    · obtain ⟨u, e, mu⟩ := hR.cell j a h1.2
      exact ⟨u, k2 a u e fun z => h1.1 (hR.dis j i a h1.2 z), mu⟩
    · obtain ⟨u, e⟩ := hR.dom a z
      exact ⟨u, k2 a u e fun y => hR.sep a ⟨i, y⟩ z⟩
    · by_cases ej : j = i
      · subst ej
        rw [List.getElem?_set_self hlen] at h1
        cases h1
        obtain ⟨v, ev, q⟩ := hR.at_ j .own d hM h2
        exact ⟨v, ev, hrep d v h2 ev q⟩
      · rw [List.getElem?_set_ne (Ne.symm ej)] at h1
        obtain ⟨v, ev, q⟩ := hR.at_ j m d h1 h2
        have kk : ∀ a u, H a = some u → (o j a ∨ ¬ Mut (some u)) → H2 a = some u := fun a u e n => by
          rcases n with n | n
          · exact k2 a u e fun z => ej (hR.dis j i a n z)
          · exact l2.fix a u e n
        refine ⟨v, ev, ?_⟩
        cases m with
        | len => exact q.elim
        | sta => exact Rep.mono (rdA_lk l2) q
        | frz => exact Rep.mono (rdF_lk l2) q
        | own => exact Own.sup (Own.keep q kk) fun a z => ⟨ej, z⟩
        | io b => exact ⟨Own.sup (Own.keep q.1 kk) fun a z => ⟨ej, z⟩, q.2⟩
    · have kp : ∀ {H' : Hp}, Kp true (fun j a => j ≠ i ∧ o j a) H2 H' → Kp true o H H' := fun {H'} z =>
        ⟨fun a u e n => z.keep a u (k2 a u e fun y => n rfl ⟨i, y⟩) fun _ ⟨j, y⟩ => n rfl ⟨j, y.2⟩, fun a e => t2 a (z.there a e)⟩
      have sb : ∀ {o' : Fp}, Sub (fun j a => j ≠ i ∧ o j a) H2 o' → Sub o H o' := fun {o'} z a y => (z a y).imp (fun ⟨j, x⟩ => ⟨j, x.2⟩) (t2 a)
      cases fl with
      | nx δ' => exact fun σ' H' o' k' s' r => k σ' H' o' (kp k') (sb s') r
      | bk δ' => exact fun σ' H' o' k' s' r => k σ' H' o' (kp k') (sb s') r
      | ct δ' => exact fun σ' H' o' k' s' r => k σ' H' o' (kp k') (sb s') r
      | rt d δ' => exact fun v σ' H' o' p k' s' r rr f c => k v σ' H' o' p (kp k') (sb s') r rr (fun a q => ⟨(f a q).1.imp (fun ⟨j, x⟩ => ⟨j, x.2⟩) (t2 a), (f a q).2⟩) c
  cases hd : δ[i]? with
  | none => exact go H I (Lk.refl H) (fun _ _ e _ => e) (fun _ e => e) fun d v e _ _ => by rw [hd] at e; cases e
  | some od =>
    cases od with
    | none => exact go H I (Lk.refl H) (fun _ _ e _ => e) (fun _ e => e) fun d v e _ _ => by rw [hd] at e; cases e
    | some d =>
      obtain ⟨v, ev, q⟩ := hR.at_ i .own d hM hd
      obtain ⟨H2, I2, r2, l2, k2, t2⟩ := own_frz I q
      refine go H2 I2 l2 k2 t2 fun d' v' e1 e2 _ => ?_
      rw [hd] at e1; cases e1
      rw [ev] at e2; cases e2
      exact r2

theorem DSs.frzAt {i : Nat} (hM : M[i]? = some (some .own)) (h : DSs X B S (M.set i (some .frz)) sts g M') : DSs X B S M sts g M' := by
  refine ⟨fun pins s σ H D' I q => ?_⟩
  obtain ⟨δ, o, fl, hR, hf, k⟩ := q
  -- what the slot holds
  have hlen : i < M.length := (List.getElem?_eq_some_iff.mp hM).1
  have go : ∀ (H2 : Hp), L2.Inv X pins σ H2 s → Lk H H2 → (∀ a u, H a = some u → ¬ o i a → H2 a = some u) → (∀ a, H2 a = none → H a = none) → (∀ d v, δ[i]? = some (some d) → σ[i]? = some (some v) → Own X.K H d v (o i) → Rep (rdF X.K H2) d v) →
      wpAny (model X.prog X.w) X.A (execs sts X.env) (SP X pins D') X.xe s := by
    intro H2 I2 l2 k2 t2 hrep
    have o1 : Fp := fun j a => j ≠ i ∧ o j a
    refine h.run pins s σ H2 D' I2 ⟨δ, fun j a => j ≠ i ∧ o j a, fl, ⟨hR.len, fun j k a h1 h2 => hR.dis j k a h1.2 h2.2, fun j a h1 => ?_, fun a ⟨j, z⟩ => hR.sep a ⟨j, z.2⟩, fun a z => ?_, fun j m d h1 h2 => ?_⟩, hf, ?_⟩
    · obtain ⟨u, e, mu⟩ := hR.cell j a h1.2
      exact ⟨u, k2 a u e fun z => h1.1 (hR.dis j i a h1.2 z), mu⟩
    · obtain ⟨u, e⟩ := hR.dom a z
      exact ⟨u, k2 a u e fun y => hR.sep a ⟨i, y⟩ z⟩
    · by_cases ej : j = i
      · subst ej
        rw [List.getElem?_set_self hlen] at h1
        cases h1
        obtain ⟨v, ev, q⟩ := hR.at_ j .own d hM h2
        exact ⟨v, ev, hrep d v h2 ev q⟩
      · rw [List.getElem?_set_ne (Ne.symm ej)] at h1
        obtain ⟨v, ev, q⟩ := hR.at_ j m d h1 h2
        have kk : ∀ a u, H a = some u → (o j a ∨ ¬ Mut (some u)) → H2 a = some u := fun a u e n => by
          rcases n with n | n
          · exact k2 a u e fun z => ej (hR.dis j i a n z)
          · exact l2.fix a u e n
        refine ⟨v, ev, ?_⟩
        cases m with
        | len => exact q.elim
        | sta => exact Rep.mono (rdA_lk l2) q
        | frz => exact Rep.mono (rdF_lk l2) q
        | own => exact Own.sup (Own.keep q kk) fun a z => ⟨ej, z⟩
        | io b => exact ⟨Own.sup (Own.keep q.1 kk) fun a z => ⟨ej, z⟩, q.2⟩
    · have kp : ∀ {H' : Hp}, Kp true (fun j a => j ≠ i ∧ o j a) H2 H' → Kp true o H H' := fun {H'} z =>
        ⟨fun a u e n => z.keep a u (k2 a u e fun y => n rfl ⟨i, y⟩) fun _ ⟨j, y⟩ => n rfl ⟨j, y.2⟩, fun a e => t2 a (z.there a e)⟩
      have sb : ∀ {o' : Fp}, Sub (fun j a => j ≠ i ∧ o j a) H2 o' → Sub o H o' := fun {o'} z a y => (z a y).imp (fun ⟨j, x⟩ => ⟨j, x.2⟩) (t2 a)
      cases fl with
      | nx δ' => exact fun σ' H' o' k' s' r => k σ' H' o' (kp k') (sb s') r
      | bk δ' => exact fun σ' H' o' k' s' r => k σ' H' o' (kp k') (sb s') r
      | ct δ' => exact fun σ' H' o' k' s' r => k σ' H' o' (kp k') (sb s') r
      | rt d δ' => exact fun v σ' H' o' p k' s' r rr f c => k v σ' H' o' p (kp k') (sb s') r rr (fun a q => ⟨(f a q).1.imp (fun ⟨j, x⟩ => ⟨j, x.2⟩) (t2 a), (f a q).2⟩) c
  cases hd : δ[i]? with
  | none => exact go H I (Lk.refl H) (fun _ _ e _ => e) (fun _ e => e) fun d v e _ _ => by rw [hd] at e; cases e
  | some od =>
    cases od with
    | none => exact go H I (Lk.refl H) (fun _ _ e _ => e) (fun _ e => e) fun d v e _ _ => by rw [hd] at e; cases e
    | some d =>
      obtain ⟨v, ev, q⟩ := hR.at_ i .own d hM hd
      obtain ⟨H2, I2, r2, l2, k2, t2⟩ := own_frz I q
      refine go H2 I2 l2 k2 t2 fun d' v' e1 e2 _ => ?_
      rw [hd] at e1; cases e1
      rw [ev] at e2; cases e2
      exact r2

/-! ### targets -/
abbrev CG := D → Env → Option Env
/-- σ and σ' differ at the slots ss alone -/
def Off (ss : List Nat) (σ σ' : L2.St) : Prop := σ'.length = σ.length ∧ ∀ j, j ∉ ss → σ'[j]? = σ[j]?
def TG' (K : PySem.W.Frag) (B : Addr → Prop) (M : MEnv) (mi : Md) (t : CG) (M' : MEnv) (ss : List Nat) : TG := fun v σ H Q => ∃ δ o d p δ', R K B H σ δ M o ∧ RRep K H B mi d v p ∧ (∀ a, p a → ¬ o.any a ∧ ¬ B a) ∧ (∀ a, p a → ∃ u, H a = some u ∧ Mut (some u)) ∧ t d δ = some δ' ∧
  ∀ σ' o', R K B H σ' δ' M' o' → (∀ a, o'.any a → o.any a ∨ p a) → Off ss σ σ' → Q σ' H
abbrev DG (X : Cx) (B : Addr → Prop) (M : MEnv) (mi : Md) (tg : Expr) (t : CG) (M' : MEnv) (ss : List Nat) : Prop := PG X tg (TG' X.K B M mi t M' ss)
theorem PG.mono {X : Cx} {e : Expr} {t t' : TG} (h : PG X e t) (i : ∀ v σ H Q, t' v σ H Q → t v σ H Q) : PG X e t' := ⟨fun pins s σ H v u Q I r q => h.run pins s σ H v u Q I r (i v σ H Q q)⟩
theorem PGs.mono {X : Cx} {e : List Expr} {t t' : TGs} (h : PGs X e t) (i : ∀ v σ H Q, t' v σ H Q → t v σ H Q) : PGs X e t' := ⟨fun pins s σ H v u Q I r q => h.run pins s σ H v u Q I r (i v σ H Q q)⟩
def stS (i : Nat) : CG := fun d δ => if i < δ.length then some (δ.set i (some d)) else none
theorem dg_name {i : Nat} (hm : okS mi = true) (h : PG X tg (gName i)) : DG X B M mi tg (stS i) (M.set i (some mi)) [i] := PG.mono h fun v σ H Q q => by
  obtain ⟨δ, o, d, p, δ', hR, r, f, c, ht, k⟩ := q
  unfold stS at ht
  split at ht
  · rename_i hi
    cases ht
    refine k _ _ (hR.set r (fun a z => (f a z).1) c (fun a z => (f a z).2) (by rw [hR.len]; exact hi) hm) (fun a z => ?_) ⟨List.length_set, fun j hj => ?_⟩
    · rcases setO_any z with z | z
      · exact .inl z
      · unfold fpOf at z
        split at z
        · exact .inr z
        · exact z.elim
    · exact List.getElem?_set_ne fun e => hj (by rw [e]; exact List.mem_cons_self)
  · cases ht
def TGs' (K : PySem.W.Frag) (B : Addr → Prop) (M : MEnv) (mi : Md) (t : List D → Env → Option Env) (M' : MEnv) (ss : List Nat) : TGs := fun vs σ H Q => ∃ δ o ds δ' r, R K B H σ δ M o ∧ RepAll r ds vs ∧ (∀ d u, Rep r d u → RRep K H B mi d u noP) ∧ t ds δ = some δ' ∧
  ∀ σ' o', R K B H σ' δ' M' o' → (∀ a, o'.any a → o.any a) → Off ss σ σ' → Q σ' H
abbrev DGs (X : Cx) (B : Addr → Prop) (M : MEnv) (mi : Md) (tgs : List Expr) (t : List D → Env → Option Env) (M' : MEnv) (ss : List Nat) : Prop := PGs X tgs (TGs' X.K B M mi t M' ss)
def tNil' : List D → Env → Option Env := fun ds δ => match ds with | [] => some δ | _ => none
def tCons' (t : CG) (u : List D → Env → Option Env) : List D → Env → Option Env := fun ds δ => match ds with | d :: ds => (t d δ).bind fun δ' => u ds δ' | [] => none
theorem dgs_nil : DGs X B M mi [] tNil' M [] := PGs.mono pgs_nil fun vs σ H Q q => by
  obtain ⟨δ, o, ds, δ', r, hR, hr, hm, ht, k⟩ := q
  cases hr with
  | nil =>
    cases ht
    exact ⟨rfl, k σ o hR (fun _ z => z) ⟨rfl, fun _ _ => rfl⟩⟩
  | cons _ _ => cases ht
theorem dgs_cons {t : CG} {u : List D → Env → Option Env} {ss ts : List Nat} {es : List Expr} (h1 : DG X B M mi e t M1 ss) (h2 : DGs X B M1 mi es u M2 ts) (hs : (assignEach (e :: es) X.env).map (·.2) = assign e X.env :: (assignEach es X.env).map (·.2)) : DGs X B M mi (e :: es) (tCons' t u) M2 (ss ++ ts) :=
  PGs.mono (pgs_cons h1 h2 hs) fun vs σ H Q q => by
    obtain ⟨δ, o, ds, δ', r, hR, hr, hm, ht, k⟩ := q
    cases hr with
    | nil => cases ht
    | cons ra rb =>
      obtain ⟨δ1, h1, ht⟩ := Option.bind_eq_some_iff.mp ht
      refine ⟨_, _, rfl, δ, o, _, noP, δ1, hR, hm _ _ ra, fun _ z => z.elim, fun _ z => z.elim, h1, fun σ1 o1 R1 s1 off1 => ⟨δ1, o1, _, δ', r, R1, rb, hm, ht, fun σ2 o2 R2 s2 off2 => ?_⟩⟩
      refine k σ2 o2 R2 (fun a z => ?_) ⟨off2.1.trans off1.1, fun j hj => ?_⟩
      · rcases s1 a (s2 a z) with q | q
        · exact q
        · exact q.elim
      · rw [List.mem_append, not_or] at hj
        exact (off2.2 j hj.2).trans (off1.2 j hj.1)
def tgT (n : Nat) (t : List D → Env → Option Env) : CG := fun d δ => match d with | .tuple ds => if ds.length = n then t ds δ else none | _ => none
theorem dg_tup {es : List Expr} {kk n : Nat} {t : List D → Env → Option Env} {ss : List Nat} (hc : X.calm = true) (h : DGs X B M (ptM mi) es t M' ss) (hn : (assignEach es X.env).length = n) (hst : (assignEach es X.env).findIdx? (·.1) = none) : DG X B M mi (.Tuple es kk pos) (tgT n t) M' ss :=
  PG.mono (pg_tup hc h hn hst) fun v σ H Q q => by
    obtain ⟨δ, o, d, p, δ', hR, r, f, c, ht, k⟩ := q
    cases d <;> first | (cases ht; done) | skip
    rename_i ds
    simp only [tgT] at ht
    split at ht
    · rename_i hl
      obtain ⟨a, vs, rd, rfl, hs, hv, hm⟩ := r.seqT
      exact ⟨a, vs, rfl, hs, by rw [← hv.length]; exact hl, δ, o, ds, δ', rd, hR, hv, hm, ht, fun σ' o' R' s' off => k σ' o' R' (fun a z => .inl (s' a z)) off⟩
    · cases ht

/-! ### assignments, expressions, return -/
def asgS (t : CG) (f : CE) : CS := fun δ => (f δ).bind fun p => (t p.1 p.2).bind fun δ' => some (.nx δ')
theorem ta_asg {K : PySem.W.Frag} {t : CG} {ss : List Nat} (D' : Ends) (σ : L2.St) (H : Hp) (q : TS' K B S M (asgS t f) M' D' σ H) : tAsg (TD K B M w f m) (TG' K B M m t M' ss) D' σ H := by
  obtain ⟨δ, o, fl, hR, hf, k⟩ := q
  obtain ⟨⟨d, δ1⟩, h1, hf⟩ := Option.bind_eq_some_iff.mp hf
  obtain ⟨δ', h2, hf⟩ := Option.bind_eq_some_iff.mp hf
  cases hf
  refine ⟨δ, o, d, δ1, hR, h1, fun v H1 o1 p1 k1 R1 s1 r1 f1 c1 => ⟨δ1, o1, d, p1, δ', R1, r1, fun a z => ⟨(f1 a z).2, fun y => ?_⟩, c1, h2, fun σ' o' R' s' _ => ?_⟩⟩
  · obtain ⟨u, e⟩ := hR.dom a y
    rw [(f1 a z).1] at e
    cases e
  · refine k σ' H1 o' (k1.up fun _ => rfl) (fun a z => ?_) R'
    rcases s' a z with q | q
    · exact s1 a q
    · exact .inr (f1 a q).1
theorem ds_asg {t : CG} {ss : List Nat} (he : DE X B M w e f m) (hg : DG X B M m tg t M' ss) (hs : swapsWithSole [tg] e pos.line X.env = pure false) (hw : swappedStores [tg] e X.env = pure none) (h1 : (assignEach [tg] X.env).map (·.2) = [assign tg X.env]) :
    DS X B S M (.Assign [tg] e pos) (asgS t f) M' := PS.mono (ps_asg he hg hs hw h1) fun D' σ H q => ta_asg D' σ H q
/-- name = e -/
theorem ds_set {i : Nat} {x : Str} {pos' : Pos} (hm : okS m = true) (hN : X.N.Nodup) (hi : X.N[i]? = some x) (hx : Loc X.env.scope x) (he : DE X B M w e f m) (hs : swapsWith e (some (.Name x pos')) pos.line X.env = pure false) (hf : X.fn x = true ∨ X.env.scope.names.lookup x = some .local) :
    DS X B S M (.Assign [.Name x pos'] e pos) (asgS (stS i) f) (M.set i (some m)) := PS.mono (ps_set hN hi hx he hs hf) fun D' σ H q => by
  have hg : DG X B M m (.Name x pos') (stS i) (M.set i (some m)) [i] := dg_name hm (pg_name hN hi hx hf)
  obtain ⟨δ, o, fl, hR, hf, k⟩ := q
  obtain ⟨⟨d, δ1⟩, h1, hf⟩ := Option.bind_eq_some_iff.mp hf
  obtain ⟨δ', h2, hf⟩ := Option.bind_eq_some_iff.mp hf
  cases hf
  unfold stS at h2
  split at h2
  · rename_i hi'
    cases h2
    refine ⟨δ, o, d, δ1, hR, h1, fun v H1 o1 p1 k1 R1 s1 r1 f1 c1 => ?_⟩
    refine k _ H1 _ (k1.up fun _ => rfl) (fun a z => ?_) (R1.set r1 (fun a z => (f1 a z).2) c1 (fun a z y => ?_) (by rw [R1.len]; exact hi') hm)
    · rcases setO_any z with z | z
      · exact s1 a z
      · unfold fpOf at z
        split at z
        · exact .inr (f1 a z).1
        · exact z.elim
    · obtain ⟨u, e⟩ := hR.dom a y
      rw [(f1 a z).1] at e
      cases e
  · cases h2
/-- an expression whose value is dropped -/
def exS (f : CE) : CS := fun δ => (f δ).bind fun p => some (.nx p.2)
theorem ds_expr (he : DE X B M w e f m) (hs : swapsWith e none pos.line X.env = pure false) : DS X B S M (.Expr e pos) (exS f) M := PS.mono (ps_expr he hs) fun D' σ H q => by
  obtain ⟨δ, o, fl, hR, hf, k⟩ := q
  obtain ⟨⟨d, δ1⟩, h1, hf⟩ := Option.bind_eq_some_iff.mp hf
  cases hf
  exact ⟨δ, o, d, δ1, hR, h1, fun v H1 o1 p1 k1 R1 s1 r1 f1 c1 => k σ H1 o1 (k1.up fun _ => rfl) s1 R1⟩
def rtS (f : CE) : CS := fun δ => (f δ).bind fun p => some (.rt p.1 p.2)
theorem ds_ret (hw : WkE M S.Mr) (hm : m = S.mr) (he : DE X B M w e f m) : DS X B S M (.Return (some e) pos) (rtS f) M' := PS.mono (ps_ret he) fun D' σ H q => by
  subst hm
  obtain ⟨δ, o, fl, hR, hf, k⟩ := q
  obtain ⟨⟨d, δ1⟩, h1, hf⟩ := Option.bind_eq_some_iff.mp hf
  cases hf
  refine ⟨δ, o, d, δ1, hR, h1, fun v H1 o1 p1 k1 R1 s1 r1 f1 c1 => k v σ H1 (cutO o1 S.Mr) p1 (k1.up fun _ => rfl) (fun a z => s1 a (cutO_le z)) (R1.weak hw) r1 (fun a z => ⟨.inr (f1 a z).1, fun y => (f1 a z).2 (cutO_le y)⟩) c1⟩
def rtN : CS := fun δ => some (.rt .none δ)
theorem ds_retN (hw : WkE M S.Mr) (hm : S.mr = .frz ∨ S.mr = .own) : DS X B S M (.Return none pos) rtN M' := PS.mono ps_retN fun D' σ H q => by
  obtain ⟨δ, o, fl, hR, hf, k⟩ := q
  cases hf
  refine k .non σ H (cutO o S.Mr) noP (Kp.refl _ _ _) (fun a z => .inl (cutO_le z)) (hR.weak hw) ?_ (fun _ z => z.elim) fun _ z => z.elim
  rcases hm with e | e
  · rw [e]; exact .non
  · rw [e]; exact Rep.non
theorem wk_dead : ∀ (M : MEnv) (i : Nat), WkE M (M.set i none)
  | [], _ => .nil
  | m :: M, 0 => .cons (.dead m) (WkE.refl M)
  | m :: M, i + 1 => .cons (.same m) (wk_dead M i)
/-- return of a name that is one's own: it is handed over -/
theorem ds_retOwn {i : Nat} {x : Str} {pos' : Pos} (hM : M[i]? = some (some .own)) (hw : WkE (M.set i none) S.Mr) (hm : S.mr = .own) (h : PE X (.Name x pos') (tVar i)) : DS X B S M (.Return (some (.Name x pos')) pos) (rtS (rd i)) M' := PS.mono (ps_ret h) fun D' σ H q => by
  obtain ⟨δ, o, fl, hR, hf, k⟩ := q
  obtain ⟨⟨d, δ1⟩, h1, hf⟩ := Option.bind_eq_some_iff.mp hf
  cases hf
  obtain ⟨hd, rfl⟩ := rd_inv h1
  obtain ⟨v, e, r⟩ := hR.at_ i .own d hM hd
  refine ⟨v, e, ?_⟩
  have hR' : R X.K B H σ δ1 (M.set i none) (cutO o (M.set i none)) := hR.weak (wk_dead M i)
  have hlen : i < M.length := (List.getElem?_eq_some_iff.mp hM).1
  refine k v σ H (cutO (cutO o (M.set i none)) S.Mr) (o i) (Kp.refl _ _ _) (fun a z => .inl (cutO_le (cutO_le z))) (hR'.weak hw) (by rw [hm]; exact r) (fun a z => ⟨.inl ⟨i, z⟩, fun y => ?_⟩) (fun a z => hR.cell i a z)
  obtain ⟨j, ⟨n, hn, _⟩, hj⟩ := cutO_le y
  have ej := hR.dis i j a z hj
  subst ej
  rw [List.getElem?_set_self hlen] at hn
  cases hn

/-! ### if, while -/
def ifS (t : CT) (g h : CS) : CS := fun δ => (t δ).bind fun p => if p.1 = true then g p.2 else h p.2
theorem ds_if {t : CT} (hc : DT X B M wc c t) (ha : DSs X B S M body g M') (hb : DSs X B S M orelse h M') : DS X B S M (.If c body orelse pos) (ifS t g h) M' := PS.mono (ps_if hc ha hb) fun D' σ H q => by
  obtain ⟨δ, o, fl, hR, hf, k⟩ := q
  obtain ⟨⟨b, δ1⟩, h1, hf⟩ := Option.bind_eq_some_iff.mp hf
  refine ⟨δ, o, b, δ1, hR, h1, fun H1 o1 k1 R1 s1 => ?_⟩
  cases b with
  | true => exact ⟨δ1, o1, fl, R1, hf, k.mono (k1.up fun _ => rfl) s1⟩
  | false => exact ⟨δ1, o1, fl, R1, hf, k.mono (k1.up fun _ => rfl) s1⟩
def bkS : CS := fun δ => some (.bk δ)
def ctS : CS := fun δ => some (.ct δ)
theorem ds_break (hw : WkE M S.Mb) : DS X B S M (.Break pos) bkS M' := PS.mono ps_break fun D' σ H q => by
  obtain ⟨δ, o, fl, hR, hf, k⟩ := q
  cases hf
  exact k σ H (cutO o S.Mb) (Kp.refl _ _ _) (fun a z => .inl (cutO_le z)) (hR.weak hw)
theorem ds_continue (hw : WkE M S.Mc) : DS X B S M (.Continue pos) ctS M' := PS.mono ps_continue fun D' σ H q => by
  obtain ⟨δ, o, fl, hR, hf, k⟩ := q
  cases hf
  exact k σ H (cutO o S.Mc) (Kp.refl _ _ _) (fun a z => .inl (cutO_le z)) (hR.weak hw)
theorem ds_pass : DS X B S M (.Pass pos) skip M := PS.mono ps_pass fun D' σ H q => by
  obtain ⟨δ, o, fl, hR, hf, k⟩ := q
  cases hf
  exact k σ H o (Kp.refl _ _ _) (Sub.refl _ _) hR
/-- what is never reached -/
def stuck : CS := fun _ => none
theorem ds_never : DS X B S M st stuck M' := PS.mono ps_never fun D' σ H q => by
  obtain ⟨δ, o, fl, hR, hf, k⟩ := q
  cases hf
end
end Dn
/-! Den11: while, for, what a for walks. -/
namespace Dn
open PySem PySem.Spec PyProof.Rows L2

/-! ### while -/
def whF (t : CT) (g : CS) : Nat → CS
  | 0 => fun _ => none
  | n + 1 => fun δ => (t δ).bind fun p => if p.1 = true then (g p.2).bind fun fl => match fl with
      | .nx δ' => whF t g n δ'
      | .ct δ' => whF t g n δ'
      | .bk δ' => some (.nx δ')
      | .rt d δ' => some (.rt d δ')
    else some (.nx p.2)
theorem whF_up {t : CT} {g : CS} : ∀ {n : Nat} {δ : Env} {fl : Fl}, whF t g n δ = some fl → whF t g (n + 1) δ = some fl
  | 0, _, _, h => by cases h
  | n + 1, δ, fl, h => by
    rw [whF] at h ⊢
    obtain ⟨p, h1, h⟩ := Option.bind_eq_some_iff.mp h
    refine Option.bind_eq_some_iff.mpr ⟨p, h1, ?_⟩
    split at h
    · rename_i hp
      rw [if_pos hp]
      obtain ⟨fl1, h2, h⟩ := Option.bind_eq_some_iff.mp h
      refine Option.bind_eq_some_iff.mpr ⟨fl1, h2, ?_⟩
      cases fl1 with
      | nx δ' => exact whF_up h
      | ct δ' => exact whF_up h
      | bk δ' => exact h
      | rt d δ' => exact h
    · rename_i hp
      rw [if_neg hp]
      exact h
theorem whF_le {t : CT} {g : CS} {n m : Nat} {δ : Env} {fl : Fl} (h : whF t g n δ = some fl) (hm : n ≤ m) : whF t g m δ = some fl := by
  induction hm with
  | refl => exact h
  | step _ ih => exact whF_up ih
/-- a while: what it ends with, if it ends -/
noncomputable def whS (t : CT) (g : CS) : CS := fun δ => open Classical in if h : ∃ fl, ∃ n, whF t g n δ = some fl then some h.choose else none
theorem whS_of {t : CT} {g : CS} {n : Nat} {δ : Env} {fl : Fl} (h : whF t g n δ = some fl) : whS t g δ = some fl := by
  unfold whS
  have hx : ∃ fl, ∃ n, whF t g n δ = some fl := ⟨fl, n, h⟩
  rw [dif_pos hx]
  obtain ⟨m, hm⟩ := hx.choose_spec
  have h1 := whF_le h (Nat.le_max_left n m)
  have h2 := whF_le hm (Nat.le_max_right n m)
  rw [h1] at h2
  exact h2.symm
theorem whS_inv {t : CT} {g : CS} {δ : Env} {fl : Fl} (h : whS t g δ = some fl) : ∃ n, whF t g n δ = some fl := by
  unfold whS at h
  split at h
  · rename_i hx
    cases h
    exact hx.choose_spec
  · cases h
section
variable {X : Cx} {B : Addr → Prop} {S : Sc} {M M1 M2 M' N : MEnv} {st : Stmt} {sts rest body orelse : List Stmt} {e c tg iter : Expr} {f : CE} {g h : CS} {m mi : Md} {w wc : Bool} {pos : Pos}
/-- the surroundings of a loop's body -/
abbrev Sc.loop (S : Sc) (M : MEnv) : Sc := ⟨S.mr, M, M, S.Mr⟩
theorem ds_while {t : CT} (hp : PassesOwn (model X.prog X.w) X.A X.env X.xe) (hc : DT X B M wc c t) (hb : DSs X B (S.loop M) M body g M) : DS X B S M (.While c body [] pos) (whS t g) M := PS.mono (ps_while hp hc hb) fun D' σ H q => by
  obtain ⟨δ, o, fl, hR, hf, k⟩ := q
  obtain ⟨n, hn⟩ := whS_inv hf
  refine ⟨fun n σ H => ∃ δ o, R X.K B H σ δ M o ∧ whF t g n δ = some fl ∧ SD X.K B o H S M D' fl, ⟨n, δ, o, hR, hn, k⟩, ?_⟩
  rintro n σ H ⟨δ, o, hR, hn, k⟩
  cases n with
  | zero => cases hn
  | succ n =>
    rw [whF] at hn
    obtain ⟨⟨b, δ1⟩, h1, hn⟩ := Option.bind_eq_some_iff.mp hn
    refine ⟨δ, o, b, δ1, hR, h1, fun H1 o1 k1 R1 s1 => ?_⟩
    have k := k.mono (k1.up fun _ => rfl) s1
    cases b with
    | false =>
      cases hn
      exact k σ H1 o1 (Kp.refl _ _ _) (Sub.refl _ _) R1
    | true =>
      obtain ⟨fl1, h2, hn⟩ := Option.bind_eq_some_iff.mp (show ((g δ1).bind _) = some fl from hn)
      refine ⟨fun σ' H' => ∃ δ o, R X.K B H' σ' δ M o ∧ whF t g n δ = some fl ∧ SD X.K B o H' S M D' fl, fun σ' H' z => ⟨n, Nat.lt_succ_self n, z⟩, δ1, o1, fl1, R1, h2, ?_⟩
      cases fl1 with
      | nx δ' => exact fun σ' H' o' k' s' r => ⟨δ', o', r, hn, k.mono k' s'⟩
      | ct δ' => exact fun σ' H' o' k' s' r => ⟨δ', o', r, hn, k.mono k' s'⟩
      | bk δ' =>
        cases hn
        exact k
      | rt d δ' =>
        cases hn
        exact k

/-! ### what is walked -/
def TI' (K : PySem.W.Frag) (B : Addr → Prop) (M : MEnv) (w : Bool) (f : CA) (mi : Md) : TI := fun σ H Rr => ∃ δ o ds δ', R K B H σ δ M o ∧ f δ = some (ds, δ') ∧
  ∀ J H' o' (G : Hp → Prop) (Y : Nat → Hp → V → Hp → Prop), Kp w o H H' → R K B H' σ δ' M o' → Sub o H o' → ds.length ≤ sizeLine → L2.Walk J ds.length G Y → (∀ H2, Kp true o' H' H2 → G H2) →
    (∀ i H1 x H2, Kp true o' H' H1 → Y i H1 x H2 → ∃ d, ds[i]? = some d ∧ Ext H1 H2 ∧ RRep K H2 B mi d x noP) → Rr J H'
abbrev DI (X : Cx) (B : Addr → Prop) (M : MEnv) (w : Bool) (tg iter : Expr) (f : CA) (mi : Md) : Prop := PI X tg iter (TI' X.K B M w f mi)
theorem PI.mono {X : Cx} {tg iter : Expr} {t t' : TI} (h : PI X tg iter t) (i : ∀ σ H Q, t' σ H Q → t σ H Q) : PI X tg iter t' := ⟨fun pins s σ H Q I q => h.run pins s σ H Q I (i σ H Q q)⟩
/-- a mode of what is walked while its items are used -/
def wkM : Md → Bool | .frz => true | .sta => true | .own => true | _ => false
def chars (x : Str) : List D := x.cps.toList.map fun c => .str ⟨#[c]⟩
def itemsD : D → Option (List D)
  | .list ds => some ds
  | .tuple ds => some ds
  | .str x => if x.cps.size ≤ sizeLine then some (chars x) else none
  | _ => none
def seqI (f : CE) : CA := fun δ => (f δ).bind fun p => (itemsD p.1).bind fun ds => some (ds, p.2)
/-- a value that is walked stays as it is -/
theorem RRep.stay {K : PySem.W.Frag} {B : Addr → Prop} {H : Hp} {σ : L2.St} {δ : Env} {M : MEnv} {o : Fp} {m : Md} {ds : List D} {v : V} {p : Addr → Prop} (r : R K B H σ δ M o) (h : RRep K H B m (.list ds) v p) (hp : ∀ a, p a → ¬ o.any a) (hm : wkM m = true) :
    ∃ a vs, v = .ref a ∧ vs.length = ds.length ∧ (∀ H2, Kp true o H H2 → SqL K H2 a vs) ∧ ∀ H2, Kp true o H H2 → ∀ (i : Nat) (u : V), vs[i]? = some u → ∃ d, ds[i]? = some d ∧ RRep K H2 B (ptM m) d u noP := by
  cases m with
  | len => cases hm
  | io b => cases hm
  | sta =>
    cases h with
    | lst ha hb =>
      refine ⟨_, _, rfl, hb.length.symm, fun H2 k => (Rdr.le.L (rdA_keep (r.kpB k)) _ _ ha).1, fun H2 k i u hu => ?_⟩
      obtain ⟨d, hd, rd⟩ := hb.getV hu
      exact ⟨d, hd, Rep.mono (rdA_keep (r.kpB k)) rd⟩
  | frz =>
    cases h with
    | lst ha hb =>
      refine ⟨_, _, rfl, hb.length.symm, fun H2 k => LstF.sq (Rdr.le.L (rdF_keep (r.kpF k)) _ _ ha), fun H2 k i u hu => ?_⟩
      obtain ⟨d, hd, rd⟩ := hb.getV hu
      exact ⟨d, hd, Rep.mono (rdF_keep (r.kpF k)) rd⟩
  | own =>
    obtain ⟨a, vs, rfl, q, hl, hv⟩ := h
    refine ⟨a, vs, rfl, hv.length.symm, fun H2 k => .inl (.inl (k.keep _ _ hl fun _ => hp a q)), fun H2 k i u hu => ?_⟩
    obtain ⟨d, hd, rd⟩ := hv.getV hu
    exact ⟨d, hd, Rep.mono (rdF_keep (r.kpF k)) rd⟩
theorem RRep.stayT {K : PySem.W.Frag} {B : Addr → Prop} {H : Hp} {σ : L2.St} {δ : Env} {M : MEnv} {o : Fp} {m : Md} {ds : List D} {v : V} {p : Addr → Prop} (r : R K B H σ δ M o) (h : RRep K H B m (.tuple ds) v p) (hm : wkM m = true) :
    ∃ a vs, v = .ref a ∧ vs.length = ds.length ∧ (∀ H2, Kp true o H H2 → SqT K H2 a vs) ∧ ∀ H2, Kp true o H H2 → ∀ (i : Nat) (u : V), vs[i]? = some u → ∃ d, ds[i]? = some d ∧ RRep K H2 B (ptM m) d u noP := by
  cases m with
  | len => cases hm
  | io b => cases hm
  | sta =>
    cases h with
    | tup ha hb =>
      refine ⟨_, _, rfl, hb.length.symm, fun H2 k => SqT.keep ha (r.kpF k _), fun H2 k i u hu => ?_⟩
      obtain ⟨d, hd, rd⟩ := hb.getV hu
      exact ⟨d, hd, Rep.mono (rdA_keep (r.kpB k)) rd⟩
  | frz =>
    cases h with
    | tup ha hb =>
      refine ⟨_, _, rfl, hb.length.symm, fun H2 k => SqT.keep ha (r.kpF k _), fun H2 k i u hu => ?_⟩
      obtain ⟨d, hd, rd⟩ := hb.getV hu
      exact ⟨d, hd, Rep.mono (rdF_keep (r.kpF k)) rd⟩
  | own =>
    cases (show Rep (rdF K H) (.tuple ds) v from h) with
    | tup ha hb =>
      refine ⟨_, _, rfl, hb.length.symm, fun H2 k => SqT.keep ha (r.kpF k _), fun H2 k i u hu => ?_⟩
      obtain ⟨d, hd, rd⟩ := hb.getV hu
      exact ⟨d, hd, Rep.mono (rdF_keep (r.kpF k)) rd⟩
theorem di_seq (hm : wkM m = true) (he : DE X B M w e f m) : DI X B M w tg e (seqI f) (ptM m) := by
  refine ⟨fun pins s σ H Rr I h => ?_⟩
  obtain ⟨δ, o, ds, δ', hR, hf, k⟩ := h
  obtain ⟨⟨d, δ1⟩, h1, hf⟩ := Option.bind_eq_some_iff.mp hf
  obtain ⟨ds', h2, hf⟩ := Option.bind_eq_some_iff.mp hf
  cases hf
  cases d with
  | list xs =>
    cases h2
    refine (pi_list (tg := tg) (PE.sz he)).run pins s σ H Rr I ⟨δ, o, _, _, hR, h1, fun v H1 o1 p1 k1 R1 s1 r1 f1 c1 sz => ?_⟩
    obtain ⟨a, vs, rfl, hl, hG, hY⟩ := RRep.stay R1 r1 (fun a z => (f1 a z).2) hm
    have hG1 := hG H1 (Kp.refl _ _ _)
    refine ⟨a, rfl, ⟨vs, hG1⟩, k _ H1 o1 (fun H => SqL X.K H a vs) (YAt vs) k1 R1 s1 (by rw [← hl]; exact sz _ _ (.inl hG1)) (by rw [← hl]; exact walk_list) hG fun i H2 x H3 k2 y => ?_⟩
    obtain ⟨rfl, hx⟩ := y
    obtain ⟨d, hd, rd⟩ := hY H3 k2 i x hx
    exact ⟨d, hd, Ext.refl _, rd⟩
  | tuple xs =>
    cases h2
    refine (pi_tup (tg := tg) (PE.sz he)).run pins s σ H Rr I ⟨δ, o, _, _, hR, h1, fun v H1 o1 p1 k1 R1 s1 r1 f1 c1 sz => ?_⟩
    obtain ⟨a, vs, rfl, hl, hG, hY⟩ := RRep.stayT R1 r1 hm
    have hG1 := hG H1 (Kp.refl _ _ _)
    refine ⟨a, rfl, ⟨vs, hG1⟩, k _ H1 o1 (fun H => SqT X.K H a vs) (YAt vs) k1 R1 s1 (by rw [← hl]; exact sz _ _ (.inr hG1)) (by rw [← hl]; exact walk_tup) hG fun i H2 x H3 k2 y => ?_⟩
    obtain ⟨rfl, hx⟩ := y
    obtain ⟨d, hd, rd⟩ := hY H3 k2 i x hx
    exact ⟨d, hd, Ext.refl _, rd⟩
  | str x =>
    simp only [itemsD] at h2
    split at h2
    · rename_i hz
      cases h2
      refine (pi_str (tg := tg) he).run pins s σ H Rr I ⟨δ, o, _, _, hR, h1, fun v H1 o1 p1 k1 R1 s1 r1 f1 c1 => ?_⟩
      cases (show Rep (rdL X.K H1) (.str x) v from r1.lent)
      have hlen : (chars x).length = x.cps.size := by unfold chars; rw [List.length_map, Array.length_toList]
      refine ⟨x, rfl, k _ H1 o1 (fun _ => True) _ k1 R1 s1 (by rw [hlen]; exact hz) (by rw [hlen]; exact walk_str) (fun _ _ => trivial) fun i H2 u H3 k2 y => ?_⟩
      obtain ⟨rfl, c, hc, rfl⟩ := y
      refine ⟨.str ⟨#[c]⟩, ?_, Ext.refl _, RRep.flat (fun _ => .str _) (fun _ z => nomatch z) (fun _ z => nomatch z) (fun _ z => by cases m <;> cases z)⟩
      unfold chars
      rw [List.getElem?_map, Array.getElem?_toList, hc]
      rfl
    · cases h2
  | _ => cases h2

/-! ranges -/
def rgI (lo : Int) (n : Nat) : List D := (List.range n).map fun i => .int (lo + (i : Nat))
def inB (i : Int) : Bool := decide (-(2 ^ 62) ≤ i) && decide (i < 2 ^ 62)
def rg1 : List D → Option (List D)
  | [.int j] => if inB j = true ∧ j.toNat ≤ sizeLine then some (rgI 0 j.toNat) else none
  | _ => none
def rg2 : List D → Option (List D)
  | [.int i, .int j] => if (inB i && inB j) = true ∧ (j - i).toNat ≤ sizeLine then some (rgI i (j - i).toNat) else none
  | _ => none
def rgV (φ : List D → Option (List D)) (f : CA) : CA := fun δ => (f δ).bind fun p => (φ p.1).bind fun ds => some (ds, p.2)
theorem rgI_length (lo : Int) (n : Nat) : (rgI lo n).length = n := by unfold rgI; rw [List.length_map, List.length_range]
theorem rgI_get (lo : Int) (n i : Nat) (h : i < n) : (rgI lo n)[i]? = some (.int (lo + (i : Nat))) := by
  unfold rgI
  rw [List.getElem?_map, List.getElem?_range h]
  rfl
theorem walk_rgI {lo : Int} {n : Nat} : L2.Walk (Itr lo n) n (fun _ => True) (fun i H x H' => i < n ∧ H' = H ∧ x = .int (lo + (i : Nat))) :=
  walk_range.mono (fun _ _ => trivial) fun i H x H' hi _ y => ⟨hi, y.1, y.2⟩
theorem rg1_inv {as ds : List D} (h : rg1 as = some ds) : ∃ j : Int, as = [.int j] ∧ (-(2 ^ 62) ≤ j ∧ j < 2 ^ 62) ∧ j.toNat ≤ sizeLine ∧ ds = rgI 0 j.toNat := by
  unfold rg1 at h
  split at h
  · rename_i j
    split at h
    · rename_i hc
      cases h
      simp only [inB, Bool.and_eq_true, decide_eq_true_eq] at hc
      exact ⟨j, rfl, hc.1, hc.2, rfl⟩
    · cases h
  · cases h
theorem rg2_inv {as ds : List D} (h : rg2 as = some ds) : ∃ i j : Int, as = [.int i, .int j] ∧ (-(2 ^ 62) ≤ i ∧ i < 2 ^ 62 ∧ -(2 ^ 62) ≤ j ∧ j < 2 ^ 62) ∧ (j - i).toNat ≤ sizeLine ∧ ds = rgI i (j - i).toNat := by
  unfold rg2 at h
  split at h
  · rename_i i j
    split at h
    · rename_i hc
      cases h
      simp only [inB, Bool.and_eq_true, decide_eq_true_eq] at hc
      exact ⟨i, j, rfl, ⟨hc.1.1.1, hc.1.1.2, hc.1.2.1, hc.1.2.2⟩, hc.2, rfl⟩
    · cases h
  · cases h
theorem di_range1 {a : Expr} {fa : CA} {ms : List Md} {p : Pos} (hg : Gl X "range") (hm : X.mg "range" = none) (ha : DA X B M w [a] fa ms) (hs : starEach [a] X.env = [(false, eval a X.env)]) : DI X B M w tg (.Call (.Name "range" p) [a] [] pos) (rgV rg1 fa) .frz :=
  PI.mono (pi_range1 hg hm ha hs) fun σ H Rr h => by
    obtain ⟨δ, o, ds, δ', hR, hf, k⟩ := h
    obtain ⟨⟨as, δ1⟩, h1, hf⟩ := Option.bind_eq_some_iff.mp hf
    obtain ⟨ds', h2, hf⟩ := Option.bind_eq_some_iff.mp hf
    cases hf
    refine ⟨δ, o, as, _, hR, h1, fun vs H1 o1 k1 R1 s1 a1 => ?_⟩
    have al := a1.lent
    obtain ⟨j, rfl, hb, hz, rfl⟩ := rg1_inv h2
    cases al with
    | cons rj rn =>
      cases rn
      cases rj
      refine ⟨j, rfl, hb.1, hb.2, k _ H1 o1 _ _ k1 R1 s1 (by rw [rgI_length]; exact hz) (by rw [rgI_length]; exact walk_rgI) (fun _ _ => trivial) fun i H2 x H3 k2 y => ?_⟩
      obtain ⟨hi, rfl, rfl⟩ := y
      exact ⟨_, rgI_get _ _ _ hi, Ext.refl _, .int _⟩
theorem di_range2 {a b : Expr} {fa : CA} {ms : List Md} {p : Pos} (hg : Gl X "range") (hm : X.mg "range" = none) (ha : DA X B M w [a, b] fa ms) (hs : starEach [a, b] X.env = [(false, eval a X.env), (false, eval b X.env)]) (hs2 : starEach [b] X.env = [(false, eval b X.env)]) :
    DI X B M w tg (.Call (.Name "range" p) [a, b] [] pos) (rgV rg2 fa) .frz :=
  PI.mono (pi_range2 hg hm ha hs hs2) fun σ H Rr h => by
    obtain ⟨δ, o, ds, δ', hR, hf, k⟩ := h
    obtain ⟨⟨as, δ1⟩, h1, hf⟩ := Option.bind_eq_some_iff.mp hf
    obtain ⟨ds', h2, hf⟩ := Option.bind_eq_some_iff.mp hf
    cases hf
    refine ⟨δ, o, as, _, hR, h1, fun vs H1 o1 k1 R1 s1 a1 => ?_⟩
    have al := a1.lent
    obtain ⟨i, j, rfl, hb, hz, rfl⟩ := rg2_inv h2
    cases al with
    | cons ri rn =>
      cases rn with
      | cons rj rn =>
        cases rn
        cases ri
        cases rj
        refine ⟨i, j, rfl, hb, k _ H1 o1 _ _ k1 R1 s1 (by rw [rgI_length]; exact hz) (by rw [rgI_length]; exact walk_rgI) (fun _ _ => trivial) fun n H2 x H3 k2 y => ?_⟩
        obtain ⟨hi, rfl, rfl⟩ := y
        exact ⟨_, rgI_get _ _ _ hi, Ext.refl _, .int _⟩

/-! ### for -/
def forL (t : CG) (g : CS) : List D → CS
  | [] => skip
  | d :: ds => fun δ => (t d δ).bind fun δ1 => (g δ1).bind fun fl => match fl with
      | .nx δ' => forL t g ds δ'
      | .ct δ' => forL t g ds δ'
      | .bk δ' => some (.nx δ')
      | .rt d δ' => some (.rt d δ')
def forS (f : CA) (t : CG) (g : CS) : CS := fun δ => (f δ).bind fun p => forL t g p.1 p.2
theorem ds_for {fa : CA} {t : CG} {ss : List Nat} (hp : PassesOwn (model X.prog X.w) X.A X.env X.xe) (hc : X.calm = true) (hi : DI X B M w tg iter fa mi) (hg : DG X B M mi tg t M1 ss) (hb : DSs X B (S.loop M) M1 body g M)
    (hs : ∀ x, foldedSetIterable iter X.env x = pure x) : DS X B S M (.For tg iter body [] pos) (forS fa t g) M := PS.mono (ps_for hp hc hi hg hb hs) fun D' σ H q => by
  obtain ⟨δ, o, fl, hR, hf, k⟩ := q
  obtain ⟨⟨ds, δ1⟩, h1, hf⟩ := Option.bind_eq_some_iff.mp hf
  refine ⟨δ, o, ds, δ1, hR, h1, fun J H1 o1 G Y k1 R1 s1 hz W hG hY => ?_⟩
  have k := k.mono (k1.up fun _ => rfl) s1
  refine for_it W (fun i σ H => ∃ δ o, R X.K B H σ δ M o ∧ Kp true o1 H1 H ∧ Sub o1 H1 o ∧ forL t g (ds.drop i) δ = some fl) ⟨δ1, o1, R1, Kp.refl _ _ _, Sub.refl _ _, hf⟩ (fun i σ H _ ⟨_, _, _, kk, _⟩ => hG H kk) ?_ ?_
  · rintro i x σ2 H2 H3 hi ⟨δ2, o2, R2, k2, s2, h2⟩ y
    obtain ⟨d, hd, ext, rd⟩ := hY i H2 x H3 k2 y
    have hdr : ds.drop i = d :: ds.drop (i + 1) := by
      rw [List.drop_eq_getElem_cons hi]
      rw [List.getElem?_eq_getElem hi] at hd
      cases hd
      rfl
    rw [hdr] at h2
    obtain ⟨δ3, h3, h2⟩ := Option.bind_eq_some_iff.mp h2
    obtain ⟨fl1, h4, h2⟩ := Option.bind_eq_some_iff.mp h2
    refine ⟨δ2, o2, d, noP, δ3, R2.keep ext, rd, fun _ z => z.elim, fun _ z => z.elim, h3, fun σ4 o4 R4 s4 _ => ⟨δ3, o4, fl1, R4, h4, ?_⟩⟩
    have k3 : Kp true o1 H1 H3 := k2.trans s2 (Kp.all ext)
    have s3 : Sub o1 H1 o4 := fun a z => by
      rcases s4 a z with q | q
      · exact s2 a q
      · exact q.elim
    cases fl1 with
    | nx δ' => exact fun σ' H' o' k' s' r => ⟨δ', o', r, k3.trans s3 k', s3.trans k3 s', h2⟩
    | ct δ' => exact fun σ' H' o' k' s' r => ⟨δ', o', r, k3.trans s3 k', s3.trans k3 s', h2⟩
    | bk δ' =>
      cases h2
      exact fun σ' H' o' k' s' r => k σ' H' o' (k3.trans s3 k') (s3.trans k3 s') r
    | rt d δ' =>
      cases h2
      exact k.mono k3 s3
  · rintro σ2 H2 ⟨δ2, o2, R2, k2, s2, h2⟩
    rw [List.drop_length] at h2
    cases h2
    exact k σ2 H2 o2 k2 s2 R2
end
end Dn
/-! Den12: comprehensions. -/
namespace Dn
open PySem PySem.Spec PyProof.Rows L2

/-! ### the block's own slots -/
def wipeD (δ : Env) : List Nat → Env
  | [] => δ
  | v :: vs => (wipeD δ vs).set v none
def wipeM (M : MEnv) : List Nat → MEnv
  | [] => M
  | v :: vs => (wipeM M vs).set v none
/-- the slots of vs as δ₀ has them -/
def backD (δ₀ δ : Env) : List Nat → Env
  | [] => δ
  | v :: vs => (backD δ₀ δ vs).set v (δ₀[v]?.join)
theorem wipeD_length (δ : Env) : ∀ vs, (wipeD δ vs).length = δ.length
  | [] => rfl
  | v :: vs => by unfold wipeD; rw [List.length_set, wipeD_length δ vs]
theorem backD_length (δ₀ δ : Env) : ∀ vs, (backD δ₀ δ vs).length = δ.length
  | [] => rfl
  | v :: vs => by unfold backD; rw [List.length_set, backD_length δ₀ δ vs]
theorem wipeD_some {δ : Env} {i : Nat} {d : D} : ∀ {vs : List Nat}, (wipeD δ vs)[i]? = some (some d) → δ[i]? = some (some d) ∧ i ∉ vs
  | [], h => ⟨h, by simp⟩
  | v :: vs, h => by
    unfold wipeD at h
    by_cases hi : v = i
    · subst hi
      by_cases hv : v < (wipeD δ vs).length
      · rw [List.getElem?_set_self hv] at h; cases h
      · rw [List.getElem?_eq_none (by simpa using hv)] at h; cases h
    · rw [List.getElem?_set_ne hi] at h
      obtain ⟨h1, h2⟩ := wipeD_some h
      exact ⟨h1, by simp only [List.mem_cons, not_or]; exact ⟨fun e => hi e.symm, h2⟩⟩
theorem wipeM_some {M : MEnv} {i : Nat} {m : Md} : ∀ {vs : List Nat}, (wipeM M vs)[i]? = some (some m) → M[i]? = some (some m) ∧ i ∉ vs
  | [], h => ⟨h, by simp⟩
  | v :: vs, h => by
    unfold wipeM at h
    by_cases hi : v = i
    · subst hi
      by_cases hv : v < (wipeM M vs).length
      · rw [List.getElem?_set_self hv] at h; cases h
      · rw [List.getElem?_eq_none (by simpa using hv)] at h; cases h
    · rw [List.getElem?_set_ne hi] at h
      obtain ⟨h1, h2⟩ := wipeM_some h
      exact ⟨h1, by simp only [List.mem_cons, not_or]; exact ⟨fun e => hi e.symm, h2⟩⟩
theorem backD_out {δ₀ δ : Env} {i : Nat} : ∀ {vs : List Nat}, i ∉ vs → (backD δ₀ δ vs)[i]? = δ[i]?
  | [], _ => rfl
  | v :: vs, h => by
    have h1 : v ≠ i := fun e => h (by rw [e]; exact List.mem_cons_self)
    unfold backD
    rw [List.getElem?_set_ne h1]
    exact backD_out fun m => h (List.mem_cons_of_mem _ m)
theorem backD_in {δ₀ δ : Env} {i : Nat} {d : D} : ∀ {vs : List Nat}, i ∈ vs → (backD δ₀ δ vs)[i]? = some (some d) → δ₀[i]? = some (some d)
  | [], h, _ => by simp at h
  | v :: vs, h, e => by
    unfold backD at e
    by_cases hi : v = i
    · subst hi
      by_cases hv : v < (backD δ₀ δ vs).length
      · rw [List.getElem?_set_self hv] at e
        cases q : δ₀[v]? with
        | none => rw [q] at e; simp at e
        | some x => rw [q] at e; simp at e; rw [e]
      · rw [List.getElem?_eq_none (by simpa using hv)] at e; cases e
    · rw [List.getElem?_set_ne hi] at e
      refine backD_in (vs := vs) ?_ e
      rcases List.mem_cons.mp h with q | q
      · exact absurd q.symm hi
      · exact q
theorem wipeD_out {δ : Env} {i : Nat} : ∀ {vs : List Nat}, i ∉ vs → (wipeD δ vs)[i]? = δ[i]?
  | [], _ => rfl
  | v :: vs, h => by
    have h1 : v ≠ i := fun e => h (by rw [e]; exact List.mem_cons_self)
    unfold wipeD
    rw [List.getElem?_set_ne h1]
    exact wipeD_out fun m => h (List.mem_cons_of_mem _ m)
theorem wipe_in {σ : L2.St} {i : Nat} : ∀ {vs : List Nat}, i ∈ vs → i < σ.length → (wipe σ vs)[i]? = some none
  | [], h, _ => by simp at h
  | v :: vs, h, hl => by
    unfold wipe
    by_cases hi : v = i
    · subst hi
      exact List.getElem?_set_self (by rw [wipe_length]; exact hl)
    · rw [List.getElem?_set_ne hi]
      refine wipe_in ?_ hl
      rcases List.mem_cons.mp h with q | q
      · exact absurd q.symm hi
      · exact q
theorem wipe_off {σ σ' : L2.St} {ss vs : List Nat} (h : Off ss σ σ') (hs : ∀ j ∈ ss, j ∈ vs) : wipe σ' vs = wipe σ vs := by
  apply List.ext_getElem?
  intro i
  by_cases hi : i ∈ vs
  · by_cases hl : i < σ.length
    · rw [wipe_in hi hl, wipe_in hi (by rw [h.1]; exact hl)]
    · rw [List.getElem?_eq_none (by rw [wipe_length, h.1]; omega), List.getElem?_eq_none (by rw [wipe_length]; omega)]
  · rw [wipe_out hi, wipe_out hi]
    exact h.2 i fun z => hi (hs i z)
theorem wipe_wipe {σ : L2.St} {vs : List Nat} : wipe (wipe σ vs) vs = wipe σ vs := by
  apply List.ext_getElem?
  intro i
  by_cases hi : i ∈ vs
  · by_cases hl : i < σ.length
    · rw [wipe_in hi hl, wipe_in hi (by rw [wipe_length]; exact hl)]
    · rw [List.getElem?_eq_none (by rw [wipe_length, wipe_length]; omega), List.getElem?_eq_none (by rw [wipe_length]; omega)]
  · rw [wipe_out hi]

section
variable {K : PySem.W.Frag} {B : Addr → Prop} {H H' : Hp} {σ : L2.St} {δ δ₀ : Env} {M : MEnv} {o o₀ : Fp} {vs : List Nat}
/-- the frame at a turn's start: the own slots are empty -/
theorem R.wipe (r : R K B H σ δ M o) : R K B H (wipe σ vs) (wipeD δ vs) (wipeM M vs) (cutO o (wipeM M vs)) := by
  refine ⟨by rw [wipe_length, wipeD_length]; exact r.len, fun i j a h1 h2 => r.dis i j a h1.2 h2.2, fun i a h => r.cell i a h.2, fun a z => r.sep a (cutO_le z), r.dom, fun i m d h1 h2 => ?_⟩
  obtain ⟨h3, hi⟩ := wipeM_some h1
  obtain ⟨h4, _⟩ := wipeD_some h2
  obtain ⟨v, ev, q⟩ := r.at_ i m d h3 h4
  refine ⟨v, by rw [wipe_out hi]; exact ev, ?_⟩
  cases m with
  | own => exact Own.sup q fun a z => ⟨⟨_, h1, rfl⟩, z⟩
  | io b => exact ⟨Own.sup q.1 fun a z => ⟨⟨_, h1, rfl⟩, z⟩, q.2⟩
  | len => exact q.elim
  | sta => exact q
  | frz => exact q
/-- the frame behind the block: the own slots are what they were -/
theorem R.back (r : R K B H (L2.wipe σ vs) (wipeD δ vs) (wipeM M vs) o) (r₀ : R K B H' σ δ₀ M o₀) {w : Bool} (k : Kp w o₀ H' H) (hM : ∀ i ∈ vs, ∀ m, M[i]? = some (some m) → m = .frz ∨ m = .sta) : R K B H σ (backD δ₀ δ vs) M (cutO o (wipeM M vs)) := by
  refine ⟨by rw [backD_length, ← wipeD_length δ vs, ← r.len, wipe_length], fun i j a h1 h2 => r.dis i j a h1.2 h2.2, fun i a h => r.cell i a h.2, fun a z => r.sep a (cutO_le z), r.dom, fun i m d h1 h2 => ?_⟩
  by_cases hi : i ∈ vs
  · have h3 := backD_in hi h2
    obtain ⟨v, ev, q⟩ := r₀.at_ i m d h1 h3
    refine ⟨v, ev, ?_⟩
    rcases hM i hi m h1 with rfl | rfl
    · exact Rep.mono (rdF_keep (r₀.kpF k)) q
    · exact Rep.mono (rdA_keep (r₀.kpB k)) q
  · rw [backD_out hi] at h2
    have hM' : (wipeM M vs)[i]? = some (some m) := by
      have : ∀ {vs : List Nat}, i ∉ vs → (wipeM M vs)[i]? = M[i]? := by
        intro vs
        induction vs with
        | nil => intro _; rfl
        | cons v vs ih =>
          intro h
          have h1 : v ≠ i := fun e => h (by rw [e]; exact List.mem_cons_self)
          unfold wipeM
          rw [List.getElem?_set_ne h1]
          exact ih fun m => h (List.mem_cons_of_mem _ m)
      rw [this hi]
      exact h1
    obtain ⟨v, ev, q⟩ := r.at_ i m d hM' (by rw [wipeD_out hi]; exact h2)
    rw [wipe_out hi] at ev
    refine ⟨v, ev, ?_⟩
    cases m with
    | own => exact Own.sup q fun a z => ⟨⟨_, hM', rfl⟩, z⟩
    | io b => exact ⟨Own.sup q.1 fun a z => ⟨⟨_, hM', rfl⟩, z⟩, q.2⟩
    | len => exact q.elim
    | sta => exact q
    | frz => exact q
/-- a thing that is no slot's and nobody's is written -/
theorem R.upd (r : R K B H σ δ M o) {a : Addr} {u u' : HO} (ha : H a = some u) (mu : Mut (some u)) (hn : ¬ o.any a) (hB : ¬ B a) : R K B (L2.upd H a u') σ δ M o := by
  have kk : ∀ b v, H b = some v → (b ≠ a) → L2.upd H a u' b = some v := fun b v e n => by rw [upd_ne n]; exact e
  have kF : ∀ b v, H b = some v → ¬ Mut (some v) → L2.upd H a u' b = some v := fun b v e n => kk b v e fun z => by
    subst z
    rw [ha] at e
    cases e
    exact n mu
  refine ⟨r.len, r.dis, fun i b h => ?_, r.sep, fun b h => ?_, fun i m d h1 h2 => ?_⟩
  · obtain ⟨v, e, q⟩ := r.cell i b h
    exact ⟨v, kk b v e fun z => hn ⟨i, z ▸ h⟩, q⟩
  · obtain ⟨v, e⟩ := r.dom b h
    exact ⟨v, kk b v e fun z => hB (z ▸ h)⟩
  · obtain ⟨v, ev, q⟩ := r.at_ i m d h1 h2
    have kO : ∀ b v, H b = some v → (o i b ∨ ¬ Mut (some v)) → L2.upd H a u' b = some v := fun b v e n => by
      rcases n with n | n
      · exact kk b v e fun z => hn ⟨i, z ▸ n⟩
      · exact kF b v e n
    refine ⟨v, ev, ?_⟩
    cases m with
    | own => exact Own.keep q kO
    | io b => exact ⟨Own.keep q.1 kO, q.2⟩
    | sta => exact Rep.mono (rdA_keep fun b v e n => by
        rcases n with n | n
        · exact kk b v e fun z => hB (z ▸ n)
        · exact kF b v e n) q
    | frz => exact Rep.mono (rdF_keep kF) q
    | len => exact q.elim
end

/-! ### [e for t in xs if c] -/
def lcL (t : CG) (own : List Nat) (c : CT) (f : CE) : List D → Env → Option (List D × Env)
  | [], δ => some ([], δ)
  | d :: ds, δ => (t d (wipeD δ own)).bind fun δ1 => (c δ1).bind fun p => if p.1 = true then (f p.2).bind fun q => (lcL t own c f ds q.2).bind fun r => some (q.1 :: r.1, r.2) else lcL t own c f ds p.2
def lcV (fa : CA) (t : CG) (own : List Nat) (c : CT) (f : CE) : CE := fun δ => (fa δ).bind fun p => (lcL t own c f p.1 p.2).bind fun r => some (.list r.1, backD p.2 r.2 own)
def yesT : CT := fun δ => some (true, δ)
abbrev DTs (X : Cx) (B : Addr → Prop) (M : MEnv) (w : Bool) (es : List Expr) (f : CT) : Prop := PTs X es (TT' X.K B M w f)
theorem PTs.mono {X : Cx} {e : List Expr} {t t' : TT} (h : PTs X e t) (i : ∀ σ H Q, t' σ H Q → t σ H Q) : PTs X e t' := ⟨fun pins s σ H Q I q => h.run pins s σ H Q I (i σ H Q q)⟩
theorem dts_nil {X : Cx} {B : Addr → Prop} {M : MEnv} : DTs X B M false [] yesT := PTs.mono pts_nil fun σ H Q q => by
  obtain ⟨δ, o, b, δ', hR, hf, k⟩ := q
  cases hf
  exact k H o (Kp.refl _ _ _) hR (Sub.refl _ _)
theorem dts_one {X : Cx} {B : Addr → Prop} {M : MEnv} {w : Bool} {c : Expr} {f : CT} (h : DT X B M w c f) : DTs X B M w [c] f := pts_one h
def ownOk (M : MEnv) (vs : List Nat) : Bool := vs.all fun i => match M[i]? with
  | some (some .frz) => true
  | some (some .sta) => true
  | some none => true
  | _ => false
theorem ownOk_of {M : MEnv} {vs : List Nat} (h : ownOk M vs = true) : ∀ i ∈ vs, ∀ m, M[i]? = some (some m) → m = .frz ∨ m = .sta := fun i hi m e => by
  have q := List.all_eq_true.mp h i hi
  rw [e] at q
  cases m with
  | frz => exact .inl rfl
  | sta => exact .inr rfl
  | _ => cases q
section
variable {X : Cx} {B : Addr → Prop} {S : Sc} {M M1 M2 M' N : MEnv} {elt tg iter : Expr} {ifs : List Expr} {scope : Scope} {f : CE} {g h : CS} {m mi : Md} {w wc wi we : Bool} {pos : Pos}
theorem tl_lc {K : PySem.W.Frag} {fa : CA} {t : CG} {c : CT} {own ss : List Nat} (hM : ownOk M own = true) (hss : ∀ j ∈ ss, j ∈ own) (hwk : wipeM M1 own = wipeM M own) (σ : L2.St) (H : Hp) (Q : VK)
    (q : TD K B M (wi || (wc || we)) (lcV fa t own c f) .own σ H Q) : tLc (TI' K B M wi fa mi) (TG' K B (wipeM M own) mi t M1 ss) (TT' K B M1 wc c) (TD K B M1 we f .frz) own σ H Q := by
  obtain ⟨δ, o, d, δ', hR, hf, k⟩ := q
  obtain ⟨⟨ds, δ1⟩, h1, hf⟩ := Option.bind_eq_some_iff.mp hf
  obtain ⟨⟨rs, δ2⟩, h2, hf⟩ := Option.bind_eq_some_iff.mp hf
  cases hf
  refine ⟨δ, o, ds, δ1, hR, h1, fun J H1 o1 G Y k1 R1 s1 hz W hG hY D hD => ?_⟩
  have nB : ¬ B D := fun z => by
    obtain ⟨u, e⟩ := R1.dom D z
    rw [hD] at e
    cases e
  -- the invariant: at turn i
  refine lc_it W (fun i H2 => ∃ δ3 o2 acc rs1 rs2, R K B H2 (L2.wipe σ own) (wipeD δ3 own) (wipeM M own) o2 ∧ Kp (wc || we) o1 H1 H2 ∧ Sub o1 H1 o2 ∧ ¬ o2.any D ∧ H2 D = some (.lst acc) ∧ RepAll (rdF K H2) rs1 acc ∧ acc.length ≤ i ∧ lcL t own c f (ds.drop i) δ3 = some (rs2, δ2) ∧ rs = rs1 ++ rs2)
    ?_ (fun i H2 _ ⟨_, _, _, _, _, _, kk, _⟩ => hG H2 (kk.up fun _ => rfl)) ?_ ?_
  · have n1 : ¬ (cutO o1 (wipeM M own)).any D := fun z => R1.fresh hD (cutO_le z)
    exact ⟨δ1, _, [], [], rs, (R1.keep (Ext.new hD)).wipe, Kp.all (Ext.new hD), fun a z => .inl (cutO_le z), n1, upd_same, .nil, Nat.le_refl _, h2, rfl⟩
  · rintro i x H2 H3 hi ⟨δ3, o2, acc, rs1, rs2, R2, k2, s2, nD, eD, ra, la, h3, e3⟩ y
    obtain ⟨d, hd, ext, rd⟩ := hY i H2 x H3 (k2.up fun _ => rfl) y
    have hdr : ds.drop i = d :: ds.drop (i + 1) := by
      rw [List.drop_eq_getElem_cons hi]
      rw [List.getElem?_eq_getElem hi] at hd
      cases hd
      rfl
    rw [hdr] at h3
    obtain ⟨δ4, h4, h3⟩ := Option.bind_eq_some_iff.mp h3
    obtain ⟨⟨b, δ5⟩, h5, h3⟩ := Option.bind_eq_some_iff.mp h3
    have eD3 : H3 D = some (.lst acc) := ext _ _ eD
    refine ⟨wipeD δ3 own, o2, d, noP, δ4, R2.keep ext, rd, fun _ z => z.elim, fun _ z => z.elim, h4, fun σ4 o4 R4 s4 off => ⟨?_, ?_⟩⟩
    · rw [wipe_off off hss, wipe_wipe]
    have eσ : L2.wipe σ4 own = L2.wipe σ own := by rw [wipe_off off hss, wipe_wipe]
    have s4' : ∀ a, o4.any a → o2.any a := fun a z => (s4 a z).elim id fun q => q.elim
    have k3 : Kp (wc || we) o1 H1 H3 := k2.trans s2 (Kp.all ext)
    refine ⟨δ4, o4, b, δ5, R4, h5, fun H5 o5 k5 R5 s5 => ?_⟩
    have nD5 : ¬ o5.any D := fun z => by
      rcases s5 D z with q | q
      · exact nD (s4' D q)
      · rw [eD3] at q; cases q
    have eD5 : H5 D = some (.lst acc) := k5.keep _ _ eD3 fun _ z => nD (s4' D z)
    have s14 : Sub o1 H1 o4 := fun a z => s2 a (s4' a z)
    have k15 : Kp (wc || we) o1 H1 H5 := k3.trans s14 (k5.up fun z => by rw [z]; rfl)
    have s15 : Sub o1 H1 o5 := s14.trans k3 s5
    have kF35 : ∀ a u, H3 a = some u → ¬ Mut (some u) → H5 a = some u := R4.kpF k5
    have ra3 : RepAll (rdF K H3) rs1 acc := RepAll.mono (rdF_keep fun a u e _ => ext a u e) ra
    have ra5 : RepAll (rdF K H5) rs1 acc := RepAll.mono (rdF_keep kF35) ra3
    cases b with
    | false =>
      refine iteF ?_
      have R5' := R5.wipe (vs := own)
      rw [eσ, hwk] at R5'
      exact ⟨δ5, _, acc, rs1, rs2, R5', k15, fun a z => s15 a (cutO_le z), fun z => nD5 (cutO_le z), eD5, ra5, Nat.le_succ_of_le la, h3, e3⟩
    | true =>
      refine iteT ?_
      obtain ⟨⟨e, δ6⟩, h6, h3⟩ := Option.bind_eq_some_iff.mp (show ((f δ5).bind _) = _ from h3)
      obtain ⟨⟨rs3, δ7⟩, h7, h3⟩ := Option.bind_eq_some_iff.mp h3
      cases h3
      refine ⟨δ5, o5, e, δ6, R5, h6, fun y H6 o6 p6 k6 R6 s6 r6 f6 c6 => ?_⟩
      have nD6 : ¬ o6.any D := fun z => by
        rcases s6 D z with q | q
        · exact nD5 q
        · rw [eD5] at q; cases q
      have eD6 : H6 D = some (.lst acc) := k6.keep _ _ eD5 fun _ z => nD5 z
      refine ⟨acc, eD6, Nat.lt_of_le_of_lt la (Nat.lt_of_lt_of_le hi hz), ?_⟩
      have R6' := (R6.upd (u' := .lst (acc ++ [y])) eD6 trivial nD6 nB).wipe (vs := own)
      rw [eσ, hwk] at R6'
      have kU : ∀ a u, H6 a = some u → ¬ Mut (some u) → L2.upd H6 D (.lst (acc ++ [y])) a = some u := fun a u e n => by
        rw [upd_ne fun z => by
          subst z
          rw [eD6] at e
          cases e
          exact n trivial]
        exact e
      have k16 : Kp (wc || we) o1 H1 H6 := k15.trans s15 (k6.up fun z => by rw [z]; simp)
      refine ⟨δ6, _, acc ++ [y], rs1 ++ [e], rs3, R6', ⟨fun a u e n => ?_, fun a e => ?_⟩, fun a z => (s15.trans k15 s6) a (cutO_le z), fun z => nD6 (cutO_le z), upd_same, ?_, by rw [List.length_append, List.length_singleton]; omega, h7, by rw [e3, List.append_assoc]; rfl⟩
      · rw [upd_ne fun z => by subst z; rw [hD] at e; cases e]
        exact k16.keep a u e n
      · by_cases z : a = D
        · subst z; exact hD
        · rw [upd_ne z] at e
          exact k16.there a e
      · exact RepAll.append (RepAll.mono (rdF_keep kU) (RepAll.mono (rdF_keep (R5.kpF k6)) ra5)) (.one (Rep.mono (rdF_keep kU) r6))
  · rintro H2 ⟨δ3, o2, acc, rs1, rs2, R2, k2, s2, nD, eD, ra, la, h3, e3⟩
    rw [List.drop_length] at h3
    cases h3
    rw [List.append_nil] at e3
    subst e3
    have kk : Kp (wi || (wc || we)) o H H2 := (k1.up fun z => by rw [z]; rfl).trans s1 (k2.up fun z => by rw [z]; simp)
    have R3 := R2.back R1 k2 (ownOk_of hM)
    refine k (.ref D) H2 _ (fun a => a = D) kk R3 (fun a z => (s1.trans k1 s2) a (cutO_le z)) ⟨D, acc, rfl, rfl, eD, ra⟩ (fun a z => ?_) fun a z => ⟨.lst acc, by rw [z]; exact eD, trivial⟩
    subst z
    exact ⟨k1.there a hD, fun z => nD (cutO_le z)⟩
theorem de_lc {fa : CA} {t : CG} {c : CT} {own : List (Str × Nat)} {ss : List Nat} (hM : ownOk M (own.map (·.2)) = true) (hss : ∀ j ∈ ss, j ∈ own.map (·.2)) (hwk : wipeM M1 (own.map (·.2)) = wipeM M (own.map (·.2))) (hc : X.calm = true) (hN : X.N.Nodup)
    (hi : DI X B M wi tg iter fa mi) (ok : BlkOk X.N X.env.scope scope own)
    (hg : ∀ (s : Shared) (H : Hp) (C : Addr) (cl : List (Str × Addr)) (fp : List Addr), DG (X.blk s H scope (compEnvC scope cl C X.env) fp) B (wipeM M (own.map (·.2))) mi tg t M1 ss)
    (ht : ∀ (s : Shared) (H : Hp) (C : Addr) (cl : List (Str × Addr)) (fp : List Addr), DTs (X.blk s H scope (compEnvC scope cl C X.env) fp) B M1 wc ifs c)
    (he : ∀ (s : Shared) (H : Hp) (C : Addr) (cl : List (Str × Addr)) (fp : List Addr), DE (X.blk s H scope (compEnvC scope cl C X.env) fp) B M1 we elt f .frz) (hs : ∀ x, foldedSetIterable iter X.env x = pure x) :
    DE X B M (wi || (wc || we)) (.ListComp elt [⟨tg, iter, ifs, 0⟩] scope pos) (lcV fa t (own.map (·.2)) c f) .own :=
  PE.mono (pe_lc hc hN hi ok hg ht he hs) fun σ H Q q => tl_lc hM hss hwk σ H Q q
/-- name = [..] on one line, the name a local -/
theorem ds_setLc {fa : CA} {t : CG} {c : CT} {own : List (Str × Nat)} {ss : List Nat} {i : Nat} {y : Str} {py spos : Pos} (hM : ownOk M (own.map (·.2)) = true) (hss : ∀ j ∈ ss, j ∈ own.map (·.2)) (hwk : wipeM M1 (own.map (·.2)) = wipeM M (own.map (·.2))) (hc : X.calm = true) (hN : X.N.Nodup)
    (hy : X.N[i]? = some y) (hyl : X.env.scope.names.lookup y = some .local) (hsw : swapsWith (.ListComp elt [⟨tg, iter, ifs, 0⟩] scope pos) (some (.Name y py)) spos.line X.env = pure true)
    (hi : DI X B M wi tg iter fa mi) (ok : BlkOk X.N X.env.scope scope own)
    (hg : ∀ (s : Shared) (H : Hp) (C : Addr) (cl : List (Str × Addr)) (fp : List Addr), DG (X.blk s H scope (compEnvC scope cl C X.env) fp) B (wipeM M (own.map (·.2))) mi tg t M1 ss)
    (ht : ∀ (s : Shared) (H : Hp) (C : Addr) (cl : List (Str × Addr)) (fp : List Addr), DTs (X.blk s H scope (compEnvC scope cl C X.env) fp) B M1 wc ifs c)
    (he : ∀ (s : Shared) (H : Hp) (C : Addr) (cl : List (Str × Addr)) (fp : List Addr), DE (X.blk s H scope (compEnvC scope cl C X.env) fp) B M1 we elt f .frz) (hs : ∀ x, foldedSetIterable iter X.env x = pure x) :
    DS X B S M (.Assign [.Name y py] (.ListComp elt [⟨tg, iter, ifs, 0⟩] scope pos) spos) (asgS (stS i) (lcV fa t (own.map (·.2)) c f)) (M.set i (some .own)) :=
  PS.mono (ps_setLc hc hN hy hyl hsw hi ok hg ht he hs) fun D' σ H q => by
    have h := ta_asg (w := wi || (wc || we)) (m := .own) (ss := [i]) (K := X.K) D' σ H q
    have hgn : ∀ v σ H Q, TG' X.K B M .own (stS i) (M.set i (some .own)) [i] v σ H Q → gName i v σ H Q := fun v σ H Q q => by
      obtain ⟨δ, o, d, p, δ', hR, r, f, c, ht, k⟩ := q
      unfold stS at ht
      split at ht
      · rename_i hi
        cases ht
        refine k _ _ (hR.set r (fun a z => (f a z).1) c (fun a z => (f a z).2) (by rw [hR.len]; exact hi) rfl) (fun a z => ?_) ⟨List.length_set, fun j hj => ?_⟩
        · rcases setO_any z with z | z
          · exact .inl z
          · exact .inr z
        · exact List.getElem?_set_ne fun e => hj (by rw [e]; exact List.mem_cons_self)
      · cases ht
    exact tl_lc hM hss hwk σ H _ (by
      obtain ⟨δ, o, d, δ', hR, hf, k⟩ := h
      exact ⟨δ, o, d, δ', hR, hf, fun v H' o' p k1 R1 s1 r1 f1 c1 => hgn v σ H' D'.nx (k v H' o' p k1 R1 s1 r1 f1 c1)⟩)
end
end Dn
/-! Den13: lists of one's own: append, item stores; zip; two names at once. -/
namespace Dn
open PySem PySem.Spec PyProof.Rows L2

section
variable {K : PySem.W.Frag} {B : Addr → Prop} {H H' : Hp} {σ : L2.St} {δ : Env} {M : MEnv} {o : Fp}
/-- the list in a slot of one's own -/
theorem R.ownL (r : R K B H σ δ M o) {i : Nat} {m : Md} {ds : List D} (hM : M[i]? = some (some m)) (hw : m.wr = true) (hd : δ[i]? = some (some (.list ds))) :
    ∃ a vs, σ[i]? = some (some (.ref a)) ∧ o i a ∧ H a = some (.lst vs) ∧ RepAll (rdF K H) ds vs := by
  obtain ⟨v, ev, q⟩ := r.at_ i m _ hM hd
  have q' : Own K H (.list ds) v (o i) := by
    cases m with
    | own => exact q
    | io b => exact q.1
    | _ => cases hw
  obtain ⟨a, vs, rfl, h1, h2, h3⟩ := q'
  exact ⟨a, vs, ev, h1, h2, h3⟩
/-- .. is changed -/
theorem R.wr (r : R K B H σ δ M o) {i : Nat} {m : Md} {ds ds' : List D} {a : Addr} {vs vs' : List V} (hM : M[i]? = some (some m)) (hw : m.wr = true) (hd : δ[i]? = some (some (.list ds))) (hσ : σ[i]? = some (some (.ref a))) (ho : o i a) (hH : H a = some (.lst vs)) (hr : RepAll (rdF K H) ds' vs') :
    R K B (L2.upd H a (.lst vs')) σ (δ.set i (some (.list ds'))) M o := by
  have kk : ∀ b v, H b = some v → b ≠ a → L2.upd H a (.lst vs') b = some v := fun b v e n => by rw [upd_ne n]; exact e
  have kF : ∀ b v, H b = some v → ¬ Mut (some v) → L2.upd H a (.lst vs') b = some v := fun b v e n => kk b v e fun z => by
    subst z
    rw [hH] at e
    cases e
    exact n trivial
  have hi : i < δ.length := (List.getElem?_eq_some_iff.mp hd).1
  refine ⟨by rw [List.length_set]; exact r.len, r.dis, fun j b h => ?_, r.sep, fun b h => ?_, fun j m' d h1 h2 => ?_⟩
  · by_cases e : b = a
    · subst e; exact ⟨_, upd_same, trivial⟩
    · obtain ⟨v, e', q⟩ := r.cell j b h
      exact ⟨v, kk b v e' e, q⟩
  · obtain ⟨v, e⟩ := r.dom b h
    exact ⟨v, kk b v e fun z => r.sep a ⟨i, ho⟩ (z ▸ h)⟩
  · by_cases e : j = i
    · subst e
      rw [List.getElem?_set_self hi] at h2
      cases h2
      rw [hM] at h1
      cases h1
      obtain ⟨v, ev, q⟩ := r.at_ j m _ hM hd
      rw [hσ] at ev
      cases ev
      have q' : Own K (L2.upd H a (.lst vs')) (.list ds') (.ref a) (o j) := ⟨a, vs', rfl, ho, upd_same, RepAll.mono (rdF_keep kF) hr⟩
      refine ⟨.ref a, hσ, ?_⟩
      cases m with
      | own => exact q'
      | io b => exact ⟨q', q.2⟩
      | _ => cases hw
    · rw [List.getElem?_set_ne (Ne.symm e)] at h2
      obtain ⟨v, ev, q⟩ := r.at_ j m' d h1 h2
      have kO : ∀ b v, H b = some v → (o j b ∨ ¬ Mut (some v)) → L2.upd H a (.lst vs') b = some v := fun b v e' n => by
        rcases n with n | n
        · exact kk b v e' fun z => e (r.dis j i b n (z ▸ ho))
        · exact kF b v e' n
      refine ⟨v, ev, ?_⟩
      cases m' with
      | own => exact Own.keep q kO
      | io b => exact ⟨Own.keep q.1 kO, q.2⟩
      | sta => exact Rep.mono (rdA_keep fun b v e' n => by
          rcases n with n | n
          · exact kk b v e' fun z => r.sep a ⟨i, ho⟩ (z ▸ n)
          · exact kF b v e' n) q
      | frz => exact Rep.mono (rdF_keep kF) q
      | len => exact q.elim
theorem Kp.wr {o : Fp} {a : Addr} {u u' : HO} (hn : o.any a) (hH : H a = some u) : Kp true o H (L2.upd H a u') := by
  refine ⟨fun b v e n => ?_, fun b e => ?_⟩
  · rw [upd_ne fun z => n rfl (by rw [z]; exact hn)]
    exact e
  · by_cases z : b = a
    · subst z; rw [upd_same] at e; cases e
    · rw [upd_ne z] at e; exact e
end
section
variable {X : Cx} {B : Addr → Prop} {S : Sc} {M M1 M2 M' N : MEnv} {e c tg iter eo ei : Expr} {f f' : CE} {g h : CS} {m m1 m2 mi : Md} {w w1 w2 : Bool} {pos : Pos}
/-- x.append(e) -/
def apS (i : Nat) (f : CE) : CS := fun δ => match δ[i]? with
  | some (some (.list _)) => (f δ).bind fun p => match p.2[i]? with
    | some (some (.list ds)) => if ds.length < sizeLine then some (.nx (p.2.set i (some (.list (ds ++ [p.1]))))) else none
    | _ => none
  | _ => none
theorem apS_inv {i : Nat} {f : CE} {δ : Env} {fl : Fl} (h : apS i f δ = some fl) : ∃ ds0 d δ1 ds, δ[i]? = some (some (.list ds0)) ∧ f δ = some (d, δ1) ∧ δ1[i]? = some (some (.list ds)) ∧ ds.length < sizeLine ∧ fl = .nx (δ1.set i (some (.list (ds ++ [d])))) := by
  unfold apS at h
  split at h
  · rename_i ds0 h0
    obtain ⟨⟨d, δ1⟩, h1, h⟩ := Option.bind_eq_some_iff.mp h
    dsimp only at h
    split at h
    · rename_i ds h2
      split at h
      · rename_i hz
        cases h
        exact ⟨ds0, d, δ1, ds, h0, h1, h2, hz, rfl⟩
      · cases h
    · cases h
  · cases h
theorem ds_append {i : Nat} {px apos cpos : Pos} {x : Str} (hM : M[i]? = some (some m)) (hwr : m.wr = true) (hx : PE X (.Name x px) (tVar i)) (he : DE X B M w e f .frz)
    (hstar : PA X [e] (tCons (TD X.K B M w f .frz) tNil)) (hp : ∀ {te : TE} {t : TA}, PE X (.Name x px) te → PA X [e] t → PE X (.Call (.Attribute (.Name x px) "append" apos) [e] [] cpos) (tBM X.K "list" rAppend te t))
    (hs : swapsWith (.Call (.Attribute (.Name x px) "append" apos) [e] [] cpos) none pos.line X.env = pure false) :
    DS X B S M (.Expr (.Call (.Attribute (.Name x px) "append" apos) [e] [] cpos) pos) (apS i f) M := PS.mono (ps_expr (hp hx hstar) hs) fun D' σ H q => by
  obtain ⟨δ, o, fl, hR, hf, k⟩ := q
  obtain ⟨ds0, d, δ1, ds, h0, h1, h2, hz, rfl⟩ := apS_inv hf
  obtain ⟨a0, vs0, e0, ho0, hH0, _⟩ := hR.ownL hM hwr h0
  refine ⟨.ref a0, e0, .inl ⟨rfl, vs0, .inl (.inl hH0)⟩, δ, o, d, δ1, hR, h1, fun v H1 o1 p1 k1 R1 s1 r1 f1 c1 => ?_⟩
  obtain ⟨a, vs, ev, ho, hH, hv⟩ := R1.ownL hM hwr h2
  rw [e0] at ev
  cases ev
  refine ⟨a0, vs, v, rfl, rfl, hH, by rw [← hv.length]; exact hz, ?_⟩
  exact k σ _ o1 ((k1.up fun _ => rfl).trans s1 (Kp.wr ⟨i, ho⟩ hH)) s1 (R1.wr hM hwr h2 e0 ho hH (RepAll.append hv (.one r1)))
/-- x[j] = e -/
def stI (i : Nat) (f : CE) (g : CE) : CS := fun δ => (f δ).bind fun p => match p.2[i]? with
  | some (some (.list _)) => (g p.2).bind fun q => match q.1, q.2[i]? with
    | .int k, some (some (.list ds)) => (ixN ds.length k).bind fun j => some (.nx (q.2.set i (some (.list (ds.set j p.1)))))
    | _, _ => none
  | _ => none
theorem stI_inv {i : Nat} {f g : CE} {δ : Env} {fl : Fl} (h : stI i f g δ = some fl) : ∃ d δ1 ds0 k δ2 ds j, f δ = some (d, δ1) ∧ δ1[i]? = some (some (.list ds0)) ∧ g δ1 = some (.int k, δ2) ∧ δ2[i]? = some (some (.list ds)) ∧ ixN ds.length k = some j ∧ fl = .nx (δ2.set i (some (.list (ds.set j d)))) := by
  unfold stI at h
  obtain ⟨⟨d, δ1⟩, h1, h⟩ := Option.bind_eq_some_iff.mp h
  dsimp only at h
  split at h
  · rename_i ds0 h0
    obtain ⟨⟨q, δ2⟩, h2, h⟩ := Option.bind_eq_some_iff.mp h
    dsimp only at h
    split at h
    · rename_i k ds hk
      obtain ⟨j, hj, h⟩ := Option.bind_eq_some_iff.mp h
      cases h
      exact ⟨d, δ1, ds0, k, δ2, ds, j, h1, h0, h2, hk, hj, rfl⟩
    · cases h
  · cases h
theorem ds_setItem {i : Nat} {px spos : Pos} {x : Str} (hM : M[i]? = some (some m)) (hwr : m.wr = true) (hx : PE X (.Name x px) (tVar i)) (he : DE X B M w e f .frz) (hi : DE X B M w1 ei f' m1)
    (ha : ∀ v, assign (.Subscript (.Name x px) ei spos) X.env v = (do
      let ov ← holding [v] (eval (.Name x px) X.env)
      let iv ← holding [v, ov] (eval ei X.env)
      standAt spos
      holding [v, ov, iv] (setItem ov iv v)
      release [v, ov, iv] []))
    (hs : swapsWithSole [.Subscript (.Name x px) ei spos] e pos.line X.env = pure false) (hw : swappedStores [.Subscript (.Name x px) ei spos] e X.env = pure none) (h1 : (assignEach [.Subscript (.Name x px) ei spos] X.env).map (·.2) = [assign (.Subscript (.Name x px) ei spos) X.env]) :
    DS X B S M (.Assign [.Subscript (.Name x px) ei spos] e pos) (stI i f f') M := PS.mono (ps_asg he (pg_sub hx hi set_list ha) hs hw h1) fun D' σ H q => by
  obtain ⟨δ, o, fl, hR, hf, k⟩ := q
  obtain ⟨d, δ1, ds0, n, δ2, ds, j, h1, h0, h2, h3, hj, rfl⟩ := stI_inv hf
  refine ⟨δ, o, d, δ1, hR, h1, fun v H1 o1 p1 k1 R1 s1 r1 f1 c1 => ?_⟩
  obtain ⟨a0, vs0, e0, ho0, hH0, _⟩ := R1.ownL hM hwr h0
  refine ⟨.ref a0, e0, δ1, o1, .int n, δ2, R1, h2, fun u H2 o2 p2 k2 R2 s2 r2 f2 c2 => ?_⟩
  cases (show Rep (rdL X.K H2) (.int n) u from r2.lent)
  obtain ⟨a, vs, ev, ho, hH, hv⟩ := R2.ownL hM hwr h3
  rw [e0] at ev
  cases ev
  have r1' : Rep (rdF X.K H2) d v := Rep.mono (rdF_keep (R1.kpF k2)) r1
  have kk := (k1.up (w' := true) fun _ => rfl).trans s1 (k2.up (w' := true) fun _ => rfl)
  have ss := s1.trans k1 s2
  refine ⟨a0, vs, n, j, rfl, rfl, hH, by rw [← hv.length]; exact hj, ?_⟩
  exact k σ _ o2 (kk.trans ss (Kp.wr ⟨i, ho⟩ hH)) ss (R2.wr hM hwr h3 e0 ho hH (RepAll.set r1' j hv))

/-! x[j] op= e -/
def rGetL : V → V → Hp → VK → Prop := fun o i H Q => ∃ p xs k v, o = .ref p ∧ i = .int k ∧ H p = some (.lst xs) ∧ atI xs k = some v ∧ Q v H
theorem get_list : PGet X rGetL := by
  intro pins s σ H o i ov iv Q I ro ri h
  obtain ⟨p, xs, k, z, rfl, rfl, hq, he, q⟩ := h
  cases ro
  obtain ⟨t, rfl⟩ := ri
  obtain ⟨its, r, pl, hz⟩ := I.list (X := X) (.inl (.inl hq))
  obtain ⟨j, h1, h2, h3, h4, h5⟩ := atI_get he
  obtain ⟨w, ew, rw'⟩ := r.get h2
  have hl := r.length
  have hn := line63
  have fin : EP X pins σ Q w s := ⟨z, H, I, rw', q⟩
  by_cases h0 : 0 ≤ k
  · have hj : k.toNat = j := by
      rw [seqIndex_of h0 h5] at h1
      exact Option.some.inj h1
    exact wpAny_getItem_list pl.isList h0 (by omega) (by rw [hj]; simpa using ew) fin
  · have hj : (k + (its.toArray.size : Int)).toNat = j := by
      rw [seqIndex_neg (by omega) h4] at h1
      rw [List.size_toArray, ← hl]
      exact Option.some.inj h1
    exact wpAny_getItem_list_neg pl.isList (by omega) (by rw [List.size_toArray] <;> omega) (by omega) (by rw [hj]; simpa using ew) fin
/-- an operation done in place, by data -/
def ipD (K : PySem.W.Frag) (φ : D → D → Option D) : TIp := rD2 K φ .frz
def auI (i : Nat) (φ : D → D → Option D) (g f : CE) : CS := fun δ => match δ[i]? with
  | some (some (.list _)) => (g δ).bind fun q => match q.1, q.2[i]? with
    | .int k, some (some (.list ds0)) => (atI ds0 k).bind fun old => (f q.2).bind fun p => (φ old p.1).bind fun new => match p.2[i]? with
      | some (some (.list ds)) => (ixN ds.length k).bind fun j => some (.nx (p.2.set i (some (.list (ds.set j new)))))
      | _ => none
    | _, _ => none
  | _ => none
theorem auI_inv {i : Nat} {φ : D → D → Option D} {f g : CE} {δ : Env} {fl : Fl} (h : auI i φ g f δ = some fl) : ∃ dsa k δ1 ds0 old d δ2 new ds j, δ[i]? = some (some (.list dsa)) ∧ g δ = some (.int k, δ1) ∧ δ1[i]? = some (some (.list ds0)) ∧ atI ds0 k = some old ∧
    f δ1 = some (d, δ2) ∧ φ old d = some new ∧ δ2[i]? = some (some (.list ds)) ∧ ixN ds.length k = some j ∧ fl = .nx (δ2.set i (some (.list (ds.set j new)))) := by
  unfold auI at h
  split at h
  · rename_i dsa ha
    obtain ⟨⟨q, δ1⟩, h1, h⟩ := Option.bind_eq_some_iff.mp h
    dsimp only at h
    split at h
    · rename_i k ds0 h2
      obtain ⟨old, h3, h⟩ := Option.bind_eq_some_iff.mp h
      obtain ⟨⟨d, δ2⟩, h4, h⟩ := Option.bind_eq_some_iff.mp h
      obtain ⟨new, h5, h⟩ := Option.bind_eq_some_iff.mp h
      dsimp only at h
      split at h
      · rename_i ds h6
        obtain ⟨j, hj, h⟩ := Option.bind_eq_some_iff.mp h
        cases h
        exact ⟨dsa, k, δ1, ds0, old, d, δ2, new, ds, j, ha, h1, h2, h3, h4, h5, h6, hj, rfl⟩
      · cases h
    · cases h
  · cases h
theorem ds_augItem {i : Nat} {φ : D → D → Option D} {op : Operator} {px spos : Pos} {x : Str} (hM : M[i]? = some (some m)) (hwr : m.wr = true) (hx : PE X (.Name x px) (tVar i)) (hi : DE X B M w1 ei f' m1) (he : DE X B M w e f .frz) (ho : PIp X op (rD2 X.K φ .frz))
    (ha : ∀ ov iv new, augStore ei ov iv new = (do holding [new, ov, iv] (setItem ov iv new); release [new, ov, iv] []; pure .next)) :
    DS X B S M (.AugAssign (.Subscript (.Name x px) ei spos) op e pos) (auI i φ f' f) M := PS.mono (ps_augS hx hi get_list he ho set_list ha) fun D' σ H q => by
  obtain ⟨δ, o, fl, hR, hf, k⟩ := q
  obtain ⟨dsa, n, δ1, ds0, old, d, δ2, new, ds, j, ha, h1, h2, h3, h4, h5, h6, hj, rfl⟩ := auI_inv hf
  obtain ⟨a0, vs0, e0, ho0, hH0, _⟩ := hR.ownL hM hwr ha
  refine ⟨.ref a0, e0, δ, o, .int n, δ1, hR, h1, fun u H1 o1 p1 k1 R1 s1 r1 f1 c1 => ?_⟩
  cases (show Rep (rdL X.K H1) (.int n) u from r1.lent)
  obtain ⟨a, vs, ev, ho, hH, hv⟩ := R1.ownL hM hwr h2
  rw [e0] at ev
  cases ev
  obtain ⟨v, hv1, rv⟩ := atI_rep hv h3
  refine ⟨a0, vs, n, v, rfl, rfl, hH, hv1, δ1, o1, d, δ2, R1, h4, fun y H2 o2 p2 k2 R2 s2 r2 f2 c2 => ?_⟩
  have rv2 : Rep (rdF X.K H2) old v := Rep.mono (rdF_keep (R1.kpF k2)) rv
  have kk := (k1.up (w' := true) fun _ => rfl).trans s1 (k2.up (w' := true) fun _ => rfl)
  have ss := s1.trans k1 s2
  refine ⟨old, d, new, Rep.mono rdF_L rv2, Rep.mono rdF_L r2, h5, fun _ z H3 p3 k3 r3 f3 c3 => ?_⟩
  have R3 := R2.keep k3
  obtain ⟨a, vs3, ev, ho3, hH3, hv3⟩ := R3.ownL hM hwr h6
  rw [e0] at ev
  cases ev
  have r3' : Rep (rdF X.K H3) new z := r3 B
  refine ⟨a0, vs3, n, j, rfl, rfl, hH3, by rw [← hv3.length]; exact hj, ?_⟩
  exact k σ _ o2 ((kk.trans ss (Kp.all k3)).trans ss (Kp.wr ⟨i, ho3⟩ hH3)) ss (R3.wr hM hwr h6 e0 ho3 hH3 (RepAll.set r3' j hv3))
/-- x op= e -/
def auS (i : Nat) (φ : D → D → Option D) (f : CE) : CS := fun δ => match δ[i]? with
  | some (some old) => (f δ).bind fun p => (φ old p.1).bind fun new => some (.nx (p.2.set i (some new)))
  | _ => none
theorem ds_aug {i : Nat} {φ : D → D → Option D} {op : Operator} {px : Pos} {x : Str} (hM : M[i]? = some (some .frz)) (hN : X.N.Nodup) (hi : X.N[i]? = some x) (hx : Loc X.env.scope x) (he : DE X B M w e f m) (ho : PIp X op (rD2 X.K φ .frz)) (hf : X.fn x = true ∨ X.env.scope.names.lookup x = some .local) :
    DS X B S M (.AugAssign (.Name x px) op e pos) (auS i φ f) M := PS.mono (ps_aug hN hi hx he ho hf) fun D' σ H q => by
  obtain ⟨δ, o, fl, hR, hf, k⟩ := q
  unfold auS at hf
  split at hf
  · rename_i old h0
    obtain ⟨⟨d, δ1⟩, h1, hf⟩ := Option.bind_eq_some_iff.mp hf
    obtain ⟨new, h2, hf⟩ := Option.bind_eq_some_iff.mp hf
    cases hf
    obtain ⟨v, ev, rv⟩ := hR.at_ i .frz old hM h0
    refine ⟨v, ev, δ, o, d, δ1, hR, h1, fun y H1 o1 p1 k1 R1 s1 r1 f1 c1 => ?_⟩
    have rv1 : Rep (rdF X.K H1) old v := Rep.mono (rdF_keep (hR.kpF k1)) rv
    refine ⟨old, d, new, Rep.mono rdF_L rv1, r1.lent, h2, fun _ z H2 p2 k2 r2 f2 c2 => ?_⟩
    have hM' : M.set i (some .frz) = M := by
      apply List.ext_getElem?
      intro j
      by_cases e : j = i
      · subst e
        rw [List.getElem?_set_self (List.getElem?_eq_some_iff.mp hM).1, hM]
      · rw [List.getElem?_set_ne (Ne.symm e)]
    have R3 := (R1.keep k2).set (i := i) (m := .frz) (p := noP) (r2 B) (fun _ z => z.elim) (fun _ z => z.elim) (fun _ z => z.elim) (List.getElem?_eq_some_iff.mp ev).1 rfl
    rw [hM'] at R3
    refine k _ H2 _ ((k1.up fun _ => rfl).trans s1 (Kp.all k2)) (fun a z => ?_) R3
    rcases setO_any z with z | z
    · exact s1 a z
    · exact (show False by unfold fpOf at z; split at z <;> exact z).elim
  · cases hf
theorem PIp.of {op : Operator} {r : R2} (h : OpR X (inplaceOp op) r) : PIp X op r := h
end
end Dn
/-! Den14: in-place operators, zip, built-ins by data, two names at once. -/
namespace Dn
open PySem PySem.Spec PyProof.Rows L2

section
variable {X : Cx}
def iaddD : D → D → Option D
  | .int i, .int j => some (.int (i + j))
  | .str x, .str y => if x.length + y.length ≤ sizeLine then some (.str (x ++ y)) else none
  | _, _ => none
theorem i_add : OpR X (inplaceOp .Add) (rD2 X.K iaddD .frz) := OpR.impS (OpR.or iop_add iop_add_str) fun x y H Q h sz => by
  obtain ⟨d, e, r, hd, he, hr, k⟩ := h
  have k := k sz
  cases hd with
  | int i =>
    cases he <;> simp [iaddD] at hr
    subst hr
    exact .inl ⟨_, _, rfl, rfl, k.val (.int _)⟩
  | str a =>
    cases he <;> simp [iaddD] at hr
    obtain ⟨hz, rfl⟩ := hr
    exact .inr ⟨_, _, rfl, rfl, hz, k.val (.str _)⟩
  | _ => cases he <;> simp [iaddD] at hr
theorem i_sub : OpR X (inplaceOp .Sub) (rD2 X.K subD .frz) := OpR.impS (r := rI (fun _ _ => True) fun i j => .int (i - j)) (L2.opI fun _ _ _ _ _ _ _ _ q => isub_int q) fun x y H Q h sz => rI_of (fun _ _ _ => trivial) (fun _ _ _ => .int _) x y H Q h sz
def imulD : D → D → Option D := dI mulC fun i j => .int (i * j)
theorem i_mul : OpR X (inplaceOp .Mult) (rD2 X.K imulD .frz) := OpR.impS iop_mul fun x y H Q h sz => rI_of (fun i j hc => by
  simp only [mulC, Bool.or_eq_true, decide_eq_true_eq] at hc
  unfold CMul
  omega) (fun _ _ _ => .int _) x y H Q h sz

/-! ### built-ins -/
abbrev CB (X : Cx) (f : Value) (φ : List D → Option D) (mo : Md) : Prop := CallR X f (rDN X.K φ mo)
theorem RepAll.one_inv {r : Rdr} {d : D} {vs : List V} (h : RepAll r [d] vs) : ∃ v, vs = [v] ∧ Rep r d v := by
  cases h with
  | cons a b => cases b; exact ⟨_, rfl, a⟩
theorem RepAll.two_inv {r : Rdr} {d e : D} {vs : List V} (h : RepAll r [d, e] vs) : ∃ v u, vs = [v, u] ∧ Rep r d v ∧ Rep r e u := by
  cases h with
  | cons a b =>
    obtain ⟨u, rfl, h⟩ := b.one_inv
    exact ⟨_, u, rfl, a, h⟩
def lenD : List D → Option D
  | [.list ds] => some (.int ds.length)
  | [.tuple ds] => some (.int ds.length)
  | [.str x] => if x.length ≤ sizeLine then some (.int x.length) else none
  | _ => none
theorem b_len : CB X (.builtin "len") lenD .frz := CallR.impS call_len fun vs H Q h sz => by
  obtain ⟨ds, r, hd, hr, k⟩ := h
  have k := k sz
  unfold lenD at hr
  split at hr
  · cases hr
    obtain ⟨v, rfl, h⟩ := hd.one_inv
    cases h with
    | lst ha hb => exact ⟨_, _, rfl, .inl ⟨_, ha, hb.length⟩, k.val (.int _)⟩
  · cases hr
    obtain ⟨v, rfl, h⟩ := hd.one_inv
    cases h with
    | tup ha hb => exact ⟨_, _, rfl, .inr ⟨_, ha, hb.length⟩, k.val (.int _)⟩
  · split at hr
    · rename_i hz
      cases hr
      obtain ⟨v, rfl, h⟩ := hd.one_inv
      cases h
      exact ⟨_, _, rfl, ⟨hz, rfl⟩, k.val (.int _)⟩
    · cases hr
  · cases hr
def absD : List D → Option D
  | [.int i] => some (.int (if i < 0 then -i else i))
  | _ => none
theorem b_abs : CB X (.builtin "abs") absD .frz := CallR.impS call_abs fun vs H Q h sz => by
  obtain ⟨ds, r, hd, hr, k⟩ := h
  unfold absD at hr
  split at hr
  · cases hr
    obtain ⟨v, rfl, h⟩ := hd.one_inv
    cases h
    exact ⟨_, rfl, (k sz).val (.int _)⟩
  · cases hr
def intD : List D → Option D
  | [.int i] => some (.int i)
  | [.bool b] => some (.int (if b then 1 else 0))
  | _ => none
theorem b_int : CB X (.type "int") intD .frz := CallR.impS call_int1 fun vs H Q h sz => by
  obtain ⟨ds, r, hd, hr, k⟩ := h
  unfold intD at hr
  split at hr
  · cases hr
    obtain ⟨v, rfl, h⟩ := hd.one_inv
    cases h
    exact .inl ⟨_, rfl, (k sz).val (.int _)⟩
  · cases hr
    obtain ⟨v, rfl, h⟩ := hd.one_inv
    cases h
    exact .inr ⟨_, rfl, (k sz).val (.int _)⟩
  · cases hr
def tupleD : List D → Option D
  | [.list ds] => if immutAll ds = true then some (.tuple ds) else none
  | [.tuple ds] => if immutAll ds = true then some (.tuple ds) else none
  | _ => none
theorem b_tuple : CB X (.type "tuple") tupleD .frz := CallR.impS call_tuple_of fun vs H Q h sz => by
  obtain ⟨ds, r, hd, hr, k⟩ := h
  have k := k sz
  unfold tupleD at hr
  split at hr
  · split at hr
    · rename_i hi
      cases hr
      obtain ⟨v, rfl, h⟩ := hd.one_inv
      cases h with
      | lst ha hb => exact ⟨_, _, rfl, .inl ⟨ha, fun l hl => k.tupF hl (immAll_F hb hi)⟩⟩
    · cases hr
  · split at hr
    · rename_i hi
      cases hr
      obtain ⟨v, rfl, h⟩ := hd.one_inv
      cases h with
      | tup ha hb => exact ⟨_, _, rfl, .inr ⟨ha, k.val (.tup ha (immAll_F hb hi))⟩⟩
    · cases hr
  · cases hr
def listD : List D → Option D
  | [.list ds] => if immutAll ds = true then some (.list ds) else none
  | [.tuple ds] => if immutAll ds = true then some (.list ds) else none
  | _ => none
theorem b_list : CB X (.type "list") listD .own := CallR.impS call_list_of fun vs H Q h sz => by
  obtain ⟨ds, r, hd, hr, k⟩ := h
  have k := k sz
  unfold listD at hr
  split at hr
  · split at hr
    · rename_i hi
      cases hr
      obtain ⟨v, rfl, h⟩ := hd.one_inv
      cases h with
      | lst ha hb => exact ⟨_, _, rfl, .inl ha, fun l hl => k.lst hl (immAll_F hb hi)⟩
    · cases hr
  · split at hr
    · rename_i hi
      cases hr
      obtain ⟨v, rfl, h⟩ := hd.one_inv
      cases h with
      | tup ha hb => exact ⟨_, _, rfl, .inr ha, fun l hl => k.lst hl (immAll_F hb hi)⟩
    · cases hr
  · cases hr
def asInts : List D → Option (List Int)
  | [] => some []
  | .int i :: ds => (asInts ds).map (i :: ·)
  | _ => none
theorem asInts_rep {r : Rdr} : ∀ {ds : List D} {ns : List Int} {vs : List V}, asInts ds = some ns → RepAll r ds vs → vs = ns.map V.int
  | [], ns, vs, h, hr => by cases h; cases hr; rfl
  | .int i :: ds, ns, vs, h, hr => by
    simp only [asInts] at h
    obtain ⟨ms, h1, rfl⟩ := Option.map_eq_some_iff.mp h
    cases hr with
    | cons a b =>
      cases a
      rw [asInts_rep h1 b]
      rfl
  | .none :: _, _, _, h, _ => by cases h
  | .bool _ :: _, _, _, h, _ => by cases h
  | .str _ :: _, _, _, h, _ => by cases h
  | .list _ :: _, _, _, h, _ => by cases h
  | .tuple _ :: _, _, _, h, _ => by cases h
  | .dict _ :: _, _, _, h, _ => by cases h
def asBools : List D → Option (List Bool)
  | [] => some []
  | .bool i :: ds => (asBools ds).map (i :: ·)
  | _ => none
theorem asBools_rep {r : Rdr} : ∀ {ds : List D} {ns : List Bool} {vs : List V}, asBools ds = some ns → RepAll r ds vs → vs = ns.map V.bl
  | [], ns, vs, h, hr => by cases h; cases hr; rfl
  | .bool i :: ds, ns, vs, h, hr => by
    simp only [asBools] at h
    obtain ⟨ms, h1, rfl⟩ := Option.map_eq_some_iff.mp h
    cases hr with
    | cons a b =>
      cases a
      rw [asBools_rep h1 b]
      rfl
  | .none :: _, _, _, h, _ => by cases h
  | .int _ :: _, _, _, h, _ => by cases h
  | .str _ :: _, _, _, h, _ => by cases h
  | .list _ :: _, _, _, h, _ => by cases h
  | .tuple _ :: _, _, _, h, _ => by cases h
  | .dict _ :: _, _, _, h, _ => by cases h
def sumD : List D → Option D
  | [.list ds] => (asInts ds).map fun ns => .int ns.sum
  | _ => none
theorem b_sum (hc : X.calm = true) : CB X (.builtin "sum") sumD .frz := CallR.impS (cr_sum hc) fun vs H Q h sz => by
  obtain ⟨ds, r, hd, hr, k⟩ := h
  unfold sumD at hr
  split at hr
  · obtain ⟨ns, h1, rfl⟩ := Option.map_eq_some_iff.mp hr
    obtain ⟨v, rfl, h⟩ := hd.one_inv
    cases h with
    | lst ha hb =>
      rw [asInts_rep h1 hb] at ha
      exact ⟨_, ns, rfl, ha, (k sz).val (.int _)⟩
  · cases hr
def allD : List D → Option D
  | [.list ds] => (asBools ds).map fun ns => .bool (ns.all id)
  | _ => none
def anyD : List D → Option D
  | [.list ds] => (asBools ds).map fun ns => .bool (ns.any id)
  | _ => none
end
end Dn
/-! Den15: all, any, zip, isinstance, two and three names at once, a written dict asked at once. -/
namespace Dn
open PySem PySem.Spec PyProof.Rows L2

section
variable {X : Cx} {B : Addr → Prop} {S : Sc} {M M1 M2 M' N : MEnv} {a b c e tg iter : Expr} {es elts : List Expr} {f f1 f2 f3 : CE} {g h : CS} {m m1 m2 m3 mi : Md} {w w1 w2 w3 : Bool} {pos : Pos}
theorem b_all (hc : X.calm = true) : CB X (.builtin "all") allD .frz := CallR.impS (cr_all hc) fun vs H Q h sz => by
  obtain ⟨ds, r, hd, hr, k⟩ := h
  unfold allD at hr
  split at hr
  · obtain ⟨ns, h1, rfl⟩ := Option.map_eq_some_iff.mp hr
    obtain ⟨v, rfl, h⟩ := hd.one_inv
    cases h with
    | lst ha hb =>
      rw [asBools_rep h1 hb] at ha
      exact ⟨_, ns, rfl, ha, (k sz).val (.bl _)⟩
  · cases hr
theorem b_any (hc : X.calm = true) : CB X (.builtin "any") anyD .frz := CallR.impS (cr_any hc) fun vs H Q h sz => by
  obtain ⟨ds, r, hd, hr, k⟩ := h
  unfold anyD at hr
  split at hr
  · obtain ⟨ns, h1, rfl⟩ := Option.map_eq_some_iff.mp hr
    obtain ⟨v, rfl, h⟩ := hd.one_inv
    cases h with
    | lst ha hb =>
      rw [asBools_rep h1 hb] at ha
      exact ⟨_, ns, rfl, ha, (k sz).val (.bl _)⟩
  · cases hr
/-- a call of a built-in function -/
theorem de_callB {x : Str} {id : String} {φ : List D → Option D} {fa : CA} {ms : List Md} {p : Pos} (hr : CB X (.builtin id) φ m) (hg : Gl X x) (hm : X.mg x = none) (hv : bootBuiltins x = some (.builtin id)) (ha : DA X B M w (e :: es) fa ms) (hn : x ≠ "__name__") (hdb : (x == ("__debug__" : Str)) = false)
    (he : starEach (e :: es) X.env = (false, eval e X.env) :: starEach es X.env) (hpl : (backTo pos (starEach es X.env)).any (·.1) = false) : DE X B M w (.Call (.Name x p) (e :: es) [] pos) (cN φ fa) m :=
  PE.mono (pe_callB hr hg hm hv ha hn hdb he hpl) fun σ H Q h => td_N σ H Q X.K h
/-- a call of a built-in class -/
theorem de_callTy {x : Str} {T : String} {φ : List D → Option D} {fa : CA} {ms : List Md} {p : Pos} (hr : CB X (.type T) φ m) (hg : Gl X x) (hm : X.mg x = none) (hv : bootBuiltins x = some (.type T)) (ha : DA X B M w (e :: es) fa ms) (hn : x ≠ "__name__") (hdb : (x == ("__debug__" : Str)) = false)
    (he : starEach (e :: es) X.env = (false, eval e X.env) :: starEach es X.env) (hpl : (backTo pos (starEach es X.env)).any (·.1) = false) : DE X B M w (.Call (.Name x p) (e :: es) [] pos) (cN φ fa) m :=
  PE.mono (pe_callTy hr hg hm hv ha hn hdb he hpl) fun σ H Q h => td_N σ H Q X.K h

/-! zip -/
def prI (x y : D) : D := .tuple [x, y]
def zipD : List D → Option (List D)
  | [.list xs, .list ys] => some (List.zipWith prI xs ys)
  | [.tuple xs, .tuple ys] => some (List.zipWith prI xs ys)
  | _ => none
theorem zipD_inv {as ds : List D} (h : zipD as = some ds) : ∃ xs ys, ds = List.zipWith prI xs ys ∧ (as = [.list xs, .list ys] ∨ as = [.tuple xs, .tuple ys]) := by
  unfold zipD at h
  split at h
  · cases h; exact ⟨_, _, rfl, .inl rfl⟩
  · cases h; exact ⟨_, _, rfl, .inr rfl⟩
  · cases h
def stM : Md → Bool | .frz => true | .sta => true | _ => false
theorem stM_wk {m : Md} (h : stM m = true) : wkM m = true := by cases m <;> first | rfl | cases h
theorem stM_pt {m : Md} (h : stM m = true) : ptM m = m := by cases m <;> first | rfl | cases h
theorem RRep.noP {K : PySem.W.Frag} {H : Hp} {B : Addr → Prop} {m : Md} {d : D} {v : V} {p q : Addr → Prop} (h : RRep K H B m d v p) (hm : stM m = true) : RRep K H B m d v q := by
  cases m <;> first | exact h | cases hm
/-- a new pair of two that are held by m -/
theorem RRep.pair {K : PySem.W.Frag} {H : Hp} {B : Addr → Prop} {m : Md} {d e : D} {x y : V} {T : Addr} (hm : stM m = true) (hT : H T = none) (h1 : RRep K H B m d x Dn.noP) (h2 : RRep K H B m e y Dn.noP) : RRep K (upd H T (.tup [x, y])) B m (prI d e) (.ref T) Dn.noP := by
  have ext : Ext H (upd H T (.tup [x, y])) := Ext.new hT
  cases m with
  | frz => exact .tup (.inl (.inl upd_same)) (.cons (Rep.mono (rdF_keep fun a u e _ => ext a u e) h1) (.one (Rep.mono (rdF_keep fun a u e _ => ext a u e) h2)))
  | sta => exact .tup (.inl (.inl upd_same)) (.cons (Rep.mono (rdA_keep fun a u e _ => ext a u e) h1) (.one (Rep.mono (rdA_keep fun a u e _ => ext a u e) h2)))
  | _ => cases hm
theorem walk_zipT {K : PySem.W.Frag} {a b : Addr} {xs ys : List V} {n : Nat} (hn : n = min xs.length ys.length) : L2.Walk (RZ.ItzT K a b) n (fun H => SqT K H a xs ∧ SqT K H b ys) (YPair (fun i => xs[i]?) (fun i => ys[i]?)) := by
  subst hn
  refine ⟨fun i _ hi q => ?_, fun _ q => ⟨xs, ys, q.1, q.2, by omega⟩, fun i H v H' _ q y => ?_⟩
  · have h1 : i < xs.length := by omega
    have h2 : i < ys.length := by omega
    exact ⟨xs, ys, xs[i], ys[i], q.1, q.2, by simp [h1], by simp [h2]⟩
  · obtain ⟨T, x, z, h1, h2, h3, h4, h5⟩ := y
    exact ⟨T, x, z, h1, h2, h3, h4 xs q.1, h5 ys q.2⟩
theorem di_zip {e2 : Expr} {fa : CA} {p tpos : Pos} {kk : Nat} (hst : stM m = true) (hg : Gl X "zip") (hm : X.mg "zip" = none) (ha : DA X B M w [e, e2] fa [m, m]) (hs : starEach [e, e2] X.env = (false, eval e X.env) :: starEach [e2] X.env) (hpl : (backTo pos (starEach [e2] X.env)).any (·.1) = false) :
    DI X B M w (.Tuple elts kk tpos) (.Call (.Name "zip" p) [e, e2] [] pos) (rgV zipD fa) m := by
  have hsz : PA X [e, e2] (fun σ H Q => TA' X.K B M w fa [m, m] σ H fun vs H' => Sz X.K H' → Q vs H') := ⟨fun ps pins s σ H Q I q => thn (ha.run ps pins s σ H _ I q) fun us s' ⟨vs, H', I', r, q'⟩ => ⟨vs, H', I', r, q' (Sz.of I')⟩⟩
  refine PI.mono (RZ.pi_zipA hg hm hsz hs hpl) fun σ H Rr h => ?_
  obtain ⟨δ, o, ds, δ', hR, hf, k⟩ := h
  obtain ⟨⟨as, δ1⟩, h1, hf⟩ := Option.bind_eq_some_iff.mp hf
  obtain ⟨ds', h2, hf⟩ := Option.bind_eq_some_iff.mp hf
  cases hf
  refine ⟨δ, o, as, _, hR, h1, fun vs H1 o1 k1 R1 s1 a1 sz => ?_⟩
  have lz : ∀ (xs ys : List D), (List.zipWith prI xs ys).length = min xs.length ys.length := fun xs ys => List.length_zipWith
  have gz : ∀ (xs ys : List D) (i : Nat) (x y : D), xs[i]? = some x → ys[i]? = some y → (List.zipWith prI xs ys)[i]? = some (prI x y) := fun xs ys i x y e1 e2 => by
    rw [List.getElem?_zipWith, e1, e2]
  obtain ⟨xs, ys, rfl, rfl | rfl⟩ := zipD_inv h2
  · cases a1 with
    | cons ra rb =>
      cases rb with
      | cons rb rn =>
        cases rn
        obtain ⟨a, vs, rfl, hl, hG, hY⟩ := RRep.stay R1 (ra.noP (q := noP) hst) (fun _ z => z.elim) (stM_wk hst)
        obtain ⟨b, us, rfl, hl2, hG2, hY2⟩ := RRep.stay R1 (rb.noP (q := noP) hst) (fun _ z => z.elim) (stM_wk hst)
        have hG0 := hG H1 (Kp.refl _ _ _)
        have hG20 := hG2 H1 (Kp.refl _ _ _)
        have z1 := sz _ _ (.inl hG0)
        refine ⟨a, b, vs, us, rfl, .inl ⟨hG0, hG20, k _ H1 o1 (fun H => SqL X.K H a vs ∧ SqL X.K H b us) (YPair (fun i => vs[i]?) fun i => us[i]?) k1 R1 s1 (by rw [lz]; omega) (walk_zip (by rw [lz, hl, hl2])) (fun H2 k2 => ⟨hG H2 k2, hG2 H2 k2⟩) fun i H2 x H3 k2 y => ?_⟩⟩
        obtain ⟨T, x, z, rfl, hT, rfl, e1, e2⟩ := y
        obtain ⟨d, hd, rd⟩ := hY H2 k2 i x e1
        obtain ⟨d2, hd2, rd2⟩ := hY2 H2 k2 i z e2
        rw [stM_pt hst] at rd rd2
        exact ⟨_, gz _ _ _ _ _ hd hd2, Ext.new hT, RRep.pair hst hT rd rd2⟩
  · cases a1 with
    | cons ra rb =>
      cases rb with
      | cons rb rn =>
        cases rn
        obtain ⟨a, vs, rfl, hl, hG, hY⟩ := RRep.stayT R1 (ra.noP (q := noP) hst) (stM_wk hst)
        obtain ⟨b, us, rfl, hl2, hG2, hY2⟩ := RRep.stayT R1 (rb.noP (q := noP) hst) (stM_wk hst)
        have hG0 := hG H1 (Kp.refl _ _ _)
        have hG20 := hG2 H1 (Kp.refl _ _ _)
        have z1 := sz _ _ (.inr hG0)
        refine ⟨a, b, vs, us, rfl, .inr ⟨hG0, hG20, k _ H1 o1 (fun H => SqT X.K H a vs ∧ SqT X.K H b us) (YPair (fun i => vs[i]?) fun i => us[i]?) k1 R1 s1 (by rw [lz]; omega) (walk_zipT (by rw [lz, hl, hl2])) (fun H2 k2 => ⟨hG H2 k2, hG2 H2 k2⟩) fun i H2 x H3 k2 y => ?_⟩⟩
        obtain ⟨T, x, z, rfl, hT, rfl, e1, e2⟩ := y
        obtain ⟨d, hd, rd⟩ := hY H2 k2 i x e1
        obtain ⟨d2, hd2, rd2⟩ := hY2 H2 k2 i z e2
        rw [stM_pt hst] at rd rd2
        exact ⟨_, gz _ _ _ _ _ hd hd2, Ext.new hT, RRep.pair hst hT rd rd2⟩

/-! isinstance -/
def tyN : D → String
  | .none => "NoneType"
  | .bool _ => "bool"
  | .int _ => "int"
  | .str _ => "str"
  | .list _ => "list"
  | .tuple _ => "tuple"
  | .dict _ => "dict"
/-- is a value of a type one of another -/
def isiB (T : String) (d : D) : Bool := match d with
  | .bool _ => T == "bool" || T == "int"
  | d => tyN d == T
def isiV (T : String) (f : CE) : CE := c1 (fun d => some (.bool (isiB T d))) f
def goodT (T : String) : Bool := T == "int" || T == "str" || T == "bool" || T == "tuple" || T == "list" || T == "dict"
theorem kit_all (T : String) (hT : goodT T = true) (d : D) : kitB (tyN d) T = some (isiB T d) := by
  simp only [goodT, Bool.or_eq_true, beq_iff_eq] at hT
  rcases hT with ((((rfl | rfl) | rfl) | rfl) | rfl) | rfl <;> cases d <;> (simp only [tyN, isiB]; decide +kernel)
def rIsiD (K : PySem.W.Frag) (T : String) : List V → Hp → VK → Prop := fun vs H Q => ∃ x d, vs = [x, .ty T] ∧ Rep (rdL K H) d x ∧ goodT T = true ∧ (∀ kvs, d ≠ .dict kvs) ∧ Q (.bl (isiB T d)) H
theorem call_isiD {T : String} : CallR X (.builtin "isinstance") (rIsiD X.K T) := by
  intro pins s σ H xs us Q I r h
  obtain ⟨x, d, rfl, hd, hT, nd, q⟩ := h
  obtain ⟨u, u2, rfl, ru, ru2⟩ := vals2 r
  cases (show u2 = Value.type T from ru2)
  have kk := kit_ty (K := X.K) (kit_all T hT d)
  have fin : ∀ tk, EP X pins σ Q (.bool (isiB T d)) { s with toks := tk } := fun tk => ⟨.bl _, H, I.tok _, rfl, q⟩
  cases hd with
  | non => cases (show u = Value.none from ru); exact PySem.W.kia_one PySem.W.kitx_none I.kIn True.intro kk (fun z => nomatch z) fin
  | bl y => cases (show u = Value.bool y from ru); exact PySem.W.kia_one PySem.W.kitx_bool I.kIn True.intro kk (fun z => nomatch z) fin
  | int i => obtain ⟨t, q⟩ := (show ∃ t, u = Value.int i t from ru); cases q; exact PySem.W.kia_one PySem.W.kitx_int I.kIn True.intro kk (fun z => nomatch z) fin
  | str y => obtain ⟨t, q⟩ := (show ∃ t, u = Value.str y t from ru); cases q; exact PySem.W.kia_one PySem.W.kitx_str I.kIn True.intro kk (fun z => nomatch z) fin
  | lst ha hb =>
    cases ru
    obtain ⟨its, rv, ⟨o, n, ho, hc, _, _⟩, _⟩ := I.list ha
    exact PySem.W.kia_one PySem.W.kitx_list I.kIn ⟨o, ho, hc⟩ kk (fun z => nomatch z) fin
  | tup ha hb =>
    cases ru
    obtain ⟨its, rv, ⟨o, ho, hc, _⟩, _⟩ := I.tuple ha
    exact PySem.W.kia_one PySem.W.kitx_tuple I.kIn ⟨o, ho, hc⟩ kk (fun z => nomatch z) fin
  | dic ha hb => exact absurd rfl (nd _)
end
end Dn
/-! Den16: isinstance as an expression, two and three names at once, a written dict asked at once, the promise of a def by its denotation. -/
namespace Dn
open PySem PySem.Spec PyProof.Rows L2

section
variable {X : Cx} {B : Addr → Prop} {S : Sc} {M M1 M2 M' N : MEnv} {a b c e tg iter : Expr} {es elts : List Expr} {f f1 f2 f3 : CE} {g h : CS} {m m1 m2 m3 mi : Md} {w w1 w2 w3 : Bool} {pos : Pos}
theorem isiV_inv {T : String} {δ δ' : Env} {r : D} (h : isiV T f δ = some (r, δ')) : ∃ d, f δ = some (d, δ') ∧ r = .bool (isiB T d) := by
  obtain ⟨d, h1, h2⟩ := c1_inv h
  cases h2
  exact ⟨d, h1, rfl⟩
def noDic : D → Bool | .dict _ => false | _ => true
/-- isinstance(x, T) with T a built-in type; not of dicts -/
def isiW (T : String) (f : CE) : CE := c1 (fun d => if noDic d = true then some (.bool (isiB T d)) else none) f
theorem de_isi {T : String} {x : Str} {p p2 : Pos} (hT : goodT T = true) (hg : Gl X "isinstance") (hm : X.mg "isinstance" = none) (hgx : Gl X x) (hmx : X.mg x = none) (hvx : bootBuiltins x = some (.type T)) (hnx : x ≠ "__name__") (hdx : (x == ("__debug__" : Str)) = false)
    (he : DE X B M w e f m) (hs : starEach [e, .Name x p2] X.env = (false, eval e X.env) :: starEach [.Name x p2] X.env) (hs2 : starEach [.Name x p2] X.env = [(false, eval (.Name x p2) X.env)]) (hpl : (backTo pos (starEach [.Name x p2] X.env)).any (·.1) = false) :
    DE X B M w (.Call (.Name "isinstance" p) [e, .Name x p2] [] pos) (isiW T f) .frz :=
  PE.mono (pe_callB call_isiD hg hm (by decide +kernel) (pa_cons he (pa_cons (pe_bltn (v := .ty T) hgx hmx hvx rfl hnx hdx) pa_nil hs2) hs) (by decide +kernel) (by decide +kernel) hs hpl) fun σ H Q h => by
    obtain ⟨δ, o, r, δ', hR, hf, k⟩ := h
    obtain ⟨d, h1, h2⟩ := c1_inv hf
    split at h2
    · rename_i nd
      cases h2
      refine ⟨δ, o, d, δ', hR, h1, fun v H1 o1 p1 k1 R1 s1 r1 f1 c1 => ?_⟩
      refine ⟨_, d, rfl, r1.lent, hT, fun kvs z => ?_, k _ H1 o1 noP k1 R1 s1 (.bl _) (fun _ z => z.elim) fun _ z => z.elim⟩
      subst z
      cases nd
    · cases h2

/-! ### a, b = x, y -/
def par2S (i j : Nat) (f g : CE) : CS := fun δ => (f δ).bind fun p => (g p.2).bind fun q => (stS i p.1 q.2).bind fun δ1 => (stS j q.1 δ1).bind fun δ2 => some (.nx δ2)
theorem stS_inv {i : Nat} {d : D} {δ δ' : Env} (h : stS i d δ = some δ') : i < δ.length ∧ δ' = δ.set i (some d) := by
  unfold stS at h
  split at h
  · rename_i hi
    cases h
    exact ⟨hi, rfl⟩
  · cases h
theorem setFresh {o : Fp} {i : Nat} {m : Md} {p : Addr → Prop} {a : Addr} (h : (setO o i (fpOf m p)).any a) : o.any a ∨ p a := by
  rcases setO_any h with z | z
  · exact .inl z
  · unfold fpOf at z
    split at z
    · exact .inr z
    · exact z.elim
theorem ds_par2 {i j : Nat} {x y : Str} {px py pt : Pos} {kt k2 pt2} (hm1 : okS m1 = true) (hm2 : okS m2 = true) (hc : X.calm = true) (hN : X.N.Nodup) (hi : X.N[i]? = some x) (hj : X.N[j]? = some y) (hij : i ≠ j)
    (hx : X.env.scope.names.lookup x = some .local) (hy : X.env.scope.names.lookup y = some .local) (ha : DE X B M w1 a f1 m1) (hb : DE X B M w2 b f2 m2)
    (hs1 : starEach [a, b] X.env = (false, eval a X.env) :: starEach [b] X.env) (hs2 : starEach [b] X.env = [(false, eval b X.env)])
    (hw : swappedStores [.Tuple [.Name x px, .Name y py] kt pt] (.Tuple [a, b] k2 pt2) X.env = pure (some [x, y]))
    (hs : swapsWithSole [.Tuple [.Name x px, .Name y py] kt pt] (.Tuple [a, b] k2 pt2) pos.line X.env = pure false) :
    DS X B S M (.Assign [.Tuple [.Name x px, .Name y py] kt pt] (.Tuple [a, b] k2 pt2) pos) (par2S i j f1 f2) ((M.set i (some m1)).set j (some m2)) :=
  PS.mono (ps_par hc hN hi hj hij hx hy (pa_cons ha (pa_cons hb pa_nil hs2) hs1) hw hs) fun D' σ H q => by
    obtain ⟨δ, o, fl, hR, hf, k⟩ := q
    obtain ⟨⟨d1, δ1⟩, h1, hf⟩ := Option.bind_eq_some_iff.mp hf
    obtain ⟨⟨d2, δ2⟩, h2, hf⟩ := Option.bind_eq_some_iff.mp hf
    obtain ⟨δ3, h3, hf⟩ := Option.bind_eq_some_iff.mp hf
    obtain ⟨δ4, h4, hf⟩ := Option.bind_eq_some_iff.mp hf
    cases hf
    obtain ⟨hi3, rfl⟩ := stS_inv h3
    obtain ⟨hi4, rfl⟩ := stS_inv h4
    refine ⟨δ, o, d1, δ1, hR, h1, fun v1 H1 o1 p1 k1 R1 s1 r1 f1 c1 => ⟨δ1, o1, d2, δ2, R1, h2, fun v2 H2 o2 p2 k2 R2 s2 r2 f2 c2 => ⟨v1, v2, rfl, ?_⟩⟩⟩
    have n1 : ∀ a, p1 a → ¬ o2.any a := fun a z y => by
      rcases s2 a y with h | h
      · exact (f1 a z).2 h
      · obtain ⟨u, e, _⟩ := c1 a z
        rw [h] at e; cases e
    have r1' := RRep.keep (σ := σ) (M := M) R1 r1 k2 (fun a q => (f1 a q).2) (show okm m1 w2 = true by cases m1 <;> first | rfl | cases hm1)
    have c1' : ∀ a, p1 a → ∃ u, H2 a = some u ∧ Mut (some u) := fun a z => by
      obtain ⟨u, e, mu⟩ := c1 a z
      exact ⟨u, k2.keep a u e fun _ => (f1 a z).2, mu⟩
    have nb : ∀ a, H a = none → ¬ B a := fun a z y => by
      obtain ⟨u, e⟩ := hR.dom a y
      rw [z] at e; cases e
    have hl : σ.length = δ2.length := R2.len
    have R3 := R2.set r1' n1 c1' (fun a z => nb a (f1 a z).1) (by rw [hl]; exact hi3) hm1
    have R4 := R3.set (i := j) r2 (fun a z y => by
      rcases setFresh y with h | h
      · exact (f2 a z).2 h
      · obtain ⟨u, e, _⟩ := c1 a h
        rw [(f2 a z).1] at e; cases e) c2 (fun a z => nb a (k1.there a (f2 a z).1)) (by rw [List.length_set, hl]; rw [List.length_set] at hi4; exact hi4) hm2
    have kk : Kp true o H H2 := (k1.up fun _ => rfl).trans s1 (k2.up fun _ => rfl)
    refine k _ H2 _ kk (fun a z => ?_) R4
    rcases setFresh z with z | z
    · rcases setFresh z with z | z
      · exact s1.trans k1 s2 a z
      · exact .inr (f1 a z).1
    · exact .inr (k1.there a (f2 a z).1)
def par3S (i j l : Nat) (f g h : CE) : CS := fun δ => (f δ).bind fun p => (g p.2).bind fun q => (h q.2).bind fun r => (stS i p.1 r.2).bind fun δ1 => (stS j q.1 δ1).bind fun δ2 => (stS l r.1 δ2).bind fun δ3 => some (.nx δ3)
theorem ds_par3 {i j l : Nat} {x y z : Str} {px py pz pt : Pos} {kt k2 pt2} (hm1 : okS m1 = true) (hm2 : okS m2 = true) (hm3 : okS m3 = true) (hc : X.calm = true) (hN : X.N.Nodup) (hi : X.N[i]? = some x) (hj : X.N[j]? = some y) (hl : X.N[l]? = some z) (hij : i ≠ j) (hil : i ≠ l) (hjl : j ≠ l)
    (hx : X.env.scope.names.lookup x = some .local) (hy : X.env.scope.names.lookup y = some .local) (hz : X.env.scope.names.lookup z = some .local) (ha : DE X B M w1 a f1 m1) (hb : DE X B M w2 b f2 m2) (hc3 : DE X B M w3 c f3 m3)
    (hs1 : starEach [a, b, c] X.env = (false, eval a X.env) :: starEach [b, c] X.env) (hs2 : starEach [b, c] X.env = (false, eval b X.env) :: starEach [c] X.env) (hs3 : starEach [c] X.env = [(false, eval c X.env)])
    (hw : swappedStores [.Tuple [.Name x px, .Name y py, .Name z pz] kt pt] (.Tuple [a, b, c] k2 pt2) X.env = pure (some [x, y, z]))
    (hs : swapsWithSole [.Tuple [.Name x px, .Name y py, .Name z pz] kt pt] (.Tuple [a, b, c] k2 pt2) pos.line X.env = pure false) :
    DS X B S M (.Assign [.Tuple [.Name x px, .Name y py, .Name z pz] kt pt] (.Tuple [a, b, c] k2 pt2) pos) (par3S i j l f1 f2 f3) (((M.set i (some m1)).set j (some m2)).set l (some m3)) :=
  PS.mono (ps_par3 hc hN hi hj hl hij hil hjl hx hy hz (pa_cons ha (pa_cons hb (pa_cons hc3 pa_nil hs3) hs2) hs1) hw hs) fun D' σ H q => by
    obtain ⟨δ, o, fl, hR, hf, k⟩ := q
    obtain ⟨⟨d1, δ1⟩, h1, hf⟩ := Option.bind_eq_some_iff.mp hf
    obtain ⟨⟨d2, δ2⟩, h2, hf⟩ := Option.bind_eq_some_iff.mp hf
    obtain ⟨⟨d3, δ3⟩, h3, hf⟩ := Option.bind_eq_some_iff.mp hf
    obtain ⟨δ4, h4, hf⟩ := Option.bind_eq_some_iff.mp hf
    obtain ⟨δ5, h5, hf⟩ := Option.bind_eq_some_iff.mp hf
    obtain ⟨δ6, h6, hf⟩ := Option.bind_eq_some_iff.mp hf
    cases hf
    obtain ⟨hi4, rfl⟩ := stS_inv h4
    obtain ⟨hi5, rfl⟩ := stS_inv h5
    obtain ⟨hi6, rfl⟩ := stS_inv h6
    refine ⟨δ, o, d1, δ1, hR, h1, fun v1 H1 o1 p1 k1 R1 s1 r1 f1 c1 => ⟨δ1, o1, d2, δ2, R1, h2, fun v2 H2 o2 p2 k2 R2 s2 r2 f2 c2 => ⟨δ2, o2, d3, δ3, R2, h3, fun v3 H3 o3 p3 k3 R3 s3 r3 f3 c3 => ⟨v1, v2, v3, rfl, ?_⟩⟩⟩⟩
    have n1 : ∀ a, p1 a → ¬ o2.any a := fun a z y => by
      rcases s2 a y with h | h
      · exact (f1 a z).2 h
      · obtain ⟨u, e, _⟩ := c1 a z
        rw [h] at e; cases e
    have c1' : ∀ a, p1 a → ∃ u, H2 a = some u ∧ Mut (some u) := fun a z => by
      obtain ⟨u, e, mu⟩ := c1 a z
      exact ⟨u, k2.keep a u e fun _ => (f1 a z).2, mu⟩
    have n1' : ∀ a, p1 a → ¬ o3.any a := fun a z y => by
      rcases s3 a y with h | h
      · exact n1 a z h
      · obtain ⟨u, e, _⟩ := c1' a z
        rw [h] at e; cases e
    have c1'' : ∀ a, p1 a → ∃ u, H3 a = some u ∧ Mut (some u) := fun a z => by
      obtain ⟨u, e, mu⟩ := c1' a z
      exact ⟨u, k3.keep a u e fun _ => n1 a z, mu⟩
    have n2 : ∀ a, p2 a → ¬ o3.any a := fun a z y => by
      rcases s3 a y with h | h
      · exact (f2 a z).2 h
      · obtain ⟨u, e, _⟩ := c2 a z
        rw [h] at e; cases e
    have c2' : ∀ a, p2 a → ∃ u, H3 a = some u ∧ Mut (some u) := fun a z => by
      obtain ⟨u, e, mu⟩ := c2 a z
      exact ⟨u, k3.keep a u e fun _ => (f2 a z).2, mu⟩
    have ok1 : ∀ w, okm m1 w = true := fun w => by cases m1 <;> first | rfl | cases hm1
    have ok2 : ∀ w, okm m2 w = true := fun w => by cases m2 <;> first | rfl | cases hm2
    have r1' := RRep.keep (σ := σ) (M := M) R1 r1 k2 (fun a q => (f1 a q).2) (ok1 _)
    have r1'' := RRep.keep (σ := σ) (M := M) R2 r1' k3 n1 (ok1 _)
    have r2' := RRep.keep (σ := σ) (M := M) R2 r2 k3 (fun a q => (f2 a q).2) (ok2 _)
    have nb : ∀ a, H a = none → ¬ B a := fun a z y => by
      obtain ⟨u, e⟩ := hR.dom a y
      rw [z] at e; cases e
    have hl : σ.length = δ3.length := R3.len
    have R4 := R3.set r1'' n1' c1'' (fun a z => nb a (f1 a z).1) (by rw [hl]; exact hi4) hm1
    have R5 := R4.set (i := j) r2' (fun a z y => by
      rcases setFresh y with h | h
      · exact n2 a z h
      · obtain ⟨u, e, _⟩ := c1 a h
        rw [(f2 a z).1] at e; cases e) c2' (fun a z => nb a (k1.there a (f2 a z).1)) (by rw [List.length_set, hl]; rw [List.length_set] at hi5; exact hi5) hm2
    have R6 := R5.set (i := l) r3 (fun a z y => by
      rcases setFresh y with h | h
      · rcases setFresh h with h | h
        · exact (f3 a z).2 h
        · obtain ⟨u, e, _⟩ := c1' a h
          rw [(f3 a z).1] at e; cases e
      · obtain ⟨u, e, _⟩ := c2 a h
        rw [(f3 a z).1] at e; cases e) c3 (fun a z => nb a (k1.there a (k2.there a (f3 a z).1))) (by rw [List.length_set, List.length_set, hl]; rw [List.length_set, List.length_set] at hi6; exact hi6) hm3
    have s12 := s1.trans k1 s2
    have k12 : Kp true o H H2 := (k1.up fun _ => rfl).trans s1 (k2.up fun _ => rfl)
    have kk : Kp true o H H3 := k12.trans s12 (k3.up fun _ => rfl)
    refine k _ H3 _ kk (fun a z => ?_) R6
    rcases setFresh z with z | z
    · rcases setFresh z with z | z
      · rcases setFresh z with z | z
        · exact s12.trans k12 s3 a z
        · exact .inr (f1 a z).1
      · exact .inr (k1.there a (f2 a z).1)
    · exact .inr (k12.there a (f3 a z).1)

/-! ### a written dict, asked at once -/
inductive Dsp (X : Cx) (pos : Pos) : List (Option Expr) → List Expr → List (Str × D) → List (Str × V) → Prop
  | nil : Dsp X pos [] [] [] []
  | cons {x : Str} {d : D} {v : V} {k e : Expr} {ks : List (Option Expr)} {es : List Expr} {kds : List (Str × D)} {kvs : List (Str × V)} : PE X k (tC (.str x)) → PE X e (tC v) → (∀ r : Rdr, Rep r d v) → Dsp X pos ks es kds kvs → Dsp X pos (some k :: ks) (e :: es) ((x, d) :: kds) ((x, v) :: kvs)
theorem Dsp.run {ks : List (Option Expr)} {es : List Expr} {kds : List (Str × D)} {kvs : List (Str × V)} (h : Dsp X pos ks es kds kvs) : ∃ trs, PPs X pos ks es trs ∧ ∀ σ H Q, Q (kvs.map fun kv => (V.str kv.1, kv.2)) H → tPairs trs σ H Q := by
  induction h with
  | nil => exact ⟨[], pps_nil, fun _ _ _ q => q⟩
  | cons h1 h2 h3 h4 ih =>
    obtain ⟨trs, p, q⟩ := ih
    exact ⟨_, pps_cons h1 h2 p, fun σ H Q z => q σ H _ z⟩
def lkD : List (Str × D) → Str → Option D
  | [], _ => none
  | (k, d) :: r, x => match lkD r x with
    | some e => some e
    | none => if x = k then some d else none
theorem lk_merge {r : Rdr} {x : Str} {d : D} {ks : List (Option Expr)} {es : List Expr} {kds : List (Str × D)} {kvs : List (Str × V)} (h : Dsp X pos ks es kds kvs) : ∀ acc : List (Key × V),
    (lkD kds x = none → valV (mergeK acc (kvs.map fun kv => (Sum.inr kv.1, kv.2))) (Sum.inr x) = valV acc (Sum.inr x)) ∧
    (lkD kds x = some d → ∃ v, valV (mergeK acc (kvs.map fun kv => (Sum.inr kv.1, kv.2))) (Sum.inr x) = some v ∧ Rep r d v) := by
  induction h with
  | nil => exact fun acc => ⟨fun _ => rfl, fun z => nomatch z⟩
  | @cons y d' v k e ks es kds kvs h1 h2 h3 h4 ih =>
    intro acc
    obtain ⟨i1, i2⟩ := ih (putK acc (Sum.inr y) v)
    constructor
    · intro z
      simp only [lkD] at z
      split at z
      · cases z
      · rename_i e0
        split at z
        · cases z
        · rename_i ne
          refine (i1 e0).trans ?_
          rw [valV_put, if_neg (fun q => ne (Sum.inr.inj q))]
    · intro z
      simp only [lkD] at z
      split at z
      · rename_i e0 e1
        cases z
        exact i2 e1
      · rename_i e0
        split at z
        · rename_i ne
          cases z
          refine ⟨v, (i1 e0).trans ?_, h3 r⟩
          rw [valV_put, if_pos (by rw [ne])]
        · cases z
def dgV (kds : List (Str × D)) (f : CE) : CE := c1 (fun d => match d with | .str x => lkD kds x | _ => none) f
theorem de_dgV {ks : List (Option Expr)} {kds : List (Str × D)} {kvs : List (Str × V)} {p2 : Pos} (hu : X.A.units + 64 < cLine) (hd : Dsp X p2 ks es kds kvs) (hall : ks.all (·.isSome) = true) (hl : ks.length = es.length) (h0 : ks ≠ []) (h15 : ks.length ≤ 15) (hs : NoSl e) (he : DE X B M w e f m) :
    DE X B M w (.Subscript (.Dict ks es p2) e pos) (dgV kds f) .frz := by
  obtain ⟨trs, hp, run⟩ := hd.run
  have hlk : ks.length = kvs.length := by
    clear hall hl h0 h15 run hp he
    induction hd with
    | nil => rfl
    | cons _ _ _ _ ih => exact congrArg (· + 1) ih
  refine PE.mono (pe_dget (by omega) (pe_disp hp hall hl h0 h15) he hs) fun σ H Q h => ?_
  obtain ⟨δ, o, r, δ', hR, hf, k⟩ := h
  obtain ⟨d, h1, h2⟩ := c1_inv hf
  cases d <;> first | (cases h2; done) | skip
  rename_i x
  intro p hpn
  have x1 : Ext H (upd H p (.dK [])) := Ext.new hpn
  refine run _ _ _ ⟨upd_same, kvs.map fun kv => (Sum.inr kv.1, kv.2), by rw [List.map_map]; rfl, by rw [List.length_map, ← hlk]; exact h15, ?_⟩
  have x2 : Ext H (upd (upd H p (.dK [])) p (.dK (mergeK [] (kvs.map fun kv => (Sum.inr kv.1, kv.2))))) := fun a u e => by
    have ne : a ≠ p := ne_of_none e hpn
    rw [upd_ne ne, upd_ne ne]
    exact e
  have np : ¬ o.any p := hR.fresh hpn
  refine ⟨δ, o, _, δ', hR.keep x2, h1, fun v H1 o1 p1 k1 R1 s1 r1 f1 c1 => ?_⟩
  obtain ⟨v', e', rv⟩ := (lk_merge (r := rdF X.K H1) (x := x) hd []).2 h2
  have hp1 := k1.keep p _ upd_same fun _ => np
  cases r1.lent
  refine ⟨p, v', rfl, ?_, k v' H1 o1 noP ⟨fun a u e n => k1.keep a u (x2 a u e) n, fun a n => x2.free (k1.there a n)⟩ R1 (fun a z => (s1 a z).imp id fun z => x2.free z) rv (fun _ z => z.elim) fun _ z => z.elim⟩
  rw [← e']
  exact DGet.k (k := Sum.inr x) hp1
theorem pc_int {i : Int} {j : Nat} : PE X (.Constant (.int i) j pos) (tC (.int i)) := pe_int
theorem pc_neg {i : Int} {j : Nat} {p : Pos} : PE X (.UnaryOp .USub (.Constant (.int i) j p) pos) (tC (.int (-i))) := PE.mono (pe_un un_neg pe_int) fun σ H Q h => ⟨i, rfl, h⟩
end

/-! ### x[::-1] -/
def revD : D → Option D
  | .list ds => if immutAll ds = true then some (.list ds.reverse) else none
  | .tuple ds => if immutAll ds = true then some (.tuple ds.reverse) else none
  | _ => none
theorem adjust_rev (n : Nat) : Builtin.Slice.sliceAdjust none none (-1) (n : Int) = ((n : Int) - 1, -1) := by
  unfold Builtin.Slice.sliceAdjust
  simp
theorem places_rev (n : Nat) : Builtin.Slice.slicePlaces ((n : Int) - 1) (-1) (-1) = n := by
  unfold Builtin.Slice.slicePlaces
  have h1 : ¬ ((-1 : Int) > 0) := by omega
  have h2 : (- -1 : Int) = 1 := by decide
  simp only [h1, if_false, h2, Int.ediv_one]
  split <;> omega
theorem pick_rev (xs : Array Value) : ((List.range xs.size).filterMap fun (m : Nat) => xs[(((xs.size : Int) - 1) + (m : Int) * (-1)).toNat]?).toArray = xs.toList.reverse.toArray := by
  have e : (fun (m : Nat) => xs[(((xs.size : Int) - 1) + (m : Int) * (-1)).toNat]?) = (fun (k : Nat) => xs[k]?) ∘ fun m : Nat => (((xs.size : Int) - 1) + (m : Int) * (-1)).toNat := rfl
  rw [e, ← List.filterMap_map]
  have e2 : (List.range xs.size).map (fun m : Nat => (((xs.size : Int) - 1) + (m : Int) * (-1)).toNat) = (List.range xs.size).reverse := by
    rw [← PySem.W.krv_range]
    refine List.map_congr_left fun k hk => ?_
    have := List.mem_range.mp hk
    omega
  rw [e2, List.filterMap_reverse, PySem.W.krv_all]
section
variable {prog : Program} {w : World} {A : Around} {E : Value → Shared → Prop} {s : Shared}
theorem applied_rev {sl : Addr} {vl vu vs : Value} {n : Nat} {Q : Int × Int × Nat → Shared → Prop} (hs : s.heap.IsSliceOf sl vl vu vs) (pl : IsPart vl none) (pu : IsPart vu none) (ps : IsPart vs (some (-1)))
    (h : Q ((n : Int) - 1, -1, n) s) : wpAny (model prog w) A (Builtin.Slice.sliceApplied (.ref sl) (pure (n : Int))) Q E s := by
  obtain ⟨os, hos, hcs, hds⟩ := id hs
  unfold Builtin.Slice.sliceApplied Builtin.Slice.sliceFields
  refine wpAny_bind (wpAny_bind (wpAny_field hos hds (x := vl) rfl (wpAny_bind (wpAny_field hos hds (x := vu) rfl (wpAny_bind (wpAny_field hos hds (x := vs) rfl (wpAny_pure ?_)))))))
  refine wpAny_bind (HT.slicePart_ ps ?_)
  show wpAny _ _ (if ((-1 : Int) == 0) = true then _ else _) _ _ s
  rw [if_neg (by decide)]
  refine wpAny_bind (HT.slicePart_ pl (wpAny_bind (HT.slicePart_ pu (wpAny_bind (wpAny_pure ?_)))))
  show wpAny _ _ (match Builtin.Slice.sliceAdjust none none (-1) (n : Int) with | (lo, hi) => pure (lo, (-1 : Int), Builtin.Slice.slicePlaces lo hi (-1))) _ _ s
  rw [adjust_rev n]
  show wpAny _ _ (pure (((n : Int) - 1), (-1 : Int), Builtin.Slice.slicePlaces ((n : Int) - 1) (-1) (-1))) _ _ s
  rw [places_rev]
  exact wpAny_pure h
theorem item_tupRev {t sl : Addr} {items : Array Value} {vl vu vs : Value} {Q : Value → Shared → Prop} (ht : IsTup s.heap t items) (hs : s.heap.IsSliceOf sl vl vu vs) (pl : IsPart vl none) (pu : IsPart vu none) (ps : IsPart vs (some (-1)))
    (h : Q (.ref s.heap.objs.size) { s with heap := s.heap.push { cls := .type "tuple", data := .seq items.toList.reverse.toArray } })
    (hsz : items.size ≤ sizeLine) : wpAny (model prog w) A (getItem (.ref t) (.ref sl)) Q E s := by
  have hz : sizeOk (.seq items.toList.reverse.toArray) := by
    show items.toList.reverse.toArray.size ≤ sizeLine
    rw [List.size_toArray, List.length_reverse, Array.length_toList]
    exact hsz
  obtain ⟨os, hos, hcs, hds⟩ := id hs
  have hTs : s.TypeIs (.ref sl) "slice" := ⟨os, hos, hcs⟩
  unfold getItem
  try with_reducible refine wpAny_holding ?_
  first | refine wpAny_bind (wpAny_pure ?_) | skip
  refine wpAny_bind (wpAny_sequenceKey ht.typeIs (by decide) ?_)
  refine wpAny_bind (wpAny_callSpecial?_slot (name := Str.ofString "__getitem__") ht.typeIs PyProof.Rows.slot_tuple_getitem
    (wpAny_call_entry PyProof.Rows.slot_tuple_getitem ht.typeIs entry_tuple_getitem ?_ (args_tuple_getitem _ _)))
  show wpAny _ _ (Builtin.Tuple.tupleItemsOf (.ref t) >>= _) _ _ s
  refine wpAny_bind (tupleItemsOf_ ht ?_)
  refine wpAny_bind (wpAny_typeOf hTs ?_)
  rw [if_pos (by decide)]
  refine wpAny_bind (applied_rev hs pl pu ps ?_)
  have hno : ¬ ((((items.size : Int) - 1) == 0 && (-1 : Int) == 1 && items.size == items.size) = true) := by
    intro q
    rw [Bool.and_eq_true, Bool.and_eq_true] at q
    exact absurd q.1.2 (by decide)
  show wpAny _ _ (if (((items.size : Int) - 1) == 0 && (-1 : Int) == 1 && items.size == items.size) = true then _ else _) _ _ s
  rw [if_neg hno, pick_rev]
  first
    | exact wpAny_bind (m := Builtin.Tuple.tupleExact _) (wpAny_newObj_type (wpAny_pure ⟨_, rfl, wpAny_pure h⟩) hz)
    | exact wpAny_bind (m := Builtin.Tuple.tupleExact _) (wpAny_newObj_type (wpAny_bind (wpAny_pure (wpAny_pure ⟨_, rfl, wpAny_pure h⟩))) hz)
    | exact wpAny_bind (wpAny_bind (m := Builtin.Tuple.tupleExact _) (wpAny_newObj_type (wpAny_pure (wpAny_pure ⟨_, rfl, wpAny_pure h⟩)) hz))
    | exact wpAny_bind (wpAny_bind (m := Builtin.Tuple.tupleExact _) (wpAny_newObj_type (wpAny_pure ⟨_, rfl, wpAny_pure h⟩) hz))
end
section
variable {X : Cx} {B : Addr → Prop} {M : MEnv} {e : Expr} {f : CE} {m : Md} {w : Bool} {pos : Pos}
def tRv (K : PySem.W.Frag) (te : TE) : TE := fun σ H Q => te σ H fun x H1 => (∃ a xs, x = .ref a ∧ SqL K H1 a xs ∧ ∀ p, H1 p = none → Q (.ref p) (upd H1 p (.lst xs.reverse))) ∨ ∃ a xs, x = .ref a ∧ SqT K H1 a xs ∧ ∀ p, H1 p = none → Q (.ref p) (upd H1 p (.tup xs.reverse))
theorem pe_rv {te : TE} {k : Nat} {p1 p2 p3 : Pos} (he : PE X e te) : PE X (.Subscript e (.Slice none none (some (.UnaryOp .USub (.Constant (.int 1) k p1) p2)) p3) pos) (tRv X.K te) := by
  refine ⟨fun pins s σ H Q I h => ?_⟩
  refine Subscript_ (thn (he.run pins s σ H _ I h) fun v s1 ⟨x, H1, I1, r1, q1⟩ => ?_)
  have hst : PO X (some (.UnaryOp .USub (.Constant (.int 1) k p1) p2)) (tPart (tUn (rU fun i => .int (-i)) (tC (.int 1)))) := po_some (pe_un un_neg pe_int)
  refine wpAny_Slice (thn (po_none.run pins s1 σ H1 (fun o H2 => o = none ∧ H2 = H1) I1 ⟨rfl, rfl⟩) fun vl s2 ⟨l, H2, I2, pl, el, e2⟩ => ?_)
  subst el e2
  refine thn (po_none.run pins s2 σ H2 (fun o H3 => o = none ∧ H3 = H2) I2 ⟨rfl, rfl⟩) fun vu s3 ⟨u, H3, I3, pu, eu, e3⟩ => ?_
  subst eu e3
  refine thn (hst.run pins s3 σ H3 (fun o H4 => o = some (-1) ∧ H4 = H3) I3 ⟨1, rfl, -1, rfl, rfl, rfl⟩) fun vs s4 ⟨o, H4, I4, ps, eo, e4⟩ => ?_
  subst eo e4
  have I5 : Inv X pins σ H4 { s4 with heap := s4.heap.push { cls := .type "slice", data := .fields #[vl, vu, vs] } } := I4.kept (t' := s4.toks) fun b ob q => Heap.get?_push_of_some _ q
  rcases q1 with ⟨a, xs, ex, hx, q⟩ | ⟨a, xs, ex, hx, q⟩
  · subst ex
    cases r1
    obtain ⟨its, r, ht, hz⟩ := I5.list hx
    have hlen := r.length
    show wpAny (model X.prog X.w) X.A (subscriptTail e (.Slice none none (some (.UnaryOp .USub (.Constant (.int 1) k p1) p2)) p3) (.ref a) (.ref s4.heap.objs.size)) (EP X pins σ Q) X.xe { s4 with heap := s4.heap.push { cls := .type "slice", data := .fields #[vl, vu, vs] } }
    refine tail_any (ops := [.ref a, .ref s4.heap.objs.size]) ht.isList.typeIs (PySem.slot_list_getitem.lookup) ?_ (by with_unfolding_all rfl)
    refine wpAny_getItem_list_slice ht.isList (Heap.IsSliceOf.new _ vl vu vs) pl pu ps (by decide) ?_ (by rw [List.size_toArray]; omega)
    rw [PySem.W.krv_pick]
    refine ⟨.ref _, _, I5.laid (t' := s4.toks) (o := .lst xs.reverse) (fun b ob q => Heap.get?_push_of_some _ q) (Nat.le_refl _) ?_, rfl, q _ (I5.hok.fresh (Nat.le_refl _))⟩
    exact ⟨by rw [List.length_reverse]; exact hz, _, 0, r.reverse, Heap.get?_push_size _ rfl⟩
  · subst ex
    cases r1
    obtain ⟨its, r, ht, hz⟩ := I5.tuple hx
    have hlen := r.length
    show wpAny (model X.prog X.w) X.A (subscriptTail e (.Slice none none (some (.UnaryOp .USub (.Constant (.int 1) k p1) p2)) p3) (.ref a) (.ref s4.heap.objs.size)) (EP X pins σ Q) X.xe { s4 with heap := s4.heap.push { cls := .type "slice", data := .fields #[vl, vu, vs] } }
    refine tail_any (ops := [.ref a, .ref s4.heap.objs.size]) ht.typeIs (PyProof.Rows.slot_tuple_getitem.lookup) ?_ (by with_unfolding_all rfl)
    refine item_tupRev ht (Heap.IsSliceOf.new _ vl vu vs) pl pu ps ?_ (by rw [List.size_toArray]; omega)
    refine ⟨.ref _, _, I5.laid (t' := s4.toks) (o := .tup xs.reverse) (fun b ob q => Heap.get?_push_of_some _ q) (Nat.le_refl _) ?_, rfl, q _ (I5.hok.fresh (Nat.le_refl _))⟩
    exact ⟨by rw [List.length_reverse]; exact hz, _, r.reverse, IsTup.new _ _⟩
def rvV (f : CE) : CE := c1 revD f
theorem de_rev {k : Nat} {p1 p2 p3 : Pos} (he : DE X B M w e f m) : DE X B M w (.Subscript e (.Slice none none (some (.UnaryOp .USub (.Constant (.int 1) k p1) p2)) p3) pos) (rvV f) .own := PE.mono (pe_rv he) fun σ H Q h => by
  obtain ⟨δ, o, r, δ', hR, hf, kk⟩ := h
  obtain ⟨d, h1, h2⟩ := c1_inv hf
  refine ⟨δ, o, d, δ', hR, h1, fun v H1 o1 p k1 R1 s1 r1 f1 c1 => ?_⟩
  have fin : Res X.K .own r H1 Q := fun z H4 p4 k4 r4 f4 c4 => kk z H4 o1 p4 (k1.trans s1 (Kp.all k4)) (R1.keep k4) s1 (r4 B) (fun a q => ⟨k1.there a (f4 a q), R1.fresh (f4 a q)⟩) c4
  cases r1.lent with
  | lst ha hb =>
    simp only [revD] at h2
    split at h2
    · rename_i hi
      cases h2
      exact .inl ⟨_, _, rfl, ha, fun p hp => fin.lst hp (immAll_F hb hi).reverse⟩
    · cases h2
  | tup ha hb =>
    simp only [revD] at h2
    split at h2
    · rename_i hi
      cases h2
      exact .inr ⟨_, _, rfl, ha, fun p hp => fin.tup hp (immAll_F hb hi).reverse⟩
    · cases h2
  | _ => cases h2
end
end Dn
/-! Den17: the promise of a def by the denotation of its body; defs that write what their first argument is. -/
namespace Dn
open PySem PySem.Spec PyProof.Rows L2

/-- the slots at the entry -/
def ent (n : Nat) (ds : List D) : Env := ds.map some ++ List.replicate (n - ds.length) none
def entM (n : Nat) (ms : List Md) : MEnv := ms.map some ++ List.replicate (n - ms.length) none
/-- what a def computes, by its body's denotation -/
def fnF (g : CS) (n m : Nat) : List D → Option D := fun ds => if ds.length = m then (g (ent n ds)).bind fun fl => match fl with | .nx _ => some .none | .rt d _ => some d | _ => none else none
def pmOk : List Md → Bool
  | [] => true
  | .frz :: r => pmOk r
  | .sta :: r => pmOk r
  | _ => false
def reOk : Md → Bool | .frz => true | .own => true | _ => false
theorem pm_tl {m : Md} {ms : List Md} (h : pmOk (m :: ms) = true) : pmOk ms = true := by
  cases m <;> first | exact h | cases h
theorem ARep.get {K : PySem.W.Frag} {H : Hp} {B : Addr → Prop} : ∀ {ms : List Md} {ds : List D} {vs : List V} {i : Nat} {m : Md} {d : D}, ARep K H B ms ds vs → pmOk ms = true → ms[i]? = some m → ds[i]? = some d → ∃ v, vs[i]? = some v ∧ SRep K H B m d v (fun _ => False) ∧ (m = .frz ∨ m = .sta)
  | _, _, _, _, _, _, .nil, _, e, _ => by simp at e
  | m0 :: _, _, _, 0, m, d, .cons a b, hm, e1, e2 => by
    simp at e1 e2
    subst e1 e2
    cases m0 with
    | frz => exact ⟨_, rfl, a, .inl rfl⟩
    | sta => exact ⟨_, rfl, a, .inr rfl⟩
    | _ => cases hm
  | m0 :: _, _, _, i + 1, m, d, .cons a b, hm, e1, e2 => by
    obtain ⟨v, h1, h2⟩ := ARep.get (i := i) b (pm_tl hm) (by simpa using e1) (by simpa using e2)
    exact ⟨v, by simpa using h1, h2⟩
theorem ARep.len2 {K : PySem.W.Frag} {H : Hp} {B : Addr → Prop} : ∀ {ms : List Md} {ds : List D} {vs : List V}, ARep K H B ms ds vs → ds.length = vs.length ∧ ms.length = vs.length
  | _, _, _, .nil => ⟨rfl, rfl⟩
  | _, _, _, .cons _ b => ⟨congrArg (· + 1) b.len2.1, congrArg (· + 1) b.len2.2⟩
theorem ent_get {n : Nat} {ds : List D} {i : Nat} {d : D} (h : (ent n ds)[i]? = some (some d)) : ds[i]? = some d := by
  unfold ent at h
  by_cases hi : i < ds.length
  · rw [List.getElem?_append_left (by rw [List.length_map]; exact hi), List.getElem?_map] at h
    cases e : ds[i]? with
    | none => rw [e] at h; cases h
    | some x => rw [e] at h; cases h; rfl
  · rw [List.getElem?_append_right (by rw [List.length_map]; omega), List.getElem?_replicate] at h
    split at h <;> cases h
theorem entM_get {n : Nat} {ds : List Md} {i : Nat} {d : Md} (h : (entM n ds)[i]? = some (some d)) : ds[i]? = some d := by
  unfold entM at h
  by_cases hi : i < ds.length
  · rw [List.getElem?_append_left (by rw [List.length_map]; exact hi), List.getElem?_map] at h
    cases e : ds[i]? with
    | none => rw [e] at h; cases h
    | some x => rw [e] at h; cases h; rfl
  · rw [List.getElem?_append_right (by rw [List.length_map]; omega), List.getElem?_replicate] at h
    split at h <;> cases h
theorem start_get {N : List Str} {vs : List V} {i : Nat} {v : V} (h : vs[i]? = some v) : (L2.start N vs)[i]? = some (some v) := by
  unfold L2.start
  have hi : i < vs.length := (List.getElem?_eq_some_iff.mp h).1
  rw [List.getElem?_append_left (by rw [List.length_map]; exact hi), List.getElem?_map, h] <;> rfl
theorem reOk_any {K : PySem.W.Frag} {H : Hp} {B : Addr → Prop} {mr : Md} {d : D} {v : V} {p : Addr → Prop} (hm : reOk mr = true) (h : RRep K H B mr d v p) : ∀ B', RRep K H B' mr d v p := by
  cases mr with
  | frz => exact fun _ => h
  | own => exact fun _ => h
  | _ => cases hm
theorem reOk_none {K : PySem.W.Frag} {H : Hp} {mr : Md} {p : Addr → Prop} (hm : reOk mr = true) : ∀ B', RRep K H B' mr .none .non p := by
  cases mr with
  | frz => exact fun _ => .non
  | own => exact fun _ => Rep.non
  | _ => cases hm

section
variable {P : Program} {w : World} {K : PySem.W.Frag} {mg : Str → Option Value} {base : Heap}
/-- THE RULE for a def that writes nothing that stood ahead of it -/
theorem fn_ok {x qual : Str} {st : Stmt} {f : Addr} {fd : FuncData} {N ps : List Str} {k : Nat} {ms : List Md} {mr : Md} {g : CS} {M' : MEnv} (F : Fun K x qual st f fd) (Sc0 : FnScope N ps (defScope st)) (hms : pmOk ms = true) (hmr : reOk mr = true) (hl : ms.length = ps.length)
    (hbody : ∀ (cdv : Value) (A : Around) (outer : List PySem.Env) (s : Shared) (H : Hp) (E : XK) (B : Addr → Prop), Room k (A.deeper (envOfC qual (defScope st) s.heap.objs.size f cdv)) →
      DSs (cxOf CX0 P w K mg base N qual (defScope st) f cdv A outer s H E).nox B ⟨mr, [], [], []⟩ (entM N.length ms) (defBody st) g M') : FnD P w K mg base (k + 1) f fd ps ms mr (fnF g N.length ps.length) := by
  refine F.ok Sc0 (fun vs H Q E h => ?_) (fun cdv A outer s H vs Q E hr h => ?_)
  · obtain ⟨ds, r, a, _, _⟩ := h
    rw [← a.len2.2, hl]
  · obtain ⟨ds, r, a, hf, kq⟩ := h
    refine ⟨_, hbody cdv A outer s H E (fun a => ∃ u, H a = some u) hr, ?_⟩
    unfold fnF at hf
    split at hf
    · obtain ⟨fl, h1, hf⟩ := Option.bind_eq_some_iff.mp hf
      have hlen := a.len2.1
      have noO : ∀ a, ¬ Fp.any (fun _ _ => False) a := fun a ⟨_, z⟩ => z
      have ex : ∀ {H' : Hp}, Kp true (fun _ _ => False) H H' → Ext H H' := fun k a u e => k.keep a u e fun _ => noO a
      refine ⟨ent N.length ds, fun _ _ => False, fl, ⟨?_, fun _ _ _ z => z.elim, fun _ _ z => z.elim, fun a z => (noO a z).elim, fun _ z => z, fun i m d e1 e2 => ?_⟩, h1, ?_⟩
      · unfold L2.start ent
        rw [List.length_append, List.length_append, List.length_map, List.length_map, List.length_replicate, List.length_replicate, hlen]
      · obtain ⟨v, e, sr, _⟩ := a.get hms (entM_get e1) (ent_get e2)
        exact ⟨v, start_get e, sr⟩
      · cases fl with
        | nx δ' =>
          cases hf
          exact fun σ' H' o' k' s' r' => kq .non H' noP (ex k') (fun B' => reOk_none hmr B') (fun _ z => z.elim) fun _ z => z.elim
        | rt d δ' =>
          cases hf
          refine fun v σ' H' o' p k' s' r' rr fp cp => kq v H' p (ex k') (reOk_any hmr rr) (fun a q => ?_) cp
          rcases (fp a q).1 with z | z
          · exact (noO a z).elim
          · exact z
        | bk _ => cases hf
        | ct _ => cases hf
    · cases hf

/-! ### defs that write their first argument, a list -/
def spIo (K : PySem.W.Frag) (ms : List Md) (mr : Md) (F : List D → List D → Option (D × List D)) : Sp := fun vs H Q _ => ∃ a ds0 ds vs' r ds1, vs = .ref a :: vs' ∧ Own K H (.list ds0) (.ref a) (fun b => b = a) ∧ ARep K H (fun _ => False) ms ds vs' ∧ F ds0 ds = some (r, ds1) ∧
  ∀ z H' p, (∀ b u, H b = some u → b ≠ a → H' b = some u) → (∀ b, H' b = none → H b = none) → Own K H' (.list ds1) (.ref a) (fun b => b = a) → (∀ B, RRep K H' B mr r z p) → (∀ b, p b → H b = none) → (∀ b, p b → ∃ u, H' b = some u ∧ Mut (some u)) → Q z H'
abbrev FnI (P : Program) (w : World) (K : PySem.W.Frag) (mg : Str → Option Value) (base : Heap) (k : Nat) (f : Addr) (fd : FuncData) (ps : List Str) (ms : List Md) (mr : Md) (F : List D → List D → Option (D × List D)) : Prop :=
  FnOk P w K mg base CX0 k f fd ps (spIo K ms mr F)
def io0 (δ : Env) : Option (List D) := match δ[(0 : Nat)]? with | some (some (.list ds)) => some ds | _ => none
def fnI (g : CS) (n m : Nat) : List D → List D → Option (D × List D) := fun ds0 ds => if ds.length + 1 = m then (g (ent n (.list ds0 :: ds))).bind fun fl => match fl with | .nx δ => (io0 δ).map fun l => (.none, l) | .rt d δ => (io0 δ).map fun l => (d, l) | _ => none else none
theorem io0_inv {δ : Env} {ds : List D} (h : io0 δ = some ds) : δ[0]? = some (some (.list ds)) := by
  unfold io0 at h
  split at h
  · rename_i e
    cases h
    exact e
  · cases h
def frzAll : List Md → Bool
  | [] => true
  | .frz :: r => frzAll r
  | _ => false
theorem frzAll_pm : ∀ {ms : List Md}, frzAll ms = true → pmOk ms = true ∧ ∀ m ∈ ms, m = .frz
  | [], _ => ⟨rfl, fun _ h => nomatch h⟩
  | .frz :: r, h => ⟨(frzAll_pm (ms := r) h).1, fun m hm => by
    rcases List.mem_cons.mp hm with e | e
    · exact e
    · exact (frzAll_pm (ms := r) h).2 m e⟩
theorem fn_io {x qual : Str} {st : Stmt} {f : Addr} {fd : FuncData} {N ps : List Str} {k : Nat} {ms : List Md} {mr : Md} {g : CS} (F : Fun K x qual st f fd) (Sc0 : FnScope N ps (defScope st)) (hms : frzAll ms = true) (hmr : reOk mr = true) (hl : ms.length + 1 = ps.length) (hN : ms.length + 1 ≤ N.length)
    (hbody : ∀ (a : Addr) (cdv : Value) (A : Around) (outer : List PySem.Env) (s : Shared) (H : Hp) (E : XK) (B : Addr → Prop), Room k (A.deeper (envOfC qual (defScope st) s.heap.objs.size f cdv)) →
      DSs (cxOf CX0 P w K mg base N qual (defScope st) f cdv A outer s H E).nox B ⟨mr, [], [], [some (.io a)]⟩ (entM N.length (.io a :: ms)) (defBody st) g [some (.io a)]) : FnI P w K mg base (k + 1) f fd ps ms mr (fnI g N.length ps.length) := by
  refine F.ok Sc0 (fun vs H Q E h => ?_) (fun cdv A outer s H vs Q E hr h => ?_)
  · obtain ⟨a, ds0, ds, vs', r, ds1, rfl, _, ha, _⟩ := h
    rw [List.length_cons, ← ha.len2.2, hl]
  · obtain ⟨a, ds0, ds, vs', r, ds1, rfl, ho, ha, hf, kq⟩ := h
    refine ⟨_, hbody a cdv A outer s H E (fun b => b ≠ a ∧ ∃ u, H b = some u) hr, ?_⟩
    obtain ⟨a', xs, ea, _, hH, hx⟩ := ho
    cases ea
    unfold fnI at hf
    split at hf
    · obtain ⟨fl, h1, hf⟩ := Option.bind_eq_some_iff.mp hf
      have hlen := ha.len2.1
      have hoa : ∀ b, Fp.any (fun i b => i = 0 ∧ b = a) b ↔ b = a := fun b => ⟨fun ⟨_, _, z⟩ => z, fun z => ⟨0, rfl, z⟩⟩
      have ex : ∀ {H' : Hp}, Kp true (fun i b => i = 0 ∧ b = a) H H' → ∀ b u, H b = some u → b ≠ a → H' b = some u := fun k b u e n => k.keep b u e fun _ z => n ((hoa b).mp z)
      have last : ∀ {δ' : Env} {σ' : L2.St} {H' : Hp} {o' : Fp} {l : List D}, io0 δ' = some l → R K (fun b => b ≠ a ∧ ∃ u, H b = some u) H' σ' δ' [some (.io a)] o' → Own K H' (.list l) (.ref a) (fun b => b = a) ∧ o'.any a := fun {δ' σ' H' o' l} e r => by
        obtain ⟨v, _, q, ev⟩ := r.at_ 0 (.io a) _ rfl (io0_inv e)
        obtain ⟨a', ys, e1, e2, e3, e4⟩ := q
        rw [ev] at e1
        cases e1
        exact ⟨⟨a, ys, rfl, rfl, e3, e4⟩, 0, e2⟩
      refine ⟨ent N.length (.list ds0 :: ds), fun i b => i = 0 ∧ b = a, fl, ⟨?_, fun i j b h1 h2 => h1.1.trans h2.1.symm, fun i b h => ⟨.lst xs, by rw [h.2]; exact hH, trivial⟩, fun b z y => y.1 ((hoa b).mp z), fun b z => z.2, fun i m d e1 e2 => ?_⟩, h1, ?_⟩
      · unfold L2.start ent
        simp only [List.length_append, List.length_map, List.length_replicate, List.length_cons, hlen]
      · have e1' := entM_get e1
        have e2' := ent_get e2
        cases i with
        | zero =>
          simp at e1' e2'
          subst e1' e2'
          exact ⟨.ref a, start_get rfl, ⟨a, xs, rfl, ⟨rfl, rfl⟩, hH, hx⟩, rfl⟩
        | succ i =>
          obtain ⟨v, e, sr, hm⟩ := ha.get (frzAll_pm hms).1 (by simpa using e1') (by simpa using e2')
          refine ⟨v, start_get (by simpa using e), ?_⟩
          have em : m = .frz := (frzAll_pm hms).2 m (List.mem_of_getElem? (by simpa using e1'))
          subst em
          exact sr
      · cases fl with
        | nx δ' =>
          obtain ⟨l, e, hf⟩ := Option.map_eq_some_iff.mp hf
          cases hf
          exact fun σ' H' o' k' s' r' => kq .non H' noP (ex k') k'.there (last e r').1 (fun B' => reOk_none hmr B') (fun _ z => z.elim) fun _ z => z.elim
        | rt d δ' =>
          obtain ⟨l, e, hf⟩ := Option.map_eq_some_iff.mp hf
          cases hf
          refine fun v σ' H' o' p k' s' r' rr fp cp => ?_
          obtain ⟨q1, q2⟩ := last e r'
          refine kq v H' p (ex k') k'.there q1 (reOk_any hmr rr) (fun b q => ?_) cp
          rcases (fp b q).1 with z | z
          · rw [(hoa b).mp z] at q
            exact absurd q2 (fp a q).2
          · exact z
        | bk _ => cases hf
        | ct _ => cases hf
    · cases hf
end

/-! ### the call of one -/
section
variable {K : PySem.W.Frag} {B : Addr → Prop} {H H' : Hp} {σ : L2.St} {δ : Env} {M : MEnv} {o : Fp}
theorem R.io (r : R K B H σ δ M o) {i : Nat} {m : Md} {ds ds' : List D} {a : Addr} {vs : List V} (hM : M[i]? = some (some m)) (hw : m.wr = true) (hd : δ[i]? = some (some (.list ds))) (hσ : σ[i]? = some (some (.ref a))) (ho : o i a) (hH : H a = some (.lst vs))
    (k : ∀ b u, H b = some u → b ≠ a → H' b = some u) (hn : Own K H' (.list ds') (.ref a) (fun b => b = a)) : R K B H' σ (δ.set i (some (.list ds'))) M o := by
  obtain ⟨a', vs', ea, _, hH', hr⟩ := hn
  cases ea
  have x1 : Ext H (fun b => if b = a then H a else H' b) := fun b u e => by
    show (if b = a then H a else H' b) = some u
    by_cases n : b = a
    · rw [if_pos n, ← n]; exact e
    · rw [if_neg n]; exact k b u e n
  have e2 : L2.upd (fun b => if b = a then H a else H' b) a (.lst vs') = H' := by
    funext b
    by_cases n : b = a
    · rw [n, upd_same, hH']
    · rw [upd_ne n]
      show (if b = a then H a else H' b) = H' b
      rw [if_neg n]
  have hF : (rdF K H').le (rdF K fun b => if b = a then H a else H' b) := rdF_keep fun b u e mu => by
    have n : b ≠ a := fun z => by
      rw [z, hH'] at e
      cases e
      exact mu trivial
    show (if b = a then H a else H' b) = some u
    rw [if_neg n]; exact e
  have := (r.keep x1).wr hM hw hd hσ ho (show (if a = a then H a else H' a) = some (.lst vs) by rw [if_pos rfl]; exact hH) (RepAll.mono hF hr)
  rw [e2] at this
  exact this
end
section
variable {X : Cx} {B : Addr → Prop} {M : MEnv} {w : Bool} {e : Expr} {es : List Expr} {m mo : Md} {pos p : Pos}
def ioV (i : Nat) (F : List D → List D → Option (D × List D)) (fa : CA) : CE := fun δ => match δ[i]? with
  | some (some (.list _)) => (fa δ).bind fun q => match q.2[i]? with
    | some (some (.list ds0)) => (F ds0 q.1).bind fun r => some (r.1, q.2.set i (some (.list r.2)))
    | _ => none
  | _ => none
theorem ioV_inv {i : Nat} {F : List D → List D → Option (D × List D)} {fa : CA} {δ δ' : Env} {r : D} (h : ioV i F fa δ = some (r, δ')) : ∃ dsa as δ1 ds0 ds1, δ[i]? = some (some (.list dsa)) ∧ fa δ = some (as, δ1) ∧ δ1[i]? = some (some (.list ds0)) ∧ F ds0 as = some (r, ds1) ∧ δ' = δ1.set i (some (.list ds1)) := by
  unfold ioV at h
  split at h
  · rename_i dsa e1
    obtain ⟨⟨as, δ1⟩, h1, h⟩ := Option.bind_eq_some_iff.mp h
    split at h
    · rename_i ds0 e2
      obtain ⟨⟨r', ds1⟩, h2, h⟩ := Option.bind_eq_some_iff.mp h
      cases h
      exact ⟨dsa, as, δ1, ds0, ds1, e1, h1, e2, h2, rfl⟩
    · cases h
  · cases h
theorem ARep.toF {K : PySem.W.Frag} {H : Hp} {B B' : Addr → Prop} : ∀ {ms : List Md} {ds : List D} {vs : List V}, ARep K H B ms ds vs → frzAll ms = true → ARep K H B' ms ds vs
  | _, _, _, .nil, _ => .nil
  | .frz :: _, _, _, .cons (p := p) a b, h => .cons (p := p) a (ARep.toF b h)
  | .len :: _, _, _, .cons _ _, h => by cases h
  | .sta :: _, _, _, .cons _ _, h => by cases h
  | .own :: _, _, _, .cons _ _, h => by cases h
  | .io _ :: _, _, _, .cons _ _, h => by cases h
theorem de_io {k i : Nat} {fn : Addr} {fd : FuncData} {ps : List Str} {ms : List Md} {fa : CA} {F : List D → List D → Option (D × List D)} {x y : Str} {py : Pos} (G : FnI X.prog X.w X.K X.mg X.base k fn fd ps ms mo F) (hr : Room k X.A) (hfr : frzAll ms = true)
    (hM : M[i]? = some (some m)) (hwr : m.wr = true) (hy : PE X (.Name y py) (tVar i))
    (hg : Gl X x) (hx : X.mg x = some (.ref fn)) (hk : PySem.W.keepIn X.K (.ref fn) = true) (hb : Binds X.K fd ps []) (ha : DA X B M w es fa ms)
    (hdb : (x == ("__debug__" : Str)) = false) (he : starEach (.Name y py :: es) X.env = (false, eval (.Name y py) X.env) :: starEach es X.env) (hpl : (backTo pos (starEach es X.env)).any (·.1) = false) :
    DE X B M true (.Call (.Name x p) (.Name y py :: es) [] pos) (ioV i F fa) mo :=
  PE.mono (pe_call G hr hg hx hk hb .nil pass0 (pa_cons hy ha he) hdb he hpl) fun σ H Q h => by
    obtain ⟨δ, o, r, δ', hR, hf, kk⟩ := h
    obtain ⟨dsa, as, δ1, ds0, ds1, e1, h1, e2, h2, rfl⟩ := ioV_inv hf
    obtain ⟨a, vs, ev, hoa, hHa, hxa⟩ := hR.ownL hM hwr e1
    refine ⟨.ref a, ev, δ, o, as, δ1, hR, h1, fun us H1 o1 k1 R1 s1 a1 => ?_⟩
    obtain ⟨a', vs1, ev1, hoa1, hHa1, hxa1⟩ := R1.ownL hM hwr e2
    rw [ev] at ev1
    cases ev1
    refine ⟨a, ds0, as, us, r, ds1, by rw [List.append_nil], ⟨a, vs1, rfl, rfl, hHa1, hxa1⟩, a1.toF hfr, h2, fun z H3 p3 k3 t3 ow3 r3 f3 c3 => ?_⟩
    have kH : Kp true o1 H1 H3 := ⟨fun b u e n => k3 b u e fun q => n rfl ⟨i, by rw [q]; exact hoa1⟩, t3⟩
    have R3 := R1.io hM hwr e2 ev hoa1 hHa1 k3 ow3
    exact kk z H3 o1 p3 ((k1.up fun _ => rfl).trans s1 kH) R3 s1 (r3 B) (fun b q => ⟨k1.there b (f3 b q), R1.fresh (f3 b q)⟩) c3
end
end Dn
/-! Den18: short forms for printed derivations: names, calls of defs and built-ins. -/
namespace Dn
open PySem PySem.Spec PyProof.Rows L2

/-- a def of the text as it stands behind the top -/
structure Df (K : PySem.W.Frag) (mg : Str → Option Value) (x : Str) (st : Stmt) (ps : List Str) : Prop where
  ex : ∃ (f : Addr) (fd : FuncData), Fun K x x st f fd ∧ mg x = some (.ref f) ∧ Binds K fd ps []
/-- a def that may be called by its name, by what it computes -/
structure Cl (P : Program) (w : World) (K : PySem.W.Frag) (mg : Str → Option Value) (base : Heap) (k : Nat) (x : Str) (ms : List Md) (mr : Md) (F : List D → Option D) : Prop where
  ex : ∃ (f : Addr) (fd : FuncData) (ps : List Str), FnD P w K mg base k f fd ps ms mr F ∧ mg x = some (.ref f) ∧ PySem.W.keepIn K (.ref f) = true ∧ Binds K fd ps []
/-- .. that writes its first argument -/
structure ClI (P : Program) (w : World) (K : PySem.W.Frag) (mg : Str → Option Value) (base : Heap) (k : Nat) (x : Str) (ms : List Md) (mr : Md) (F : List D → List D → Option (D × List D)) : Prop where
  ex : ∃ (f : Addr) (fd : FuncData) (ps : List Str), FnI P w K mg base k f fd ps ms mr F ∧ mg x = some (.ref f) ∧ PySem.W.keepIn K (.ref f) = true ∧ Binds K fd ps []
section
variable {P : Program} {w : World} {K : PySem.W.Frag} {mg : Str → Option Value} {base : Heap}
theorem Cl.of {x : Str} {st : Stmt} {N ps : List Str} {k : Nat} {ms : List Md} {mr : Md} {g : CS} {M' : MEnv} (F : Df K mg x st ps) (Sc0 : FnScope N ps (defScope st)) (hms : pmOk ms = true) (hmr : reOk mr = true) (hl : ms.length = ps.length)
    (hbody : ∀ (f : Addr) (cdv : Value) (A : Around) (outer : List PySem.Env) (s : Shared) (H : Hp) (E : XK) (B : Addr → Prop), Room k (A.deeper (envOfC x (defScope st) s.heap.objs.size f cdv)) →
      DSs (cxOf CX0 P w K mg base N x (defScope st) f cdv A outer s H E).nox B ⟨mr, [], [], []⟩ (entM N.length ms) (defBody st) g M') : Cl P w K mg base (k + 1) x ms mr (fnF g N.length ps.length) := by
  obtain ⟨f, fd, hf, hm, hb⟩ := F.ex
  exact ⟨f, fd, ps, fn_ok hf Sc0 hms hmr hl (hbody f), hm, hf.kp, hb⟩
theorem ClI.of {x : Str} {st : Stmt} {N ps : List Str} {k : Nat} {ms : List Md} {mr : Md} {g : CS} (F : Df K mg x st ps) (Sc0 : FnScope N ps (defScope st)) (hms : frzAll ms = true) (hmr : reOk mr = true) (hl : ms.length + 1 = ps.length) (hN : ms.length + 1 ≤ N.length)
    (hbody : ∀ (f a : Addr) (cdv : Value) (A : Around) (outer : List PySem.Env) (s : Shared) (H : Hp) (E : XK) (B : Addr → Prop), Room k (A.deeper (envOfC x (defScope st) s.heap.objs.size f cdv)) →
      DSs (cxOf CX0 P w K mg base N x (defScope st) f cdv A outer s H E).nox B ⟨mr, [], [], [some (.io a)]⟩ (entM N.length (.io a :: ms)) (defBody st) g [some (.io a)]) : ClI P w K mg base (k + 1) x ms mr (fnI g N.length ps.length) := by
  obtain ⟨f, fd, hf, hm, hb⟩ := F.ex
  exact ⟨f, fd, ps, fn_io hf Sc0 hms hmr hl hN (hbody f), hm, hf.kp, hb⟩
/-- nothing is promised: a def no deeper -/
theorem Cl.zero {x : Str} {st : Stmt} {ps : List Str} {ms : List Md} {mr : Md} (F : Df K mg x st ps) : Cl P w K mg base 0 x ms mr (fun _ => none) := by
  obtain ⟨f, fd, hf, hm, hb⟩ := F.ex
  refine ⟨f, fd, ps, ⟨fun vs H Q E h => ?_, fun A outer s H args us vs Q E _ _ _ _ h => ?_⟩, hm, hf.kp, hb⟩
  · obtain ⟨_, _, _, z, _⟩ := h
    cases z
  · obtain ⟨_, _, _, z, _⟩ := h
    cases z
theorem Cl.up {x : Str} {j k : Nat} {ms : List Md} {mr : Md} {F : List D → Option D} (c : Cl P w K mg base j x ms mr F) (h : j ≤ k) : Cl P w K mg base k x ms mr F := by
  obtain ⟨f, fd, ps, a, b, d, e⟩ := c.ex
  exact ⟨f, fd, ps, a.mono h, b, d, e⟩
end
theorem allF {ms : List Md} (h : frzAll ms = true := by rfl) : ∀ m ∈ ms, m = .frz := (frzAll_pm h).2
theorem hr65 {k : Nat} {A : Around} (r : Room k A) : A.units + 65 < cLine := by
  have := r.un
  omega
section
variable {X : Cx} {B : Addr → Prop} {M : MEnv} {w : Bool} {e : Expr} {es : List Expr} {m mo : Md} {pos p : Pos} {k j : Nat} {x : Str}
theorem de_c {ms ns : List Md} {fa : CA} {F : List D → Option D} (c : Cl X.prog X.w X.K X.mg X.base j x ns mo F) (hr : Room k X.A) (hj : j ≤ k) (hw : awOk ms ns = true) (hg : Gl X x) (ha : DA X B M w (e :: es) fa ms)
    (hdb : (x == ("__debug__" : Str)) = false) (he : starEach (e :: es) X.env = (false, eval e X.env) :: starEach es X.env) (hpl : (backTo pos (starEach es X.env)).any (·.1) = false) :
    DE X B M w (.Call (.Name x p) (e :: es) [] pos) (cN F fa) mo := by
  obtain ⟨f, fd, ps, G, hm, kp, b⟩ := c.ex
  exact de_call G (hr.mono hj) hw hg hm kp b ha hdb he hpl
theorem de_c0 {F : List D → Option D} (c : Cl X.prog X.w X.K X.mg X.base j x [] mo F) (hr : Room k X.A) (hj : j ≤ k) (hg : Gl X x) (hdb : (x == ("__debug__" : Str)) = false) :
    DE X B M false (.Call (.Name x p) [] [] pos) (cN F aNil) mo := by
  obtain ⟨f, fd, ps, G, hm, kp, b⟩ := c.ex
  exact de_call0 G (hr.mono hj) hg hm kp b hdb
theorem de_ci {i : Nat} {ms : List Md} {fa : CA} {F : List D → List D → Option (D × List D)} {y : Str} {py : Pos} (c : ClI X.prog X.w X.K X.mg X.base j x ms mo F) (hr : Room k X.A) (hj : j ≤ k) (hfr : frzAll ms = true)
    (hM : M[i]? = some (some m)) (hwr : m.wr = true) (hN : X.N[i]? = some y) (hv : Vis X.env.scope y)
    (hg : Gl X x) (ha : DA X B M w es fa ms) (hyd : (y == ("__debug__" : Str)) = false) (hyc : (y == ("__classdict__" : Str)) = false)
    (hdb : (x == ("__debug__" : Str)) = false) (he : starEach (.Name y py :: es) X.env = (false, eval (.Name y py) X.env) :: starEach es X.env) (hpl : (backTo pos (starEach es X.env)).any (·.1) = false) :
    DE X B M true (.Call (.Name x p) (.Name y py :: es) [] pos) (ioV i F fa) mo := by
  obtain ⟨f, fd, ps, G, hm, kp, b⟩ := c.ex
  exact de_io G (hr.mono hj) hfr hM hwr (pe_var hN hv hyd hyc) hg hm kp b ha hdb he hpl
/-- the name in the i-th slot -/
theorem eV (i : Nat) (hM : M[i]? = some (some m)) (hN : X.N[i]? = some x) (hv : Vis X.env.scope x) (hd : (x == ("__debug__" : Str)) = false) (hcd : (x == ("__classdict__" : Str)) = false) : DE X B M false (.Name x pos) (rd i) (rdM m) := de_var hM (pe_var hN hv hd hcd)
theorem gN {i : Nat} {mi : Md} (hm : okS mi = true) (hN : X.N.Nodup) (hi : X.N[i]? = some x) (hx : Loc X.env.scope x) (hf : X.fn x = true ∨ X.env.scope.names.lookup x = some .local) : DG X B M mi (.Name x pos) (stS i) (M.set i (some mi)) [i] := dg_name hm (pg_name hN hi hx hf)
variable {S : Sc} {M' : MEnv} {f : CE} {apos cpos px : Pos} {i : Nat}
theorem sApp (hM : M[i]? = some (some m)) (hwr : m.wr = true) (hN : X.N[i]? = some x) (hv : Vis X.env.scope x) (hd : (x == ("__debug__" : Str)) = false) (hcd : (x == ("__classdict__" : Str)) = false) (he : DE X B M w e f .frz) (hs0 : starEach [e] X.env = [(false, eval e X.env)])
    (hbm : ∀ {te : TE} {t : TA}, PE X (.Name x px) te → PA X [e] t → PE X (.Call (.Attribute (.Name x px) "append" apos) [e] [] cpos) (tBM X.K "list" rAppend te t))
    (hs : swapsWith (.Call (.Attribute (.Name x px) "append" apos) [e] [] cpos) none pos.line X.env = pure false) :
    DS X B S M (.Expr (.Call (.Attribute (.Name x px) "append" apos) [e] [] cpos) pos) (apS i f) M := ds_append hM hwr (pe_var hN hv hd hcd) he (pa_cons he pa_nil hs0) hbm hs
/-- x.extend(new list) -/
def exL (i : Nat) (f : CE) : CS := fun δ => match δ[i]? with
  | some (some (.list _)) => (f δ).bind fun p => match p.1, p.2[i]? with
    | .list es, some (some (.list ds)) => if ds.length + es.length ≤ sizeLine then some (.nx (p.2.set i (some (.list (ds ++ es))))) else none
    | _, _ => none
  | _ => none
theorem exL_inv {i : Nat} {f : CE} {δ : Env} {fl : Fl} (h : exL i f δ = some fl) : ∃ ds0 es δ1 ds, δ[i]? = some (some (.list ds0)) ∧ f δ = some (.list es, δ1) ∧ δ1[i]? = some (some (.list ds)) ∧ ds.length + es.length ≤ sizeLine ∧ fl = .nx (δ1.set i (some (.list (ds ++ es)))) := by
  unfold exL at h
  split at h
  · rename_i ds0 e0
    obtain ⟨⟨d, δ1⟩, h1, h⟩ := Option.bind_eq_some_iff.mp h
    dsimp only at h
    split at h
    · rename_i es ds e2
      split at h
      · rename_i hz
        cases h
        exact ⟨ds0, es, δ1, ds, e0, h1, e2, hz, rfl⟩
      · cases h
    · cases h
  · cases h
theorem sExt (hM : M[i]? = some (some m)) (hwr : m.wr = true) (hN : X.N[i]? = some x) (hv : Vis X.env.scope x) (hd : (x == ("__debug__" : Str)) = false) (hcd : (x == ("__classdict__" : Str)) = false) (he : DE X B M w e f .own) (hs0 : starEach [e] X.env = [(false, eval e X.env)])
    (hbm : ∀ {te : TE} {t : TA}, PE X (.Name x px) te → PA X [e] t → PE X (.Call (.Attribute (.Name x px) "extend" apos) [e] [] cpos) (tBM X.K "list" rExtend te t))
    (hs : swapsWith (.Call (.Attribute (.Name x px) "extend" apos) [e] [] cpos) none pos.line X.env = pure false) :
    DS X B S M (.Expr (.Call (.Attribute (.Name x px) "extend" apos) [e] [] cpos) pos) (exL i f) M := PS.mono (ps_expr (hbm (pe_var hN hv hd hcd) (pa_cons he pa_nil hs0)) hs) fun D' σ H q => by
  obtain ⟨δ, o, fl, hR, hf, k⟩ := q
  obtain ⟨ds0, es, δ1, ds, h0, h1, h2, hz, rfl⟩ := exL_inv hf
  obtain ⟨a0, vs0, e0, ho0, hH0, _⟩ := hR.ownL hM hwr h0
  refine ⟨.ref a0, e0, .inl ⟨rfl, vs0, .inl (.inl hH0)⟩, δ, o, .list es, δ1, hR, h1, fun v H1 o1 p1 k1 R1 s1 r1 f1 c1 => ?_⟩
  obtain ⟨a, vs, ev, ho, hH, hv2⟩ := R1.ownL hM hwr h2
  rw [e0] at ev
  cases ev
  obtain ⟨b, ys, rfl, _, hb, hy⟩ := r1
  refine ⟨a0, b, vs, ys, rfl, rfl, hH, hb, by rw [← hv2.length, ← hy.length]; exact hz, ?_⟩
  exact k σ _ o1 ((k1.up fun _ => rfl).trans s1 (Kp.wr ⟨i, ho⟩ hH)) s1 (R1.wr hM hwr h2 e0 ho hH (RepAll.append hv2 hy))
end
end Dn
/-! Den19: what the top has written; the law's end. -/
namespace Dn
open PySem PySem.Spec PyProof.Rows L2

theorem Df.mk1 {K : PySem.W.Frag} {h : Heap} {mg : Str → Option Value} {x : Str} {st : Stmt} {ps : List Str} {f : Addr} {oc : Value} {od an : Option Addr} {osl : Array (Option Value)} {kV doc pm cdv ct : Value} (X : K.In h) (G : h.Ns mainGlobals mg)
    (a : PySem.W.nsIn K mainGlobals x = some (some (.ref f))) (l : K.lookup f = some ⟨oc, od, .func (PySem.W.fnOf x x (defArgs st) (defBody st) (defScope st) .none kV doc pm an cdv ct), osl⟩) (c : PySem.W.codeIn K cdv x = true) (k : PySem.W.keepIn K (.ref f) = true)
    (hb : ∀ (kV doc pm : Value) (an : Option Addr) (cdv ct : Value) (us : List Value), us.length = ps.length → bindArgs (PySem.W.fnOf x x (defArgs st) (defBody st) (defScope st) .none kV doc pm an cdv ct) ⟨us, []⟩ = pure (ps.zip us)) : Df K mg x st ps :=
  ⟨f, _, fun_mk l c k, PySem.W.mg_of X G a, (fun_mk l c k).binds hb⟩
mutual
/-- data among the module's objects -/
inductive KD (K : PySem.W.Frag) : D → Value → Prop
  | non : KD K .none .none
  | bl (b : Bool) : KD K (.bool b) (.bool b)
  | int (i : Int) (t : Tok) : KD K (.int i) (.int i t)
  | str (x : Str) (t : Tok) : KD K (.str x) (.str x t)
  | tup {a : Addr} {od : Option Addr} {us : List Value} {n : Nat} {osl : Array (Option Value)} {ds : List D} : K.lookup a = some ⟨.type "tuple", od, .seq us.toArray n, osl⟩ → KDs K ds us → KD K (.tuple ds) (.ref a)
inductive KDs (K : PySem.W.Frag) : List D → List Value → Prop
  | nil : KDs K [] []
  | cons {d : D} {ds : List D} {u : Value} {us : List Value} : KD K d u → KDs K ds us → KDs K (d :: ds) (u :: us)
end
mutual
/-- no sequence in it is longer than a list may be -/
def szD : D → Bool
  | .tuple ds => decide (ds.length ≤ sizeLine) && szAll ds
  | .list _ => false
  | .dict _ => false
  | .none => true
  | .bool _ => true
  | .int _ => true
  | .str _ => true
def szAll : List D → Bool
  | [] => true
  | d :: ds => szD d && szAll ds
end
mutual
theorem KD.rep {K : PySem.W.Frag} : ∀ {d : D} {u : Value}, KD K d u → szD d = true → ∃ v, RelV v u ∧ ∀ H, Rep (rdF K H) d v
  | _, _, .non, _ => ⟨.non, rfl, fun _ => .non⟩
  | _, _, .bl b, _ => ⟨.bl b, rfl, fun _ => .bl b⟩
  | _, _, .int i t, _ => ⟨.int i, ⟨t, rfl⟩, fun _ => .int i⟩
  | _, _, .str x t, _ => ⟨.str x, ⟨t, rfl⟩, fun _ => .str x⟩
  | _, _, .tup (a := a) (us := us) (n := n) l h, hz => by
    simp only [szD, Bool.and_eq_true, decide_eq_true_eq] at hz
    obtain ⟨vs, r, k⟩ := KDs.rep h hz.2
    have hl : us.length = vs.length := (Vals.length r).symm
    refine ⟨.ref a, rfl, fun H => .tup (vs := vs) (.inr ⟨_, _, n, l, rfl, rfl, ?_, ?_⟩) (k H)⟩
    · rw [List.size_toArray, hl, ← (k H).length]
      exact hz.1
    · exact r
theorem KDs.rep {K : PySem.W.Frag} : ∀ {ds : List D} {us : List Value}, KDs K ds us → szAll ds = true → ∃ vs, Vals vs us ∧ ∀ H, RepAll (rdF K H) ds vs
  | _, _, .nil, _ => ⟨[], .nil, fun _ => .nil⟩
  | _, _, .cons a b, hz => by
    simp only [szAll, Bool.and_eq_true] at hz
    obtain ⟨v, r1, k1⟩ := KD.rep a hz.1
    obtain ⟨vs, r2, k2⟩ := KDs.rep b hz.2
    exact ⟨v :: vs, .cons r1 r2, fun H => .cons (k1 H) (k2 H)⟩
end
theorem Kon.of {K : PySem.W.Frag} {h : Heap} {mg : Str → Option Value} {x : Str} {d : D} {u : Value} (X : K.In h) (G : h.Ns mainGlobals mg) (a : PySem.W.nsIn K mainGlobals x = some (some u)) (r : KD K d u) (hz : szD d = true) : Kon K mg x d := by
  obtain ⟨v, r1, k⟩ := r.rep hz
  exact ⟨u, v, PySem.W.mg_of X G a, r1, k⟩
/-- the law's promise -/
def spLaw (K : PySem.W.Frag) : Sp := fun vs H Q _ => ∃ (a : Addr) (ns : List Int), vs = [.ref a] ∧ Only H ∧ SqL K H a (ns.map V.int) ∧ ∀ H', Q (.bl true) H'
theorem rep_ints {r : Rdr} : ∀ ns : List Int, RepAll r (ns.map PyData.int) (ns.map V.int)
  | [] => .nil
  | n :: ns => .cons (.int n) (rep_ints ns)
theorem law_imp {P : Program} {w : World} {K : PySem.W.Frag} {mg : Str → Option Value} {base : Heap} {k : Nat} {f : Addr} {fd : FuncData} {F : List D → Option D} (h : FnD P w K mg base k f fd ["script"] [.frz] .frz F) (hF : ∀ ns : List Int, F [.list (ns.map .int)] = some (.bool true)) : FnOk P w K mg base CX0 k f fd ["script"] (spLaw K) :=
  h.imp fun vs H Q E q => by
    obtain ⟨a, ns, rfl, hO, hS, hQ⟩ := q
    refine ⟨[.list (ns.map .int)], .bool true, .cons (p := noP) (.lst ?_ (rep_ints ns)) .nil, hF ns, fun z H' p _ r _ _ => ?_⟩
    · rcases hS with (hS | ⟨o, hS⟩) | hS
      · rcases hO a with z | ⟨o, xs, z⟩
        · rw [hS] at z; cases z
        · rw [hS] at z; cases z
      · exact .inl ⟨o, hS⟩
      · exact .inr hS
    · have r1 := r noP
      cases (show Rep (rdF K H') (.bool true) z from r1)
      exact hQ H'
end Dn
/-! Denotations of defs that many laws bear, printed by gen.py. -/
namespace Lb
open PySem Dn

def k_FIRST_POSE : D := .tuple [.tuple [.int 0, .int 0, .int 0, .int 0], .int 0]
def k_HEADINGS : D := .int 8
def e1_added : CE := (c2 addD (rd 2) (rd 3))
def den_added : CS := (seqS (rtS (cN tupleD (aCons (lcV (rgV zipD (aCons (rd 0) (aCons (rd 1) aNil))) (tgT 2 (tCons' (stS 2) (tCons' (stS 3) tNil'))) [2, 3] yesT e1_added) aNil))) skip)
def F_added := fnF den_added 4 2
def e1_taken_off : CE := (c2 subD (rd 2) (rd 3))
def den_taken_off : CS := (seqS (rtS (cN tupleD (aCons (lcV (rgV zipD (aCons (rd 0) (aCons (rd 1) aNil))) (tgT 2 (tCons' (stS 2) (tCons' (stS 3) tNil'))) [2, 3] yesT e1_taken_off) aNil))) skip)
def F_taken_off := fnF den_taken_off 4 2
def b1_turned_spot : CS := (seqS (asgS (stS 0) (tupV (aCons (c1 negD (c2 ixD (rd 0) (cst (.int 3)))) (aCons (c2 ixD (rd 0) (cst (.int 0))) (aCons (c2 ixD (rd 0) (cst (.int 1))) (aCons (c2 ixD (rd 0) (cst (.int 2))) aNil)))))) skip)
def den_turned_spot : CS := (seqS (forS (rgV rg1 (aCons (c2 modD (rd 1) (cst k_HEADINGS)) aNil)) (stS 2) b1_turned_spot) (seqS (rtS (rd 0)) skip))
def F_turned_spot := fnF den_turned_spot 3 2
def den_along : CS := (seqS (rtS (cN F_turned_spot (aCons (tupV (aCons (rd 1) (aCons (cst (.int 0)) (aCons (cst (.int 0)) (aCons (cst (.int 0)) aNil))))) (aCons (rd 0) aNil)))) skip)
def F_along := fnF den_along 2 2
def den_east : CS := (seqS (rtS (tupV (aCons (c2 mulD (cst (.int 2)) (c2 ixD (rd 0) (cst (.int 0)))) (aCons (c2 subD (c2 ixD (rd 0) (cst (.int 1))) (c2 ixD (rd 0) (cst (.int 3)))) aNil)))) skip)
def F_east := fnF den_east 1 1
def den_turn_of : CS := (seqS (rtS (dgV [("left", .int 1), ("right", .int (-1)), ("straight", .int 0)] (c2 ixD (rd 0) (cst (.int 0))))) skip)
def F_turn_of := fnF den_turn_of 1 1
def den_step_of : CS := (seqS (asgS (tgT 2 (tCons' (stS 2) (tCons' (stS 3) tNil'))) (rd 0)) (seqS (ifS (tstB (c2 eqD (rd 2) (cst (.str "straight")))) (seqS (rtS (cN F_along (aCons (rd 1) (aCons (rd 3) aNil)))) skip) skip) (seqS (ifS (tstB (c2 eqD (rd 2) (cst (.str "left")))) (seqS (rtS (cN F_taken_off (aCons (cN F_along (aCons (c2 addD (rd 1) (cst (.int 2))) (aCons (rd 3) aNil))) (aCons (cN F_along (aCons (c2 addD (rd 1) (cst (.int 3))) (aCons (rd 3) aNil))) aNil)))) skip) skip) (seqS (rtS (cN F_taken_off (aCons (cN F_along (aCons (c2 addD (rd 1) (cst (.int 1))) (aCons (rd 3) aNil))) (aCons (cN F_along (aCons (c2 addD (rd 1) (cst (.int 2))) (aCons (rd 3) aNil))) aNil)))) skip))))
def F_step_of := fnF den_step_of 4 2
def den_pose_behind : CS := (seqS (asgS (tgT 2 (tCons' (stS 2) (tCons' (stS 3) tNil'))) (rd 0)) (seqS (rtS (tupV (aCons (cN F_added (aCons (rd 2) (aCons (cN F_step_of (aCons (rd 1) (aCons (rd 3) aNil))) aNil))) (aCons (c2 modD (c2 addD (rd 3) (cN F_turn_of (aCons (rd 1) aNil))) (cst k_HEADINGS)) aNil)))) skip))
def F_pose_behind := fnF den_pose_behind 4 2
def b1_poses_along : CS := (seqS (apS 2 (cN F_pose_behind (aCons (imm (c2 ixD (rd 2) (c1 negD (cst (.int 1))))) (aCons (rd 3) aNil)))) skip)
def den_poses_along : CS := (seqS (asgS (stS 2) (lstV (aCons (rd 0) aNil))) (seqS (forS (seqI (rd 1)) (stS 3) b1_poses_along) (seqS (rtS (cN tupleD (aCons (rd 2) aNil))) skip)))
def F_poses_along := fnF den_poses_along 4 2
def den_pose_after : CS := (seqS (rtS (c2 ixD (cN F_poses_along (aCons (rd 0) (aCons (rd 1) aNil))) (c1 negD (cst (.int 1))))) skip)
def F_pose_after := fnF den_pose_after 2 2
def den_is_closed : CS := (seqS (rtS (andV (c2 neD (rd 0) (tupV aNil)) (c2 eqD (cN F_pose_after (aCons (cst k_FIRST_POSE) (aCons (rd 0) aNil))) (cst k_FIRST_POSE)))) skip)
def F_is_closed := fnF den_is_closed 1 1
def e1_turning_of : CE := (cN F_turn_of (aCons (rd 1) aNil))
def den_turning_of : CS := (seqS (rtS (cN sumD (aCons (lcV (seqI (rd 0)) (stS 1) [1] yesT e1_turning_of) aNil))) skip)
def F_turning_of := fnF den_turning_of 2 1
def den__law_mix : CS := (seqS (asgS (stS 0) (c2 modD (cN intD (aCons (c2 addD (c2 mulD (rd 0) (cst (.int 6364136223846793005))) (cst (.int 1442695040888963407))) aNil)) (cst (.int 18446744073709551616)))) (seqS (rtS (c2 modD (cN intD (aCons (c2 addD (c2 fdivD (c2 mulD (rd 0) (rd 0)) (cst (.int 4294967296))) (c2 mulD (rd 0) (cst (.int 69621)))) aNil)) (cst (.int 18446744073709551557)))) skip))
def F__law_mix := fnF den__law_mix 1 1
def den__law_tape : CS := (seqS (rtS (lstV (aCons (cN listD (aCons (slV (rd 0) noPt (ptOf (cst (.int 80)))) aNil)) (aCons (cst (.int 0)) (aCons (cst (.int 0)) (aCons (c2 addD (cst (.int 1)) (cN lenD (aCons (rd 0) aNil))) aNil)))))) skip)
def F__law_tape := fnF den__law_tape 1 1
def den__law_take : CS := (seqS (ifS (tstB (c2 ltD (c2 ixD (rd 0) (cst (.int 2))) (rd 1))) (seqS (ifS (tstB (c2 ltD (c2 ixD (rd 0) (cst (.int 1))) (cN lenD (aCons (c2 ixD (rd 0) (cst (.int 0))) aNil)))) (seqS (asgS (stS 2) (imm (c2 ixD (c2 ixD (rd 0) (cst (.int 0))) (c2 ixD (rd 0) (cst (.int 1)))))) (seqS (asgS (stS 2) (ifV (tstB (c2 geD (rd 2) (cst (.int 0)))) (c2 mulD (cst (.int 2)) (rd 2)) (c2 subD (c2 mulD (c1 negD (cst (.int 2))) (rd 2)) (cst (.int 1))))) (seqS (stI 0 (c2 addD (c2 ixD (rd 0) (cst (.int 1))) (cst (.int 1))) (cst (.int 1))) (seqS (stI 0 (cN F__law_mix (aCons (c2 addD (c2 ixD (rd 0) (cst (.int 3))) (rd 2)) aNil)) (cst (.int 3))) (seqS (stI 0 (ifV (tstB (c2 geD (rd 2) (c2 powD (cst (.int 10)) (cst (.int 18))))) (rd 2) (cN F__law_mix (aCons (c2 addD (cN F__law_mix (aCons (rd 2) aNil)) (c2 ixD (rd 0) (cst (.int 1)))) aNil))) (cst (.int 2))) skip))))) (seqS (stI 0 (cN F__law_mix (aCons (c2 addD (c2 ixD (rd 0) (cst (.int 3))) (cst (.int 1))) aNil)) (cst (.int 3))) (seqS (stI 0 (imm (c2 ixD (rd 0) (cst (.int 3)))) (cst (.int 2))) skip))) skip) skip) (seqS (asgS (stS 3) (c2 modD (cN intD (aCons (c2 ixD (rd 0) (cst (.int 2))) aNil)) (rd 1))) (seqS (stI 0 (c2 fdivD (c2 ixD (rd 0) (cst (.int 2))) (rd 1)) (cst (.int 2))) (seqS (rtS (rd 3)) skip))))
def F__law_take := fnI den__law_take 4 2
def e1__law_same (rec : List D → Option D) : CE := (cN rec (aCons (c2 ixD (rd 0) (rd 2)) (aCons (c2 ixD (rd 1) (rd 2)) aNil)))
def den__law_same (rec : List D → Option D) : CS := (seqS (ifS (orT (andT (tst (isiW "tuple" (rd 0))) (tst (isiW "tuple" (rd 1)))) (andT (tst (isiW "list" (rd 0))) (tst (isiW "list" (rd 1))))) (seqS (rtS (andV (c2 eqD (cN lenD (aCons (rd 0) aNil)) (cN lenD (aCons (rd 1) aNil))) (cN allD (aCons (lcV (rgV rg1 (aCons (cN lenD (aCons (rd 0) aNil)) aNil)) (stS 2) [2] yesT (e1__law_same rec)) aNil)))) skip) skip) (seqS (ifS (orT (tst (isiW "bool" (rd 0))) (tst (isiW "bool" (rd 1)))) (seqS (rtS (andV (isiW "bool" (rd 0)) (andV (isiW "bool" (rd 1)) (c2 eqD (rd 0) (rd 1))))) skip) skip) (seqS (ifS (orT (andT (tst (isiW "int" (rd 0))) (tst (isiW "int" (rd 1)))) (andT (tst (isiW "str" (rd 0))) (tst (isiW "str" (rd 1))))) (seqS (rtS (c2 eqD (rd 0) (rd 1))) skip) skip) (seqS (rtS (andV (c2 isD (rd 0) (cst .none)) (c2 isD (rd 1) (cst .none)))) skip))))
def F__law_same : Nat → List D → Option D
  | 0 => fun _ => none
  | n + 1 => fnF (den__law_same (F__law_same n)) 3 2
def b1__law_turned : CS := (seqS (asgS (stS 0) (tupV (aCons (c2 subD (cst (.int 0)) (c2 ixD (rd 0) (cst (.int 3)))) (aCons (c2 ixD (rd 0) (cst (.int 0))) (aCons (c2 ixD (rd 0) (cst (.int 1))) (aCons (c2 ixD (rd 0) (cst (.int 2))) aNil)))))) skip)
def den__law_turned : CS := (seqS (forS (rgV rg1 (aCons (c2 subD (rd 1) (c2 mulD (c2 fdivD (rd 1) (cst (.int 8))) (cst (.int 8)))) aNil)) (stS 2) b1__law_turned) (seqS (rtS (rd 0)) skip))
def F__law_turned := fnF den__law_turned 3 2
def e1__law_behind : CE := (c2 addD (c2 ixD (rd 8) (rd 11)) (c2 ixD (rd 9) (rd 11)))
def e2__law_behind : CE := (c2 addD (c2 ixD (rd 2) (rd 11)) (c2 ixD (rd 6) (rd 11)))
def den__law_behind : CS := (seqS (asgS (tgT 2 (tCons' (stS 2) (tCons' (stS 3) tNil'))) (rd 0)) (seqS (asgS (tgT 2 (tCons' (stS 4) (tCons' (stS 5) tNil'))) (rd 1)) (seqS (ifS (tstB (c2 eqD (rd 4) (cst (.str "straight")))) (seqS (asgS (tgT 2 (tCons' (stS 6) (tCons' (stS 7) tNil'))) (tupV (aCons (cN F__law_turned (aCons (tupV (aCons (rd 5) (aCons (cst (.int 0)) (aCons (cst (.int 0)) (aCons (cst (.int 0)) aNil))))) (aCons (rd 3) aNil))) (aCons (cst (.int 0)) aNil)))) skip) (seqS (asgS (stS 7) (ifV (tstB (c2 eqD (rd 4) (cst (.str "left")))) (cst (.int 1)) (c1 negD (cst (.int 1))))) (seqS (asgS (tgT 2 (tCons' (stS 8) (tCons' (stS 9) tNil'))) (tupV (aCons (cN F__law_turned (aCons (tupV (aCons (rd 5) (aCons (cst (.int 0)) (aCons (cst (.int 0)) (aCons (cst (.int 0)) aNil))))) (aCons (c2 addD (c2 addD (rd 3) (cst (.int 8))) (c2 mulD (cst (.int 2)) (rd 7))) aNil))) (aCons (cN F__law_turned (aCons (tupV (aCons (rd 5) (aCons (cst (.int 0)) (aCons (cst (.int 0)) (aCons (cst (.int 0)) aNil))))) (aCons (c2 subD (c2 addD (rd 3) (cst (.int 8))) (rd 7)) aNil))) aNil)))) (seqS (asgS (stS 6) (cN tupleD (aCons (lcV (rgV rg1 (aCons (cst (.int 4)) aNil)) (stS 11) [11] yesT e1__law_behind) aNil))) skip)))) (seqS (asgS (stS 10) (c2 addD (c2 addD (rd 3) (cst (.int 8))) (rd 7))) (seqS (rtS (tupV (aCons (cN tupleD (aCons (lcV (rgV rg1 (aCons (cst (.int 4)) aNil)) (stS 11) [11] yesT e2__law_behind) aNil)) (aCons (c2 subD (rd 10) (c2 mulD (c2 fdivD (rd 10) (cst (.int 8))) (cst (.int 8)))) aNil)))) skip)))))
def F__law_behind := fnF den__law_behind 12 2
def b1__law_after : CS := (seqS (asgS (stS 1) (cN F__law_behind (aCons (rd 1) (aCons (rd 2) aNil)))) skip)
def den__law_after : CS := (seqS (asgS (stS 1) (tupV (aCons (tupV (aCons (cst (.int 0)) (aCons (cst (.int 0)) (aCons (cst (.int 0)) (aCons (cst (.int 0)) aNil))))) (aCons (cst (.int 0)) aNil)))) (seqS (forS (seqI (rd 0)) (stS 2) b1__law_after) (seqS (rtS (rd 1)) skip)))
def F__law_after := fnF den__law_after 3 1
def den__law_piece : CS := (seqS (rtS (tupV (aCons (c2 ixD (lstV (aCons (cst (.str "left")) (aCons (cst (.str "right")) (aCons (cst (.str "straight")) aNil)))) (ioV 0 F__law_take (aCons (cst (.int 3)) aNil))) (aCons (c2 addD (cst (.int 1)) (ioV 0 F__law_take (aCons (rd 1) aNil))) aNil)))) skip)
def F__law_piece := fnI den__law_piece 2 2
end Lb
/-! Mth1: evaluation of denotations; the defs that many laws bear: eighths, tracks. -/
namespace Lb
open PySem hiding Env
open Dn

/-! ### evaluation -/
theorem fnF_rt {g : CS} {n m : Nat} {ds : List D} {d : D} {δ : Env} (hl : ds.length = m) (h : g (ent n ds) = some (.rt d δ)) : fnF g n m ds = some d := by
  unfold fnF
  rw [if_pos hl, h]
  rfl
theorem fnI_rt {g : CS} {n m : Nat} {ds0 ds l : List D} {d : D} {δ : Env} (hl : ds.length + 1 = m) (h : g (ent n (.list ds0 :: ds)) = some (.rt d δ)) (h2 : io0 δ = some l) : fnI g n m ds0 ds = some (d, l) := by
  unfold fnI
  rw [if_pos hl, h]
  show (io0 δ).map _ = _
  rw [h2]
  rfl
theorem seqS_nx {g h : CS} {δ δ1 : Env} (e : g δ = some (.nx δ1)) : seqS g h δ = h δ1 := by unfold seqS; rw [e]; rfl
theorem seqS_rt {g h : CS} {δ δ1 : Env} {d : D} (e : g δ = some (.rt d δ1)) : seqS g h δ = some (.rt d δ1) := by unfold seqS; rw [e]; rfl
theorem seqS_ct {g h : CS} {δ δ1 : Env} (e : g δ = some (.ct δ1)) : seqS g h δ = some (.ct δ1) := by unfold seqS; rw [e]; rfl
theorem seqS_bk {g h : CS} {δ δ1 : Env} (e : g δ = some (.bk δ1)) : seqS g h δ = some (.bk δ1) := by unfold seqS; rw [e]; rfl
theorem ifS_t {t : CT} {g h : CS} {δ δ1 : Env} (e : t δ = some (true, δ1)) : ifS t g h δ = g δ1 := by unfold ifS; rw [e]; rfl
theorem ifS_f {t : CT} {g h : CS} {δ δ1 : Env} (e : t δ = some (false, δ1)) : ifS t g h δ = h δ1 := by unfold ifS; rw [e]; rfl
theorem asgS_ev {t : CG} {f : CE} {δ δ1 δ2 : Env} {d : D} (e : f δ = some (d, δ1)) (h : t d δ1 = some δ2) : asgS t f δ = some (.nx δ2) := by
  unfold asgS
  rw [e]
  show (t d δ1).bind _ = _
  rw [h]
  rfl
theorem rtS_ev {f : CE} {δ δ1 : Env} {d : D} (e : f δ = some (d, δ1)) : rtS f δ = some (.rt d δ1) := by unfold rtS; rw [e]; rfl
theorem cN_ev {φ : List D → Option D} {f : CA} {δ δ1 : Env} {ds : List D} {d : D} (e : f δ = some (ds, δ1)) (h : φ ds = some d) : cN φ f δ = some (d, δ1) := by
  unfold cN
  rw [e]
  show (φ ds).bind _ = _
  rw [h]
  rfl
theorem aCons_ev {f : CE} {g : CA} {δ δ1 δ2 : Env} {d : D} {ds : List D} (e : f δ = some (d, δ1)) (h : g δ1 = some (ds, δ2)) : aCons f g δ = some (d :: ds, δ2) := by
  unfold aCons
  rw [e]
  show (g δ1).bind _ = _
  rw [h]
  rfl
theorem c2_ev {φ : D → D → Option D} {f g : CE} {δ δ1 δ2 : Env} {d e r : D} (h1 : f δ = some (d, δ1)) (h2 : g δ1 = some (e, δ2)) (h3 : φ d e = some r) : c2 φ f g δ = some (r, δ2) := by
  unfold c2
  rw [h1]
  show (g δ1).bind _ = _
  rw [h2]
  show (φ d e).bind _ = _
  rw [h3]
  rfl
theorem c1_ev {φ : D → Option D} {f : CE} {δ δ1 : Env} {d r : D} (h1 : f δ = some (d, δ1)) (h3 : φ d = some r) : c1 φ f δ = some (r, δ1) := by
  unfold c1
  rw [h1]
  show (φ d).bind _ = _
  rw [h3]
  rfl
theorem tupV_ev {f : CA} {δ δ1 : Env} {ds : List D} (e : f δ = some (ds, δ1)) : tupV f δ = some (.tuple ds, δ1) := by unfold tupV; rw [e]; rfl
theorem lstV_ev {f : CA} {δ δ1 : Env} {ds : List D} (e : f δ = some (ds, δ1)) : lstV f δ = some (.list ds, δ1) := by unfold lstV; rw [e]; rfl
theorem ifV_t {t : CT} {g h : CE} {δ δ1 : Env} (e : t δ = some (true, δ1)) : ifV t g h δ = g δ1 := by unfold ifV; rw [e]; rfl
theorem ifV_f {t : CT} {g h : CE} {δ δ1 : Env} (e : t δ = some (false, δ1)) : ifV t g h δ = h δ1 := by unfold ifV; rw [e]; rfl
theorem andV_t {f g : CE} {δ δ1 : Env} {d : D} (e : f δ = some (d, δ1)) (h : truD d = some true) : andV f g δ = g δ1 := by
  unfold andV
  rw [e]
  show (truD d).bind _ = _
  rw [h]
  rfl
theorem andV_f {f g : CE} {δ δ1 : Env} {d : D} (e : f δ = some (d, δ1)) (h : truD d = some false) : andV f g δ = some (d, δ1) := by
  unfold andV
  rw [e]
  show (truD d).bind _ = _
  rw [h]
  rfl
theorem orV_t {f g : CE} {δ δ1 : Env} {d : D} (e : f δ = some (d, δ1)) (h : truD d = some true) : orV f g δ = some (d, δ1) := by
  unfold orV
  rw [e]
  show (truD d).bind _ = _
  rw [h]
  rfl
theorem orV_f {f g : CE} {δ δ1 : Env} {d : D} (e : f δ = some (d, δ1)) (h : truD d = some false) : orV f g δ = g δ1 := by
  unfold orV
  rw [e]
  show (truD d).bind _ = _
  rw [h]
  rfl
theorem tstB_ev {f : CE} {δ δ1 : Env} {b : Bool} (e : f δ = some (.bool b, δ1)) : tstB f δ = some (b, δ1) := by unfold tstB; rw [e]; rfl
theorem tst_ev {f : CE} {δ δ1 : Env} {d : D} {b : Bool} (e : f δ = some (d, δ1)) (h : truD d = some b) : tst f δ = some (b, δ1) := by
  unfold tst
  rw [e]
  show (truD d).bind _ = _
  rw [h]
  rfl
theorem imm_ev {f : CE} {δ δ1 : Env} {d : D} (e : f δ = some (d, δ1)) (h : immut d = true) : imm f δ = some (d, δ1) := by
  unfold imm
  rw [e]
  show (if immut d = true then _ else _) = _
  rw [if_pos h]
theorem forS_ev {f : CA} {t : CG} {g : CS} {δ δ1 : Env} {ds : List D} (e : f δ = some (ds, δ1)) : forS f t g δ = forL t g ds δ1 := by unfold forS; rw [e]; rfl
theorem rgV_ev {φ : List D → Option (List D)} {f : CA} {δ δ1 : Env} {as ds : List D} (e : f δ = some (as, δ1)) (h : φ as = some ds) : rgV φ f δ = some (ds, δ1) := by
  unfold rgV
  rw [e]
  show ((φ as).bind _) = _
  rw [h]
  rfl
theorem seqI_ev {f : CE} {δ δ1 : Env} {d : D} {ds : List D} (e : f δ = some (d, δ1)) (h : itemsD d = some ds) : seqI f δ = some (ds, δ1) := by
  unfold seqI
  rw [e]
  show ((itemsD d).bind _) = _
  rw [h]
  rfl
theorem slV_ev {f : CE} {lo hi : CP} {δ δ1 δ2 δ3 : Env} {d r : D} {l u : Option Int} (h1 : f δ = some (d, δ1)) (h2 : lo δ1 = some (l, δ2)) (h3 : hi δ2 = some (u, δ3)) (h4 : slD d l u = some r) : slV f lo hi δ = some (r, δ3) := by
  unfold slV
  rw [h1]
  dsimp only [Option.bind_some]
  rw [h2]
  dsimp only [Option.bind_some]
  rw [h3]
  dsimp only [Option.bind_some]
  rw [h4]
  rfl
theorem slD_list {ds : List D} {l u : Option Int} (h : immutAll ds = true) : slD (.list ds) l u = some (.list (cutD ds l u)) := by
  show (if immutAll ds = true then _ else _) = _
  rw [if_pos h]
theorem slD_tuple {ds : List D} {l u : Option Int} (h : immutAll ds = true) : slD (.tuple ds) l u = some (.tuple (cutD ds l u)) := by
  show (if immutAll ds = true then _ else _) = _
  rw [if_pos h]
theorem listD_list {ds : List D} (h : immutAll ds = true) : listD [.list ds] = some (.list ds) := by
  show (if immutAll ds = true then _ else _) = _
  rw [if_pos h]
theorem tupleD_list {ds : List D} (h : immutAll ds = true) : tupleD [.list ds] = some (.tuple ds) := by
  show (if immutAll ds = true then _ else _) = _
  rw [if_pos h]
theorem cut_take (ds : List D) (n : Nat) : cutD ds none (some (n : Int)) = ds.take n := by
  unfold cutD
  rw [HT.sIx_nat, HT.sIx_none, Nat.sub_zero, List.drop_zero, ← List.take_take, List.take_length]
theorem forL_nx {t : CG} {g : CS} {d : D} {ds : List D} {δ δ1 δ2 : Env} (h1 : t d δ = some δ1) (h2 : g δ1 = some (.nx δ2)) : forL t g (d :: ds) δ = forL t g ds δ2 := by
  show ((t d δ).bind _) = _
  rw [h1]
  show ((g δ1).bind _) = _
  rw [h2]
  rfl
theorem forL_ct {t : CG} {g : CS} {d : D} {ds : List D} {δ δ1 δ2 : Env} (h1 : t d δ = some δ1) (h2 : g δ1 = some (.ct δ2)) : forL t g (d :: ds) δ = forL t g ds δ2 := by
  show ((t d δ).bind _) = _
  rw [h1]
  show ((g δ1).bind _) = _
  rw [h2]
  rfl
/-- a comprehension without a test: every item gives φ of it; I: what the environments are -/
theorem lcL_map {t : CG} {own : List Nat} {f : CE} {φ : D → D} (I : Env → Prop) : ∀ {ds : List D} {δ : Env}, I δ → (∀ d ∈ ds, ∀ δ, I δ → ∃ δ1 δ2, t d (wipeD δ own) = some δ1 ∧ f δ1 = some (φ d, δ2) ∧ I δ2) → ∃ δ', lcL t own yesT f ds δ = some (ds.map φ, δ') ∧ I δ'
  | [], δ, h, _ => ⟨δ, rfl, h⟩
  | d :: ds, δ, h, hs => by
    obtain ⟨δ1, δ2, e1, e2, h2⟩ := hs d List.mem_cons_self δ h
    obtain ⟨δ', e3, h3⟩ := lcL_map I (ds := ds) h2 fun d hd => hs d (List.mem_cons_of_mem _ hd)
    refine ⟨δ', ?_, h3⟩
    show ((t d (wipeD δ own)).bind _) = _
    rw [e1]
    show ((f δ1).bind _) = _
    rw [e2]
    show ((lcL t own yesT f ds δ2).bind _) = _
    rw [e3]
    rfl
theorem lcV_ev {fa : CA} {t : CG} {own : List Nat} {c : CT} {f : CE} {δ δ1 δ2 : Env} {ds es : List D} (h1 : fa δ = some (ds, δ1)) (h2 : lcL t own c f ds δ1 = some (es, δ2)) : lcV fa t own c f δ = some (.list es, backD δ1 δ2 own) := by
  unfold lcV
  rw [h1]
  show ((lcL t own c f ds δ1).bind _) = _
  rw [h2]
  rfl

/-! ### spots -/
abbrev Spot := Int × Int × Int × Int
def encS (s : Spot) : D := .tuple [.int s.1, .int s.2.1, .int s.2.2.1, .int s.2.2.2]
def rot (s : Spot) : Spot := (-s.2.2.2, s.1, s.2.1, s.2.2.1)
def rotN : Nat → Spot → Spot
  | 0, s => s
  | n + 1, s => rotN n (rot s)
def sadd (s t : Spot) : Spot := (s.1 + t.1, s.2.1 + t.2.1, s.2.2.1 + t.2.2.1, s.2.2.2 + t.2.2.2)
def ssub (s t : Spot) : Spot := (s.1 - t.1, s.2.1 - t.2.1, s.2.2.1 - t.2.2.1, s.2.2.2 - t.2.2.2)
theorem added_eq (s t : Spot) : F_added [encS s, encS t] = some (encS (sadd s t)) := by kernel_rfl
theorem taken_off_eq (s t : Spot) : F_taken_off [encS s, encS t] = some (encS (ssub s t)) := by kernel_rfl
theorem turned_loop (k : Option D) : ∀ (ds : List D) (s : Spot) (x : Option D), ∃ y, forL (stS 2) b1_turned_spot ds [some (encS s), k, x] = some (.nx [some (encS (rotN ds.length s)), k, y])
  | [], s, x => ⟨x, rfl⟩
  | d :: ds, s, x => by
    obtain ⟨y, h⟩ := turned_loop k ds (rot s) (some d)
    exact ⟨y, (forL_nx (δ1 := [some (encS s), k, some d]) (δ2 := [some (encS (rot s)), k, some d]) rfl rfl).trans h⟩
/-- turned by k eighths -/
def turn (k : Int) (s : Spot) : Spot := rotN (k % 8).toNat s
theorem fmod8 (k : Int) : k.fmod 8 = k % 8 := by
  rw [Int.fmod_eq_emod_of_nonneg _ (by decide)]
theorem rg1_ev {n : Int} (h0 : 0 ≤ n) (h1 : n ≤ 16777216) : rg1 [.int n] = some (rgI 0 n.toNat) := by
  show (if inB n = true ∧ n.toNat ≤ PySem.sizeLine then some (rgI 0 n.toNat) else none) = _
  rw [if_pos (by
    refine ⟨?_, ?_⟩
    · unfold inB
      simp only [Bool.and_eq_true, decide_eq_true_eq]
      omega
    · show n.toNat ≤ 16777216
      omega)]
theorem turned_spot_eq (s : Spot) (k : Int) : F_turned_spot [encS s, .int k] = some (encS (turn k s)) := by
  have h0 : 0 ≤ k % 8 := by omega
  have h1 : k % 8 < 8 := by omega
  obtain ⟨y, h⟩ := turned_loop (some (.int k)) (rgI 0 (k % 8).toNat) s none
  rw [rgI_length] at h
  refine fnF_rt rfl ((seqS_nx (δ1 := _) ((forS_ev (ds := rgI 0 (k % 8).toNat) (δ1 := [some (encS s), some (.int k), none]) ?_).trans h)).trans rfl)
  show ((rg1 [.int (k.fmod 8)]).bind _) = _
  rw [fmod8, rg1_ev h0 (by omega)]
  rfl
end Lb
/-! Mth2: good data; equality of data; _law_same of a thing and itself. -/
namespace Lb
open PySem hiding Env
open Dn

/-! ### good data -/
inductive Ok : Nat → D → Prop
  | non {n : Nat} : Ok n .none
  | bl {n : Nat} (b : Bool) : Ok n (.bool b)
  | int {n : Nat} (i : Int) : Ok n (.int i)
  | str {n : Nat} {x : Str} : PyData.canLay0 (.str x) = true → Ok n (.str x)
  | tup {n : Nat} {ds : List D} : (∀ d ∈ ds, Ok n d) → ds.length ≤ 16777216 → Ok (n + 1) (.tuple ds)
  | lst {n : Nat} {ds : List D} : (∀ d ∈ ds, Ok n d) → ds.length ≤ 16777216 → Ok (n + 1) (.list ds)
theorem lay_all {ds : List D} (h : ∀ d ∈ ds, PyData.canLay0 d = true) : PyData.canLayAll0 ds = true := by
  induction ds with
  | nil => simp [PyData.canLayAll0]
  | cons d ds ih =>
    simp only [PyData.canLayAll0, Bool.and_eq_true]
    exact ⟨h d List.mem_cons_self, ih fun e he => h e (List.mem_cons_of_mem _ he)⟩
theorem depth_all {ds : List D} {n : Nat} (h : ∀ d ∈ ds, PyData.depth d ≤ n) : PyData.depthAll ds ≤ n := by
  induction ds with
  | nil => simp [PyData.depthAll]
  | cons d ds ih =>
    simp only [PyData.depthAll]
    exact Nat.max_le.mpr ⟨h d List.mem_cons_self, ih fun e he => h e (List.mem_cons_of_mem _ he)⟩
theorem Ok.lay {n : Nat} {d : D} (h : Ok n d) : PyData.canLay0 d = true := by
  induction h with
  | non => simp [PyData.canLay0]
  | bl => simp [PyData.canLay0]
  | int => simp [PyData.canLay0]
  | str h => exact h
  | tup _ _ ih => simp only [PyData.canLay0]; exact lay_all ih
  | lst _ _ ih => simp only [PyData.canLay0]; exact lay_all ih
theorem Ok.depth {n : Nat} {d : D} (h : Ok n d) : PyData.depth d ≤ n := by
  induction h with
  | non => simp [PyData.depth]
  | bl => simp [PyData.depth]
  | int => simp [PyData.depth]
  | str h => simp [PyData.depth]
  | tup _ _ ih => simp only [PyData.depth]; exact Nat.succ_le_succ (depth_all ih)
  | lst _ _ ih => simp only [PyData.depth]; exact Nat.succ_le_succ (depth_all ih)
theorem Ok.shaped {n : Nat} {d : D} (h : Ok n d) (hn : n ≤ 64) : SeqAt.shaped d = true := by
  unfold SeqAt.shaped
  rw [h.lay, Bool.true_and, decide_eq_true_eq]
  exact Nat.le_trans h.depth hn
theorem Ok.up {n : Nat} {d : D} (h : Ok n d) : ∀ {m : Nat}, n ≤ m → Ok m d := by
  induction h with
  | non => exact fun _ => .non
  | bl b => exact fun _ => .bl b
  | int i => exact fun _ => .int i
  | str h => exact fun _ => .str h
  | tup _ hl ih =>
    intro m hm
    cases m with
    | zero => omega
    | succ m => exact .tup (fun d hd => ih d hd (by omega)) hl
  | lst _ hl ih =>
    intro m hm
    cases m with
    | zero => omega
    | succ m => exact .lst (fun d hd => ih d hd (by omega)) hl
theorem Ok.t2 {n : Nat} {a b : D} (ha : Ok n a) (hb : Ok n b) : Ok (n + 1) (.tuple [a, b]) := .tup (fun d hd => by
  simp only [List.mem_cons, List.not_mem_nil, or_false] at hd
  rcases hd with rfl | rfl
  · exact ha
  · exact hb) (by show 2 ≤ _; decide)
theorem imm_all {ds : List D} (h : ∀ d ∈ ds, immut d = true) : immutAll ds = true := by
  induction ds with
  | nil => simp [immutAll]
  | cons d ds ih =>
    simp only [immutAll, Bool.and_eq_true]
    exact ⟨h d List.mem_cons_self, ih fun e he => h e (List.mem_cons_of_mem _ he)⟩
theorem imm_tup {ds : List D} (h : ∀ d ∈ ds, immut d = true) : immut (.tuple ds) = true := by
  simp only [immut]
  exact imm_all h

/-! ### equality -/
mutual
/-- without bools and dicts -/
def nob : D → Bool
  | .none => true
  | .bool _ => false
  | .int _ => true
  | .str _ => true
  | .list ds => nobAll ds
  | .tuple ds => nobAll ds
  | .dict _ => false
def nobAll : List D → Bool
  | [] => true
  | d :: ds => nob d && nobAll ds
end
mutual
theorem eqv_iff : ∀ (d e : D), nob d = true → nob e = true → (PyData.eqv d e = true ↔ d = e)
  | .none, e, _, h2 => by cases e <;> simp [PyData.eqv, nob] at h2 ⊢
  | .bool _, _, h, _ => by simp [nob] at h
  | .int i, e, _, h2 => by cases e <;> simp [PyData.eqv, nob] at h2 ⊢
  | .str x, e, _, h2 => by cases e <;> simp [PyData.eqv, nob] at h2 ⊢
  | .list ds, e, h, h2 => by
    cases e <;> simp only [PyData.eqv, nob, reduceCtorEq, Bool.false_eq_true, PyData.list.injEq] at h h2 ⊢
    exact eqvAll_iff _ _ h h2
  | .tuple ds, e, h, h2 => by
    cases e <;> simp only [PyData.eqv, nob, reduceCtorEq, Bool.false_eq_true, PyData.tuple.injEq] at h h2 ⊢
    exact eqvAll_iff _ _ h h2
  | .dict _, _, h, _ => by simp [nob] at h
theorem eqvAll_iff : ∀ (ds es : List D), nobAll ds = true → nobAll es = true → (PyData.eqvAll ds es = true ↔ ds = es)
  | [], [], _, _ => by simp [PyData.eqvAll]
  | [], _ :: _, _, _ => by simp [PyData.eqvAll]
  | _ :: _, [], _, _ => by simp [PyData.eqvAll]
  | d :: ds, e :: es, h, h2 => by
    simp only [nobAll, Bool.and_eq_true] at h h2
    simp only [PyData.eqvAll, Bool.and_eq_true, List.cons.injEq]
    rw [eqv_iff d e h.1 h2.1, eqvAll_iff ds es h.2 h2.2]
end
mutual
theorem eqv_self : ∀ (d : D), PyData.canLay0 d = true → PyData.eqv d d = true
  | .none, _ => by simp [PyData.eqv]
  | .bool _, _ => by simp [PyData.eqv]
  | .int i, _ => by simp [PyData.eqv]
  | .str x, _ => by simp [PyData.eqv]
  | .list ds, h => by
    simp only [PyData.eqv]
    exact eqvAll_self ds (by simpa only [PyData.canLay0] using h)
  | .tuple ds, h => by
    simp only [PyData.eqv]
    exact eqvAll_self ds (by simpa only [PyData.canLay0] using h)
  | .dict _, h => by simp [PyData.canLay0] at h
theorem eqvAll_self : ∀ (ds : List D), PyData.canLayAll0 ds = true → PyData.eqvAll ds ds = true
  | [], _ => by simp [PyData.eqvAll]
  | d :: ds, h => by
    simp only [PyData.canLayAll0, Bool.and_eq_true] at h
    simp only [PyData.eqvAll, Bool.and_eq_true]
    exact ⟨eqv_self d h.1, eqvAll_self ds h.2⟩
end
theorem eqD_ev {d e : D} {n : Nat} (hd : Ok n d) (he : Ok n e) (hn : n ≤ 64) : eqD d e = some (.bool (PyData.eqv d e)) := by
  unfold eqD
  rw [if_pos ⟨hd.shaped hn, he.shaped hn⟩]
theorem neD_ev {d e : D} {n : Nat} (hd : Ok n d) (he : Ok n e) (hn : n ≤ 64) : neD d e = some (.bool (!PyData.eqv d e)) := by
  unfold neD
  rw [if_pos ⟨hd.shaped hn, he.shaped hn⟩]
theorem eqD_int (i j : Int) : eqD (.int i) (.int j) = some (.bool (decide (i = j))) := by
  rw [eqD_ev (n := 0) (.int i) (.int j) (by omega)]
  simp only [PyData.eqv]
  rfl

/-! ### _law_same -/
theorem isiW_ev {T : String} {f : CE} {δ δ1 : Env} {d : D} (h : f δ = some (d, δ1)) (hd : noDic d = true) : isiW T f δ = some (.bool (isiB T d), δ1) := c1_ev h (by rw [if_pos hd])
theorem atI_nat {ds : List D} {i : Nat} {d : D} (h : ds[i]? = some d) : L2.atI ds (i : Int) = some d := by
  have hi : i < ds.length := (List.getElem?_eq_some_iff.mp h).1
  unfold L2.atI L2.ixN
  rw [if_pos (by omega), if_pos (by omega)]
  show ds[((i : Int)).toNat]? = some d
  rw [Int.toNat_natCast, h]
theorem all_true (ds : List D) : allD [.list (ds.map fun _ => PyData.bool true)] = some (.bool true) := by
  have h : asBools (ds.map fun _ => PyData.bool true) = some (ds.map fun _ => true) := by
    induction ds with
    | nil => rfl
    | cons d ds ih =>
      show ((asBools (ds.map fun _ => PyData.bool true)).map (true :: ·)) = _
      rw [ih]
      rfl
  show ((asBools _).map _) = _
  rw [h]
  show some (PyData.bool (List.all _ _)) = _
  congr 2
  simp
theorem rgI_mem {n : Nat} {d : D} (h : d ∈ rgI 0 n) : ∃ i : Nat, i < n ∧ d = .int i := by
  unfold rgI at h
  obtain ⟨i, hi, e⟩ := List.mem_map.mp h
  exact ⟨i, List.mem_range.mp hi, by rw [← e]; simp⟩
theorem rg1_len {n : Nat} (h : n ≤ 16777216) : rg1 [.int n] = some (rgI 0 n) := by
  rw [rg1_ev (by omega) (by omega), Int.toNat_natCast]
theorem same_seq {n : Nat} {d : D} {ds : List D} (rec : List D → Option D) (hl : ds.length ≤ 16777216) (hix : ∀ i : Nat, ∀ e, ds[i]? = some e → ixD d (.int i) = some e) (hlen : lenD [d] = some (.int ds.length)) (hrec : ∀ e ∈ ds, rec [e, e] = some (.bool true)) :
    (andV (c2 eqD (cN lenD (aCons (rd 0) aNil)) (cN lenD (aCons (rd 1) aNil))) (cN allD (aCons (lcV (rgV rg1 (aCons (cN lenD (aCons (rd 0) aNil)) aNil)) (stS 2) [2] yesT (e1__law_same rec)) aNil))) [some d, some d, none] = some (.bool true, [some d, some d, none]) := by
  have l0 : cN lenD (aCons (rd 0) aNil) [some d, some d, none] = some (.int ds.length, [some d, some d, none]) := cN_ev (aCons_ev rfl rfl) hlen
  have l1 : cN lenD (aCons (rd 1) aNil) [some d, some d, none] = some (.int ds.length, [some d, some d, none]) := cN_ev (aCons_ev rfl rfl) hlen
  have e0 : c2 eqD (cN lenD (aCons (rd 0) aNil)) (cN lenD (aCons (rd 1) aNil)) [some d, some d, none] = some (.bool true, [some d, some d, none]) := c2_ev l0 l1 (by rw [eqD_int]; simp)
  unfold andV
  rw [e0]
  show (cN allD _ _) = _
  obtain ⟨δ', h1, y, rfl⟩ := lcL_map (t := stS 2) (own := [2]) (f := e1__law_same rec) (φ := fun _ => PyData.bool true) (fun δ => ∃ x, δ = [some d, some d, x]) (ds := rgI 0 ds.length) (δ := [some d, some d, none]) ⟨none, rfl⟩ (by
    rintro c hc δ ⟨x, rfl⟩
    obtain ⟨i, hi, rfl⟩ := rgI_mem hc
    have hg := List.getElem?_eq_getElem hi
    have hx := hix i _ hg
    refine ⟨[some d, some d, some (.int i)], [some d, some d, some (.int i)], rfl, cN_ev (aCons_ev (c2_ev rfl rfl hx) (aCons_ev (c2_ev rfl rfl hx) rfl)) (hrec _ (List.getElem_mem hi)), _, rfl⟩)
  exact (cN_ev (aCons_ev (lcV_ev (δ1 := [some d, some d, none]) (rgV_ev (aCons_ev l0 rfl) (rg1_len hl)) h1) rfl) (all_true _)).trans rfl
theorem tstW {T : String} {i : Nat} {δ : Env} {d : D} (h : δ[i]? = some (some d)) (hd : noDic d = true) : tst (isiW T (rd i)) δ = some (isiB T d, δ) := tst_ev (isiW_ev (by unfold rd; rw [h]) hd) rfl
theorem andT_t {f g : CT} {δ δ1 : Env} (h : f δ = some (true, δ1)) : andT f g δ = g δ1 := by unfold andT; rw [h]; rfl
theorem andT_f {f g : CT} {δ δ1 : Env} (h : f δ = some (false, δ1)) : andT f g δ = some (false, δ1) := by unfold andT; rw [h]; rfl
theorem orT_t {f g : CT} {δ δ1 : Env} (h : f δ = some (true, δ1)) : orT f g δ = some (true, δ1) := by unfold orT; rw [h]; rfl
theorem orT_f {f g : CT} {δ δ1 : Env} (h : f δ = some (false, δ1)) : orT f g δ = g δ1 := by unfold orT; rw [h]; rfl
theorem same_self {n : Nat} {d : D} (h : Ok n d) : F__law_same (n + 1) [d, d] = some (.bool true) := by
  induction h with
  | non => kernel_rfl
  | bl b => cases b <;> kernel_rfl
  | int i =>
    show fnF (den__law_same _) 3 2 _ = _
    refine fnF_rt (δ := [some (.int i), some (.int i), none]) rfl ?_
    refine (seqS_nx (δ1 := [some (.int i), some (.int i), none]) (by kernel_rfl)).trans ?_
    refine (seqS_nx (δ1 := [some (.int i), some (.int i), none]) (by kernel_rfl)).trans ?_
    refine seqS_rt ((ifS_t (δ1 := [some (.int i), some (.int i), none]) (by kernel_rfl)).trans (seqS_rt (rtS_ev (c2_ev rfl rfl ?_))))
    rw [eqD_int]
    simp
  | @str n x hx =>
    show fnF (den__law_same _) 3 2 _ = _
    refine fnF_rt (δ := [some (.str x), some (.str x), none]) rfl ?_
    refine (seqS_nx (δ1 := [some (.str x), some (.str x), none]) (by kernel_rfl)).trans ?_
    refine (seqS_nx (δ1 := [some (.str x), some (.str x), none]) (by kernel_rfl)).trans ?_
    refine seqS_rt ((ifS_t (δ1 := [some (.str x), some (.str x), none]) (by kernel_rfl)).trans (seqS_rt (rtS_ev (c2_ev rfl rfl ?_))))
    rw [eqD_ev (n := 0) (.str hx) (.str hx) (by omega), eqv_self _ hx]
  | @tup n ds _ hl ih =>
    show fnF (den__law_same (F__law_same (n + 1))) 3 2 _ = _
    refine fnF_rt (δ := [some (.tuple ds), some (.tuple ds), none]) rfl ?_
    refine seqS_rt ((ifS_t (δ1 := [some (.tuple ds), some (.tuple ds), none]) (by kernel_rfl)).trans (seqS_rt (rtS_ev ?_)))
    exact same_seq (n := n) (ds := ds) _ hl (fun i e he => atI_nat he) rfl ih
  | @lst n ds _ hl ih =>
    show fnF (den__law_same (F__law_same (n + 1))) 3 2 _ = _
    refine fnF_rt (δ := [some (.list ds), some (.list ds), none]) rfl ?_
    refine seqS_rt ((ifS_t (δ1 := [some (.list ds), some (.list ds), none]) (by kernel_rfl)).trans (seqS_rt (rtS_ev ?_)))
    exact same_seq (n := n) (ds := ds) _ hl (fun i e he => atI_nat he) rfl ih
end Lb
/-! Mth3: the tape: what is drawn. -/
namespace Lb
open PySem hiding Env
open Dn

theorem mulD_int {i j : Int} (h : i.natAbs < 2 ^ 64 ∨ j.natAbs < 2 ^ 64) : mulD (.int i) (.int j) = some (.int (i * j)) := by
  show (dI mulC (fun i j => .int (i * j)) (.int i) (.int j)) = _
  show (if mulC i j = true then _ else _) = _
  rw [if_pos (by
    unfold mulC
    rw [Bool.or_eq_true, decide_eq_true_eq, decide_eq_true_eq]
    exact h)]
theorem modD_int {i j : Int} (h : j ≠ 0) : modD (.int i) (.int j) = some (.int (i.fmod j)) := by
  show (if modC i j = true then _ else _) = _
  rw [if_pos (by unfold modC; rw [decide_eq_true_eq]; exact h)]
theorem fdivD_int {i j : Int} (h : j ≠ 0) (h2 : j.natAbs < 2 ^ 9000) : fdivD (.int i) (.int j) = some (.int (i.fdiv j)) := by
  show (if divC i j = true then _ else _) = _
  rw [if_pos (by unfold divC; rw [Bool.and_eq_true, decide_eq_true_eq, decide_eq_true_eq]; exact ⟨h, h2⟩)]
theorem small_pow {n : Nat} (h : n < 2 ^ 64) : n < 2 ^ 9000 := Nat.lt_of_lt_of_le h (Nat.pow_le_pow_right (by decide) (by decide))
theorem mix_ev (x : Int) : ∃ y, F__law_mix [.int x] = some (.int y) := by
  obtain ⟨y, hy⟩ : ∃ y, y = (x * 6364136223846793005 + 1442695040888963407).fmod 18446744073709551616 := ⟨_, rfl⟩
  have hm : y.natAbs < 2 ^ 64 := by
    rw [hy, Int.fmod_eq_emod_of_nonneg _ (by decide)]
    omega
  refine ⟨((y * y).fdiv 4294967296 + y * 69621).fmod 18446744073709551557, fnF_rt (δ := [some (.int y)]) rfl ?_⟩
  refine (seqS_nx (δ1 := [some (.int y)]) (asgS_ev (d := .int y) (δ1 := [some (.int x)]) (c2_ev (d := .int (x * 6364136223846793005 + 1442695040888963407)) (cN_ev (aCons_ev (c2_ev (c2_ev rfl rfl (mulD_int (.inr (by decide)))) rfl rfl) rfl) rfl) rfl (by rw [hy]; exact modD_int (by decide))) rfl)).trans ?_
  exact seqS_rt (rtS_ev (c2_ev (d := .int ((y * y).fdiv 4294967296 + y * 69621)) (cN_ev (aCons_ev (c2_ev (c2_ev (c2_ev rfl rfl (mulD_int (.inl hm))) rfl (fdivD_int (by decide) (small_pow (by decide)))) (c2_ev rfl rfl (mulD_int (.inl hm))) rfl) rfl) rfl) rfl (modD_int (by decide))))

/-! ### the tape -/
def encT (cells : List Int) (i : Nat) (v w : Int) : List D := [.list (cells.map .int), .int i, .int v, .int w]
def TapeOk (t : List D) : Prop := ∃ cells i v w, t = encT cells i v w
theorem stI_ev {i : Nat} {f g : CE} {δ δ1 δ2 δ3 : Env} {d : D} {ds0 ds : List D} {k : Int} {j : Nat} (h1 : f δ = some (d, δ1)) (h2 : δ1[i]? = some (some (.list ds0))) (h3 : g δ1 = some (.int k, δ2)) (h4 : δ2[i]? = some (some (.list ds))) (h5 : L2.ixN ds.length k = some j) (h6 : δ2.set i (some (.list (ds.set j d))) = δ3) :
    Dn.stI i f g δ = some (.nx δ3) := by
  unfold Dn.stI
  rw [h1]
  dsimp only [Option.bind_some]
  rw [h2]
  dsimp only [Option.bind_some]
  rw [h3]
  dsimp only [Option.bind_some]
  rw [h4]
  dsimp only [Option.bind_some]
  rw [h5, ← h6]
  rfl
theorem ltD_int (i j : Int) : ltD (.int i) (.int j) = some (.bool (decide (i < j))) := rfl
theorem geD_int (i j : Int) : geD (.int i) (.int j) = some (.bool (decide (j ≤ i))) := rfl
def takeA : CS := (ifS (tstB (c2 ltD (c2 ixD (rd 0) (cst (.int 2))) (rd 1))) (seqS (ifS (tstB (c2 ltD (c2 ixD (rd 0) (cst (.int 1))) (cN lenD (aCons (c2 ixD (rd 0) (cst (.int 0))) aNil)))) (seqS (asgS (stS 2) (imm (c2 ixD (c2 ixD (rd 0) (cst (.int 0))) (c2 ixD (rd 0) (cst (.int 1)))))) (seqS (asgS (stS 2) (ifV (tstB (c2 geD (rd 2) (cst (.int 0)))) (c2 mulD (cst (.int 2)) (rd 2)) (c2 subD (c2 mulD (c1 negD (cst (.int 2))) (rd 2)) (cst (.int 1))))) (seqS (Dn.stI 0 (c2 addD (c2 ixD (rd 0) (cst (.int 1))) (cst (.int 1))) (cst (.int 1))) (seqS (Dn.stI 0 (cN F__law_mix (aCons (c2 addD (c2 ixD (rd 0) (cst (.int 3))) (rd 2)) aNil)) (cst (.int 3))) (seqS (Dn.stI 0 (ifV (tstB (c2 geD (rd 2) (c2 powD (cst (.int 10)) (cst (.int 18))))) (rd 2) (cN F__law_mix (aCons (c2 addD (cN F__law_mix (aCons (rd 2) aNil)) (c2 ixD (rd 0) (cst (.int 1)))) aNil))) (cst (.int 2))) skip))))) (seqS (Dn.stI 0 (cN F__law_mix (aCons (c2 addD (c2 ixD (rd 0) (cst (.int 3))) (cst (.int 1))) aNil)) (cst (.int 3))) (seqS (Dn.stI 0 (imm (c2 ixD (rd 0) (cst (.int 3)))) (cst (.int 2))) skip))) skip) skip)
def takeB : CS := (seqS (asgS (stS 3) (c2 modD (cN intD (aCons (c2 ixD (rd 0) (cst (.int 2))) aNil)) (rd 1))) (seqS (Dn.stI 0 (c2 fdivD (c2 ixD (rd 0) (cst (.int 2))) (rd 1)) (cst (.int 2))) (seqS (rtS (rd 3)) skip)))
theorem takeB_ev (cells : List Int) (i : Nat) (v w many : Int) (x : Option D) (h1 : 1 ≤ many) (h2 : many < 2 ^ 64) : takeB [some (.list (encT cells i v w)), some (.int many), x, none] =
    some (.rt (.int (v.fmod many)) [some (.list (encT cells i (v.fdiv many) w)), some (.int many), x, some (.int (v.fmod many))]) := by
  refine (seqS_nx (δ1 := [some (.list (encT cells i v w)), some (.int many), x, some (.int (v.fmod many))]) (asgS_ev (d := .int (v.fmod many)) (δ1 := [some (.list (encT cells i v w)), some (.int many), x, none]) (c2_ev (d := .int v) (e := .int many) (cN_ev (aCons_ev (c2_ev rfl rfl rfl) rfl) rfl) rfl (modD_int (by omega))) rfl)).trans ?_
  refine (seqS_nx (δ1 := [some (.list (encT cells i (v.fdiv many) w)), some (.int many), x, some (.int (v.fmod many))]) (stI_ev (d := .int (v.fdiv many)) (δ1 := [some (.list (encT cells i v w)), some (.int many), x, some (.int (v.fmod many))]) (k := 2) (j := 2) (c2_ev (d := .int v) (e := .int many) (c2_ev rfl rfl rfl) rfl (fdivD_int (by omega) (small_pow (by omega)))) rfl rfl rfl rfl rfl)).trans ?_
  rfl
theorem ltD_t {i j : Int} (h : i < j) : ltD (.int i) (.int j) = some (.bool true) := by rw [ltD_int, decide_eq_true h]
theorem ltD_f {i j : Int} (h : ¬ i < j) : ltD (.int i) (.int j) = some (.bool false) := by rw [ltD_int, decide_eq_false h]
theorem geD_t {i j : Int} (h : j ≤ i) : geD (.int i) (.int j) = some (.bool true) := by rw [geD_int, decide_eq_true h]
theorem geD_f {i j : Int} (h : ¬ j ≤ i) : geD (.int i) (.int j) = some (.bool false) := by rw [geD_int, decide_eq_false h]
theorem takeA_ev (cells : List Int) (i : Nat) (v w many : Int) : ∃ cells' i' v' w' x, takeA [some (.list (encT cells i v w)), some (.int many), none, none] = some (.nx [some (.list (encT cells' i' v' w')), some (.int many), x, none]) := by
  have t1 : ∀ b, decide (v < many) = b → (tstB (c2 ltD (c2 ixD (rd 0) (cst (.int 2))) (rd 1))) [some (.list (encT cells i v w)), some (.int many), none, none] = some (b, [some (.list (encT cells i v w)), some (.int many), none, none]) := fun b e => by
    rw [← e]
    rfl
  by_cases hv1 : v < many
  · by_cases hc2 : (i : Int) < cells.length
    · -- a cell is read
      have hi : i < cells.length := by omega
      have hx : (cells.map PyData.int)[i]? = some (.int cells[i]) := by
        rw [List.getElem?_map, List.getElem?_eq_getElem hi]
        rfl
      obtain ⟨c, hc⟩ : ∃ c, c = cells[i] := ⟨_, rfl⟩
      rw [← hc] at hx
      have s1 : (asgS (stS 2) (imm (c2 ixD (c2 ixD (rd 0) (cst (.int 0))) (c2 ixD (rd 0) (cst (.int 1)))))) [some (.list (encT cells i v w)), some (.int many), none, none] = some (.nx [some (.list (encT cells i v w)), some (.int many), some (.int c), none]) :=
        asgS_ev (imm_ev (c2_ev (d := .list (cells.map .int)) (e := .int i) (c2_ev rfl rfl rfl) (c2_ev rfl rfl rfl) (atI_nat hx)) rfl) rfl
      obtain ⟨c2v, s2⟩ : ∃ c', (asgS (stS 2) (ifV (tstB (c2 geD (rd 2) (cst (.int 0)))) (c2 mulD (cst (.int 2)) (rd 2)) (c2 subD (c2 mulD (c1 negD (cst (.int 2))) (rd 2)) (cst (.int 1))))) [some (.list (encT cells i v w)), some (.int many), some (.int c), none] = some (.nx [some (.list (encT cells i v w)), some (.int many), some (.int c'), none]) := by
        by_cases h : 0 ≤ c
        · exact ⟨2 * c, asgS_ev ((ifV_t (tstB_ev (c2_ev rfl rfl (geD_t h)))).trans (c2_ev rfl rfl (mulD_int (.inl (by decide))))) rfl⟩
        · exact ⟨-2 * c - 1, asgS_ev ((ifV_f (tstB_ev (c2_ev rfl rfl (geD_f h)))).trans (c2_ev (d := .int (-2 * c)) (c2_ev (d := .int (-2)) rfl rfl (mulD_int (.inl (by decide)))) rfl rfl)) rfl⟩
      obtain ⟨w', hw⟩ := mix_ev (w + c2v)
      have s3 : (Dn.stI 0 (c2 addD (c2 ixD (rd 0) (cst (.int 1))) (cst (.int 1))) (cst (.int 1))) [some (.list (encT cells i v w)), some (.int many), some (.int c2v), none] = some (.nx [some (.list (encT cells (i + 1) v w)), some (.int many), some (.int c2v), none]) :=
        stI_ev (k := 1) (j := 1) (d := .int ((i : Int) + 1)) (c2_ev (c2_ev rfl rfl rfl) rfl rfl) rfl rfl rfl rfl (by unfold encT; rw [show ((i : Int) + 1) = ((i + 1 : Nat) : Int) by omega]; rfl)
      have s4 : (Dn.stI 0 (cN F__law_mix (aCons (c2 addD (c2 ixD (rd 0) (cst (.int 3))) (rd 2)) aNil)) (cst (.int 3))) [some (.list (encT cells (i + 1) v w)), some (.int many), some (.int c2v), none] = some (.nx [some (.list (encT cells (i + 1) v w')), some (.int many), some (.int c2v), none]) :=
        stI_ev (k := 3) (j := 3) (d := .int w') (cN_ev (aCons_ev (c2_ev (c2_ev rfl rfl rfl) rfl rfl) rfl) hw) rfl rfl rfl rfl rfl
      obtain ⟨v', s5⟩ : ∃ v', (Dn.stI 0 (ifV (tstB (c2 geD (rd 2) (c2 powD (cst (.int 10)) (cst (.int 18))))) (rd 2) (cN F__law_mix (aCons (c2 addD (cN F__law_mix (aCons (rd 2) aNil)) (c2 ixD (rd 0) (cst (.int 1)))) aNil))) (cst (.int 2))) [some (.list (encT cells (i + 1) v w')), some (.int many), some (.int c2v), none] = some (.nx [some (.list (encT cells (i + 1) v' w')), some (.int many), some (.int c2v), none]) := by
        have hp : c2 powD (cst (.int 10)) (cst (.int 18)) [some (.list (encT cells (i + 1) v w')), some (.int many), some (.int c2v), none] = some (.int 1000000000000000000, [some (.list (encT cells (i + 1) v w')), some (.int many), some (.int c2v), none]) := by kernel_rfl
        by_cases h : 1000000000000000000 ≤ c2v
        · exact ⟨c2v, stI_ev (k := 2) (j := 2) (d := .int c2v) ((ifV_t (tstB_ev (c2_ev rfl hp (geD_t h)))).trans rfl) rfl rfl rfl rfl rfl⟩
        · obtain ⟨m1, hm1⟩ := mix_ev c2v
          obtain ⟨m2, hm2⟩ := mix_ev (m1 + ((i + 1 : Nat) : Int))
          exact ⟨m2, stI_ev (k := 2) (j := 2) (d := .int m2) ((ifV_f (tstB_ev (c2_ev rfl hp (geD_f h)))).trans (cN_ev (aCons_ev (c2_ev (cN_ev (aCons_ev rfl rfl) hm1) (c2_ev rfl rfl rfl) rfl) rfl) hm2)) rfl rfl rfl rfl rfl⟩
      refine ⟨cells, i + 1, v', w', some (.int c2v), ?_⟩
      refine (ifS_t (t1 true (decide_eq_true hv1))).trans ?_
      refine (seqS_nx ((ifS_t (δ1 := [some (.list (encT cells i v w)), some (.int many), none, none]) (tstB_ev (c2_ev (d := .int i) (e := .int cells.length) (c2_ev rfl rfl rfl) (cN_ev (aCons_ev (c2_ev rfl rfl rfl) rfl) ?_) (ltD_t hc2)))).trans
        ((seqS_nx s1).trans ((seqS_nx s2).trans ((seqS_nx s3).trans ((seqS_nx s4).trans (seqS_nx s5))))))).trans rfl
      show some (PyData.int ((cells.map PyData.int).length : Nat)) = _
      rw [List.length_map]
    · obtain ⟨w', hw⟩ := mix_ev (w + 1)
      refine ⟨cells, i, w', w', none, ?_⟩
      refine (ifS_t (t1 true (decide_eq_true hv1))).trans ?_
      refine (seqS_nx ((ifS_f (δ1 := [some (.list (encT cells i v w)), some (.int many), none, none]) (tstB_ev (c2_ev (d := .int i) (e := .int cells.length) (c2_ev rfl rfl rfl) (cN_ev (aCons_ev (c2_ev rfl rfl rfl) rfl) ?_) (ltD_f hc2)))).trans
        ((seqS_nx (δ1 := [some (.list (encT cells i v w')), some (.int many), none, none]) (stI_ev (k := 3) (j := 3) (d := .int w') (cN_ev (aCons_ev (c2_ev (c2_ev rfl rfl rfl) rfl rfl) rfl) hw) rfl rfl rfl rfl rfl)).trans (seqS_nx (δ1 := [some (.list (encT cells i w' w')), some (.int many), none, none]) (stI_ev (k := 2) (j := 2) (d := .int w') (imm_ev (c2_ev rfl rfl rfl) rfl) rfl rfl rfl rfl rfl))))).trans rfl
      show some (PyData.int ((cells.map PyData.int).length : Nat)) = _
      rw [List.length_map]
  · exact ⟨cells, i, v, w, none, (ifS_f (t1 false (decide_eq_false hv1))).trans rfl⟩
theorem take_ev {t : List D} (ht : TapeOk t) {many : Int} (h1 : 1 ≤ many) (h2 : many < 2 ^ 64) : ∃ d t', F__law_take t [.int many] = some (.int d, t') ∧ 0 ≤ d ∧ d < many ∧ TapeOk t' := by
  obtain ⟨cells, i, v, w, rfl⟩ := ht
  obtain ⟨cells', i', v', w', x, hA⟩ := takeA_ev cells i v w many
  refine ⟨v'.fmod many, encT cells' i' (v'.fdiv many) w', ?_, ?_, ?_, _, _, _, _, rfl⟩
  · exact fnI_rt (g := seqS takeA takeB) rfl ((seqS_nx hA).trans (takeB_ev _ _ _ _ _ _ h1 h2)) rfl
  · rw [Int.fmod_eq_emod_of_nonneg _ (by omega)]
    exact Int.emod_nonneg _ (by omega)
  · rw [Int.fmod_eq_emod_of_nonneg _ (by omega)]
    exact Int.emod_lt_of_pos _ (by omega)
end Lb
/-! Mth4: pieces, poses, tracks; the law's own road. -/
namespace Lb
open PySem hiding Env
open Dn

inductive Kd where | L | R | S
deriving DecidableEq
def Kd.d : Kd → D
  | .L => .str "left"
  | .R => .str "right"
  | .S => .str "straight"
def Kd.t : Kd → Int
  | .L => 1
  | .R => -1
  | .S => 0
abbrev Pc := Kd × Int
def encP (p : Pc) : D := .tuple [p.1.d, .int p.2]
abbrev Pose := Spot × Int
def encPo (p : Pose) : D := .tuple [encS p.1, .int p.2]
def encTr (t : List Pc) : D := .tuple (t.map encP)

theorem ok_str {n : Nat} {x : PySem.Str} (h : PyData.canLay0 (.str x) = true) : Ok n (.str x) := .str h
theorem ok_Kd (n : Nat) (k : Kd) : Ok n k.d := by cases k <;> exact .str (by decide +kernel)
theorem ok_P (n : Nat) (p : Pc) : Ok (n + 1) (encP p) := Ok.t2 (ok_Kd n _) (.int _)
theorem ok_S (n : Nat) (s : Spot) : Ok (n + 1) (encS s) := .tup (fun d hd => by
  simp only [List.mem_cons, List.not_mem_nil, or_false] at hd
  rcases hd with rfl | rfl | rfl | rfl <;> exact .int _) (by show 4 ≤ _; decide)
theorem ok_Po (n : Nat) (p : Pose) : Ok (n + 2) (encPo p) := Ok.t2 (ok_S n _) (.int _)
theorem ok_Tr (n : Nat) (t : List Pc) (h : t.length ≤ 16777216) : Ok (n + 2) (encTr t) := .tup (fun d hd => by
  obtain ⟨p, _, rfl⟩ := List.mem_map.mp hd
  exact ok_P n p) (by rw [List.length_map]; exact h)
theorem imm_P (p : Pc) : immut (encP p) = true := by
  obtain ⟨k, n⟩ := p
  cases k <;> kernel_rfl
theorem imm_S (s : Spot) : immut (encS s) = true := by kernel_rfl
theorem imm_Po (p : Pose) : immut (encPo p) = true := by kernel_rfl
theorem imm_Ps (t : List Pc) : immutAll (t.map encP) = true := imm_all fun d hd => by
  obtain ⟨p, _, rfl⟩ := List.mem_map.mp hd
  exact imm_P p
theorem imm_Tr (t : List Pc) : immut (encTr t) = true := by
  unfold encTr
  simp only [immut]
  exact imm_Ps t
theorem nob_P (p : Pc) : nob (encP p) = true := by
  obtain ⟨k, n⟩ := p
  cases k <;> kernel_rfl
theorem nob_Po (p : Pose) : nob (encPo p) = true := by kernel_rfl
theorem nob_S (p : Spot) : nob (encS p) = true := by kernel_rfl
theorem nob_all {ds : List D} (h : ∀ d ∈ ds, nob d = true) : nobAll ds = true := by
  induction ds with
  | nil => simp [nobAll]
  | cons d ds ih =>
    simp only [nobAll, Bool.and_eq_true]
    exact ⟨h d List.mem_cons_self, ih fun e he => h e (List.mem_cons_of_mem _ he)⟩
theorem nob_Tr (t : List Pc) : nob (encTr t) = true := by
  unfold encTr
  simp only [nob]
  exact nob_all fun d hd => by
    obtain ⟨p, _, rfl⟩ := List.mem_map.mp hd
    exact nob_P p
theorem encS_inj {s t : Spot} (h : encS s = encS t) : s = t := by
  obtain ⟨a, b, c, d⟩ := s
  obtain ⟨a', b', c', d'⟩ := t
  simp only [encS, PyData.tuple.injEq, List.cons.injEq, PyData.int.injEq, and_true] at h
  obtain ⟨rfl, rfl, rfl, rfl⟩ := h
  rfl
theorem encPo_inj {s t : Pose} (h : encPo s = encPo t) : s = t := by
  obtain ⟨a, b⟩ := s
  obtain ⟨a', b'⟩ := t
  simp only [encPo, PyData.tuple.injEq, List.cons.injEq, PyData.int.injEq, and_true] at h
  obtain ⟨h, rfl⟩ := h
  rw [encS_inj h]
theorem eqD_Po (p q : Pose) : eqD (encPo p) (encPo q) = some (.bool (decide (p = q))) := by
  rw [eqD_ev (ok_Po 0 p) (ok_Po 0 q) (by omega)]
  congr 2
  by_cases h : p = q
  · rw [decide_eq_true h]
    exact (eqv_iff _ _ (nob_Po p) (nob_Po q)).mpr (by rw [h])
  · rw [decide_eq_false h]
    cases e : PyData.eqv (encPo p) (encPo q) with
    | false => rfl
    | true => exact absurd (encPo_inj ((eqv_iff _ _ (nob_Po p) (nob_Po q)).mp e)) h

/-! ### the program's road -/
theorem turn_of_eq (p : Pc) : F_turn_of [encP p] = some (.int p.1.t) := by
  obtain ⟨k, n⟩ := p
  cases k <;> kernel_rfl
theorem along_eq (h n : Int) : F_along [.int h, .int n] = some (encS (turn h (n, 0, 0, 0))) :=
  fnF_rt (δ := [some (.int h), some (.int n)]) rfl (seqS_rt (rtS_ev (cN_ev (δ1 := [some (.int h), some (.int n)]) (ds := [encS (n, 0, 0, 0), .int h]) rfl (turned_spot_eq (n, 0, 0, 0) h))))
def step (p : Pc) (h : Int) : Spot := match p.1 with
  | .S => turn h (p.2, 0, 0, 0)
  | .L => ssub (turn (h + 2) (p.2, 0, 0, 0)) (turn (h + 3) (p.2, 0, 0, 0))
  | .R => ssub (turn (h + 1) (p.2, 0, 0, 0)) (turn (h + 2) (p.2, 0, 0, 0))
theorem step_of_eq (p : Pc) (h : Int) : F_step_of [encP p, .int h] = some (encS (step p h)) := by
  obtain ⟨k, n⟩ := p
  cases k with
  | S =>
    refine fnF_rt (δ := [some (encP (.S, n)), some (.int h), some (.str "straight"), some (.int n)]) rfl ?_
    refine (seqS_nx (δ1 := [some (encP (.S, n)), some (.int h), some (.str "straight"), some (.int n)]) (by kernel_rfl)).trans ?_
    exact seqS_rt ((ifS_t (δ1 := [some (encP (.S, n)), some (.int h), some (.str "straight"), some (.int n)]) (by kernel_rfl)).trans (seqS_rt (rtS_ev (cN_ev (ds := [.int h, .int n]) rfl (along_eq h n)))))
  | L =>
    refine fnF_rt (δ := [some (encP (.L, n)), some (.int h), some (.str "left"), some (.int n)]) rfl ?_
    refine (seqS_nx (δ1 := [some (encP (.L, n)), some (.int h), some (.str "left"), some (.int n)]) (by kernel_rfl)).trans ?_
    refine (seqS_nx (δ1 := [some (encP (.L, n)), some (.int h), some (.str "left"), some (.int n)]) (by kernel_rfl)).trans ?_
    exact seqS_rt ((ifS_t (δ1 := [some (encP (.L, n)), some (.int h), some (.str "left"), some (.int n)]) (by kernel_rfl)).trans (seqS_rt (rtS_ev (cN_ev (ds := [encS _, encS _])
      (aCons_ev (cN_ev (ds := [.int (h + 2), .int n]) rfl (along_eq (h + 2) n)) (aCons_ev (cN_ev (ds := [.int (h + 3), .int n]) rfl (along_eq (h + 3) n)) rfl)) (taken_off_eq _ _)))))
  | R =>
    refine fnF_rt (δ := [some (encP (.R, n)), some (.int h), some (.str "right"), some (.int n)]) rfl ?_
    refine (seqS_nx (δ1 := [some (encP (.R, n)), some (.int h), some (.str "right"), some (.int n)]) (by kernel_rfl)).trans ?_
    refine (seqS_nx (δ1 := [some (encP (.R, n)), some (.int h), some (.str "right"), some (.int n)]) (by kernel_rfl)).trans ?_
    refine (seqS_nx (δ1 := [some (encP (.R, n)), some (.int h), some (.str "right"), some (.int n)]) (by kernel_rfl)).trans ?_
    exact seqS_rt (rtS_ev (cN_ev (ds := [encS _, encS _])
      (aCons_ev (cN_ev (ds := [.int (h + 1), .int n]) rfl (along_eq (h + 1) n)) (aCons_ev (cN_ev (ds := [.int (h + 2), .int n]) rfl (along_eq (h + 2) n)) rfl)) (taken_off_eq _ _)))
def behind (q : Pose) (p : Pc) : Pose := (sadd q.1 (step p q.2), (q.2 + p.1.t) % 8)
theorem pose_behind_eq (q : Pose) (p : Pc) : F_pose_behind [encPo q, encP p] = some (encPo (behind q p)) := by
  obtain ⟨s, h⟩ := q
  refine fnF_rt (δ := [some (encPo (s, h)), some (encP p), some (encS s), some (.int h)]) rfl ?_
  refine (seqS_nx (δ1 := [some (encPo (s, h)), some (encP p), some (encS s), some (.int h)]) rfl).trans ?_
  refine seqS_rt (rtS_ev (tupV_ev (ds := [encS _, .int _]) (aCons_ev (cN_ev (ds := [encS s, encS (step p h)]) (aCons_ev rfl (aCons_ev (cN_ev (ds := [encP p, .int h]) rfl (step_of_eq p h)) rfl)) (added_eq _ _)) (aCons_ev (c2_ev (d := .int (h + p.1.t)) (e := .int 8) (c2_ev (d := .int h) (e := .int p.1.t) rfl (cN_ev (ds := [encP p]) rfl (turn_of_eq p)) rfl) rfl ?_) rfl))))
  rw [modD_int (by decide), fmod8]
  rfl
/-- the poses along a track, the first one too -/
def along' (q : Pose) : List Pc → List Pose
  | [] => [q]
  | p :: r => q :: along' (behind q p) r
def go (q : Pose) (t : List Pc) : Pose := t.foldl behind q
theorem along_len (q : Pose) : ∀ t : List Pc, (along' q t).length = t.length + 1 := by
  intro t
  induction t generalizing q with
  | nil => rfl
  | cons p r ih => show (along' _ r).length + 1 = _; rw [ih]; rfl
theorem along_last (q : Pose) : ∀ t : List Pc, (along' q t)[t.length]? = some (go q t) := by
  intro t
  induction t generalizing q with
  | nil => rfl
  | cons p r ih => exact ih (behind q p)
theorem apS_ev {i : Nat} {f : CE} {δ δ1 δ2 : Env} {ds0 ds : List D} {d : D} (h0 : δ[i]? = some (some (.list ds0))) (h1 : f δ = some (d, δ1)) (h2 : δ1[i]? = some (some (.list ds))) (h3 : ds.length < 16777216) (h4 : δ1.set i (some (.list (ds ++ [d]))) = δ2) : apS i f δ = some (.nx δ2) := by
  unfold apS
  rw [h0]
  dsimp only
  rw [h1]
  dsimp only [Option.bind_some]
  rw [h2]
  dsimp only
  have h3' : ds.length < sizeLine := h3
  rw [if_pos h3', h4]
theorem atI_neg1 {ds : List D} {d : D} (h : ds[ds.length - 1]? = some d) : L2.atI ds (-1) = some d := by
  have hl : ds.length - 1 < ds.length := (List.getElem?_eq_some_iff.mp h).1
  unfold L2.atI L2.ixN
  rw [if_neg (by decide), if_pos (by omega)]
  show ds[((-1 : Int) + ds.length).toNat]? = some d
  rw [show ((-1 : Int) + (ds.length : Int)).toNat = ds.length - 1 by omega, h]
theorem poses_loop (tr p0 : Option D) : ∀ (t : List Pc) (pre : List D) (q : Pose) (x : Option D), pre.length + t.length < 16777216 →
    ∃ y, forL (stS 3) b1_poses_along (t.map encP) [p0, tr, some (.list (pre ++ [encPo q])), x] = some (.nx [p0, tr, some (.list (pre ++ (along' q t).map encPo)), y])
  | [], pre, q, x, _ => ⟨x, rfl⟩
  | p :: t, pre, q, x, hl => by
    rw [List.length_cons] at hl
    obtain ⟨y, h⟩ := poses_loop tr p0 t (pre ++ [encPo q]) (behind q p) (some (encP p)) (by rw [List.length_append, List.length_singleton]; omega)
    refine ⟨y, ?_⟩
    refine (forL_nx (δ1 := [p0, tr, some (.list (pre ++ [encPo q])), some (encP p)]) (δ2 := [p0, tr, some (.list ((pre ++ [encPo q]) ++ [encPo (behind q p)])), some (encP p)]) rfl ?_).trans (h.trans ?_)
    · refine (seqS_nx (apS_ev rfl (cN_ev (ds := [encPo q, encP p]) (aCons_ev (imm_ev (c2_ev (d := .list (pre ++ [encPo q])) (e := .int (-1)) rfl rfl (atI_neg1 ?_)) (imm_Po q)) rfl) (pose_behind_eq q p)) rfl ?_ rfl)).trans rfl
      · rw [List.length_append, List.length_singleton, Nat.add_sub_cancel, List.getElem?_append_right (Nat.le_refl _), Nat.sub_self]
        rfl
      · rw [List.length_append, List.length_singleton]
        omega
    · rw [List.append_assoc]
      rfl
theorem poses_along_eq (q : Pose) (t : List Pc) (h : t.length < 16777216) : F_poses_along [encPo q, encTr t] = some (.tuple ((along' q t).map encPo)) := by
  obtain ⟨y, e⟩ := poses_loop (some (encTr t)) (some (encPo q)) t [] q none (by simpa using h)
  refine fnF_rt (δ := [some (encPo q), some (encTr t), some (.list ((along' q t).map encPo)), y]) rfl ?_
  refine (seqS_nx (δ1 := [some (encPo q), some (encTr t), some (.list [encPo q]), none]) rfl).trans ?_
  refine (seqS_nx ((forS_ev (ds := t.map encP) (δ1 := [some (encPo q), some (encTr t), some (.list [encPo q]), none]) (seqI_ev rfl rfl)).trans e)).trans ?_
  refine seqS_rt (rtS_ev (cN_ev (ds := [.list ((along' q t).map encPo)]) rfl ?_))
  show (if immutAll ((along' q t).map encPo) = true then _ else _) = _
  rw [if_pos (imm_all fun d hd => by
    obtain ⟨p, _, rfl⟩ := List.mem_map.mp hd
    exact imm_Po p)]
theorem pose_after_eq (q : Pose) (t : List Pc) (h : t.length < 16777216) : F_pose_after [encPo q, encTr t] = some (encPo (go q t)) := by
  refine fnF_rt (δ := [some (encPo q), some (encTr t)]) rfl ?_
  refine seqS_rt (rtS_ev (c2_ev (d := .tuple ((along' q t).map encPo)) (e := .int (-1)) (cN_ev (ds := [encPo q, encTr t]) rfl (poses_along_eq q t h)) rfl (atI_neg1 ?_)))
  rw [List.length_map, along_len, Nat.add_sub_cancel, List.getElem?_map, along_last]
  rfl
def o0 : Pose := ((0, 0, 0, 0), 0)
theorem is_closed_eq (t : List Pc) (h : t.length < 16777216) : F_is_closed [encTr t] = some (.bool (decide (t ≠ []) && decide (go o0 t = o0))) := by
  refine fnF_rt (δ := [some (encTr t)]) rfl ?_
  refine seqS_rt (rtS_ev ?_)
  have h1 : c2 neD (rd 0) (tupV aNil) [some (encTr t)] = some (.bool (decide (t ≠ [])), [some (encTr t)]) := by
    refine c2_ev (d := encTr t) (e := .tuple []) rfl rfl ?_
    rw [neD_ev (ok_Tr 0 t (by omega)) (Ok.tup (by intro d hd; cases hd) (by decide)) (by omega)]
    cases t with
    | nil => kernel_rfl
    | cons p r => kernel_rfl
  cases t with
  | nil => exact andV_f (δ := [some (encTr [])]) h1 rfl
  | cons p r =>
    refine (andV_t (δ := [some (encTr (p :: r))]) h1 rfl).trans ?_
    refine c2_ev (d := encPo _) (e := encPo o0) (cN_ev (ds := [encPo o0, encTr (p :: r)]) rfl (pose_after_eq o0 _ h)) rfl ?_
    rw [eqD_Po]
    congr 2
end Lb
/-! Mth5: turns by eighths, what a track comes to, repeated, there and back. -/
namespace Lb
open PySem hiding Env
open Dn

def sneg (s : Spot) : Spot := (-s.1, -s.2.1, -s.2.2.1, -s.2.2.2)
def s0 : Spot := (0, 0, 0, 0)
theorem spot_ext {s t : Spot} (h1 : s.1 = t.1) (h2 : s.2.1 = t.2.1) (h3 : s.2.2.1 = t.2.2.1) (h4 : s.2.2.2 = t.2.2.2) : s = t := by
  obtain ⟨a, b, c, d⟩ := s
  obtain ⟨a', b', c', d'⟩ := t
  simp only at h1 h2 h3 h4
  subst h1 h2 h3 h4
  rfl
theorem sadd_assoc (a b c : Spot) : sadd (sadd a b) c = sadd a (sadd b c) := spot_ext (Int.add_assoc _ _ _) (Int.add_assoc _ _ _) (Int.add_assoc _ _ _) (Int.add_assoc _ _ _)
theorem sadd_comm (a b : Spot) : sadd a b = sadd b a := spot_ext (Int.add_comm _ _) (Int.add_comm _ _) (Int.add_comm _ _) (Int.add_comm _ _)
theorem sadd_zero (a : Spot) : sadd a s0 = a := spot_ext (Int.add_zero _) (Int.add_zero _) (Int.add_zero _) (Int.add_zero _)
theorem zero_sadd (a : Spot) : sadd s0 a = a := spot_ext (Int.zero_add _) (Int.zero_add _) (Int.zero_add _) (Int.zero_add _)
theorem ssub_eq (a b : Spot) : ssub a b = sadd a (sneg b) := spot_ext (Int.sub_eq_add_neg) (Int.sub_eq_add_neg) (Int.sub_eq_add_neg) (Int.sub_eq_add_neg)
theorem rotN_rot : ∀ (n : Nat) (s : Spot), rotN n (rot s) = rot (rotN n s)
  | 0, _ => rfl
  | n + 1, s => rotN_rot n (rot s)
theorem rotN_add : ∀ (m n : Nat) (s : Spot), rotN (m + n) s = rotN m (rotN n s)
  | m, 0, s => rfl
  | m, n + 1, s => rotN_add m n (rot s)
theorem rotN_8 (s : Spot) : rotN 8 s = s := by
  refine spot_ext ?_ ?_ ?_ ?_ <;> exact Int.neg_neg _
theorem rotN_mul8 : ∀ (k : Nat) (s : Spot), rotN (8 * k) s = s
  | 0, _ => rfl
  | k + 1, s => by rw [Nat.mul_succ, rotN_add, rotN_8, rotN_mul8 k s]
theorem rotN_mod (n : Nat) (s : Spot) : rotN n s = rotN (n % 8) s := by
  have e : n = n % 8 + 8 * (n / 8) := by omega
  rw [e, rotN_add, rotN_mul8]
  congr 1
  omega
theorem turn_turn (k j : Int) (s : Spot) : turn k (turn j s) = turn (k + j) s := by
  unfold turn
  rw [← rotN_add, rotN_mod]
  congr 1
  omega
theorem turn_congr {k j : Int} (h : k % 8 = j % 8) (s : Spot) : turn k s = turn j s := by
  unfold turn
  rw [h]
theorem turn_0 (s : Spot) : turn 0 s = s := rfl
theorem rot_add (s t : Spot) : rot (sadd s t) = sadd (rot s) (rot t) := spot_ext (Int.neg_add) rfl rfl rfl
theorem rotN_sadd : ∀ (n : Nat) (s t : Spot), rotN n (sadd s t) = sadd (rotN n s) (rotN n t)
  | 0, _, _ => rfl
  | n + 1, s, t => by
    show rotN n (rot (sadd s t)) = _
    rw [rot_add, rotN_sadd n]
    rfl
theorem turn_sadd (k : Int) (s t : Spot) : turn k (sadd s t) = sadd (turn k s) (turn k t) := rotN_sadd _ _ _
theorem rotN_zero : ∀ n : Nat, rotN n s0 = s0
  | 0 => rfl
  | n + 1 => rotN_zero n
theorem turn_s0 (k : Int) : turn k s0 = s0 := rotN_zero _
theorem turn_4 (s : Spot) : turn 4 s = sneg s := rfl
theorem turn_plus4 (k : Int) (s : Spot) : turn (k + 4) s = sneg (turn k s) := by rw [Int.add_comm, ← turn_turn, turn_4]
theorem turn_neg (k : Int) (s : Spot) : turn k (sneg s) = sneg (turn k s) := by rw [← turn_4, turn_turn, Int.add_comm, ← turn_turn, turn_4]
theorem turn_ssub (k : Int) (s t : Spot) : turn k (ssub s t) = ssub (turn k s) (turn k t) := by rw [ssub_eq, ssub_eq, turn_sadd, turn_neg]
/-- only what is nothing stays the same when it is turned -/
theorem turn_fix {k : Int} (hk : k % 8 ≠ 0) {s : Spot} (h : turn k s = s) : s = s0 := by
  obtain ⟨a, b, c, d⟩ := s
  unfold turn at h
  have hc : k % 8 = 1 ∨ k % 8 = 2 ∨ k % 8 = 3 ∨ k % 8 = 4 ∨ k % 8 = 5 ∨ k % 8 = 6 ∨ k % 8 = 7 := by omega
  have fin : ∀ {a b c d : Int}, a = 0 → b = 0 → c = 0 → d = 0 → ((a, b, c, d) : Spot) = s0 := fun h1 h2 h3 h4 => by subst h1 h2 h3 h4; rfl
  rcases hc with e | e | e | e | e | e | e <;> rw [e] at h
  · have h : ((-d, a, b, c) : Spot) = (a, b, c, d) := h
    simp only [Prod.mk.injEq] at h
    apply fin <;> omega
  · have h : ((-c, -d, a, b) : Spot) = (a, b, c, d) := h
    simp only [Prod.mk.injEq] at h
    apply fin <;> omega
  · have h : ((-b, -c, -d, a) : Spot) = (a, b, c, d) := h
    simp only [Prod.mk.injEq] at h
    apply fin <;> omega
  · have h : ((-a, -b, -c, -d) : Spot) = (a, b, c, d) := h
    simp only [Prod.mk.injEq] at h
    apply fin <;> omega
  · have h : ((- -d, -a, -b, -c) : Spot) = (a, b, c, d) := h
    simp only [Prod.mk.injEq] at h
    apply fin <;> omega
  · have h : ((- -c, - -d, -a, -b) : Spot) = (a, b, c, d) := h
    simp only [Prod.mk.injEq] at h
    apply fin <;> omega
  · have h : ((- -b, - -c, - -d, -a) : Spot) = (a, b, c, d) := h
    simp only [Prod.mk.injEq] at h
    apply fin <;> omega

/-! ### what a track comes to -/
def d1 (p : Pc) : Spot := step p 0
theorem step_turn (p : Pc) (h : Int) : step p h = turn h (d1 p) := by
  obtain ⟨k, n⟩ := p
  cases k with
  | S =>
    show turn h (n, 0, 0, 0) = turn h (turn 0 (n, 0, 0, 0))
    rw [turn_0]
  | L =>
    show ssub (turn (h + 2) _) (turn (h + 3) _) = turn h (ssub (turn (0 + 2) _) (turn (0 + 3) _))
    rw [turn_ssub, turn_turn, turn_turn, Int.zero_add, Int.zero_add]
  | R =>
    show ssub (turn (h + 1) _) (turn (h + 2) _) = turn h (ssub (turn (0 + 1) _) (turn (0 + 2) _))
    rw [turn_ssub, turn_turn, turn_turn, Int.zero_add, Int.zero_add]
def tsum : List Pc → Int
  | [] => 0
  | p :: r => p.1.t + tsum r
def disp : List Pc → Spot
  | [] => s0
  | p :: r => sadd (d1 p) (turn p.1.t (disp r))
theorem go_eq : ∀ (t : List Pc) (s : Spot) (h : Int), 0 ≤ h → h < 8 → go (s, h) t = (sadd s (turn h (disp t)), (h + tsum t) % 8)
  | [], s, h, h0, h1 => by
    show (s, h) = (sadd s (turn h s0), (h + 0) % 8)
    rw [turn_s0, sadd_zero, Int.add_zero, Int.emod_eq_of_lt h0 h1]
  | p :: r, s, h, h0, h1 => by
    show go (behind (s, h) p) r = _
    unfold behind
    rw [go_eq r _ _ (Int.emod_nonneg _ (by decide)) (Int.emod_lt_of_pos _ (by decide))]
    show (sadd (sadd s (step p h)) (turn ((h + p.1.t) % 8) (disp r)), ((h + p.1.t) % 8 + tsum r) % 8) = (sadd s (turn h (sadd (d1 p) (turn p.1.t (disp r)))), (h + (p.1.t + tsum r)) % 8)
    rw [sadd_assoc, step_turn, turn_sadd, turn_turn, turn_congr (show ((h + p.1.t) % 8) % 8 = (h + p.1.t) % 8 by omega)]
    congr 1
    omega
theorem go_o0 (t : List Pc) : go o0 t = (disp t, tsum t % 8) := by
  show go (s0, 0) t = _
  rw [go_eq t s0 0 (by decide) (by decide), zero_sadd, turn_0, Int.zero_add]
theorem go_closed (t : List Pc) : go o0 t = o0 ↔ disp t = s0 ∧ tsum t % 8 = 0 := by
  rw [go_o0]
  show (disp t, tsum t % 8) = (s0, 0) ↔ _
  rw [Prod.mk.injEq]
theorem tsum_append : ∀ a b : List Pc, tsum (a ++ b) = tsum a + tsum b
  | [], b => by
    show tsum b = 0 + tsum b
    omega
  | p :: r, b => by
    show p.1.t + tsum (r ++ b) = p.1.t + tsum r + tsum b
    rw [tsum_append r b]
    omega
theorem disp_append : ∀ a b : List Pc, disp (a ++ b) = sadd (disp a) (turn (tsum a) (disp b))
  | [], b => by
    show disp b = sadd s0 (turn 0 (disp b))
    rw [zero_sadd, turn_0]
  | p :: r, b => by
    show sadd (d1 p) (turn p.1.t (disp (r ++ b))) = sadd (sadd (d1 p) (turn p.1.t (disp r))) (turn (p.1.t + tsum r) (disp b))
    rw [disp_append r b, turn_sadd, sadd_assoc, turn_turn]
theorem tsum_rev : ∀ t : List Pc, tsum t.reverse = tsum t
  | [] => rfl
  | p :: r => by
    rw [List.reverse_cons, tsum_append, tsum_rev r]
    show tsum r + (p.1.t + 0) = p.1.t + tsum r
    omega
/-! ### repeated -/
def rep (n : Nat) (t : List Pc) : List Pc := (List.replicate n t).flatten
theorem rep_succ (n : Nat) (t : List Pc) : rep (n + 1) t = t ++ rep n t := by
  unfold rep
  rw [List.replicate_succ, List.flatten_cons]
theorem tsum_rep (n : Nat) (t : List Pc) : tsum (rep n t) = n * tsum t := by
  induction n with
  | zero => show (0 : Int) = ((0 : Nat) : Int) * _; omega
  | succ n ih =>
    rw [rep_succ, tsum_append, ih]
    rw [show ((n + 1 : Nat) : Int) = (n : Int) + 1 by omega, Int.add_mul, Int.one_mul, Int.add_comm]
theorem disp_rep (n : Nat) (t : List Pc) : disp (rep (n + 1) t) = sadd (disp t) (turn (tsum t) (disp (rep n t))) := by rw [rep_succ, disp_append]
theorem rep_comm (n : Nat) (t : List Pc) : rep n t ++ t = t ++ rep n t := by
  induction n with
  | zero => show [] ++ t = t ++ []; simp
  | succ n ih => rw [rep_succ, List.append_assoc, ih]
theorem disp_rep2 (n : Nat) (t : List Pc) : disp (rep (n + 1) t) = sadd (disp (rep n t)) (turn (n * tsum t) (disp t)) := by rw [rep_succ, ← rep_comm, disp_append, tsum_rep]
def smul (n : Int) (s : Spot) : Spot := (n * s.1, n * s.2.1, n * s.2.2.1, n * s.2.2.2)
theorem disp_rep0 (n : Nat) (t : List Pc) (h : tsum t % 8 = 0) : disp (rep n t) = smul n (disp t) := by
  induction n with
  | zero =>
    show s0 = smul ((0 : Nat) : Int) _
    refine spot_ext ?_ ?_ ?_ ?_ <;> exact (Int.zero_mul _).symm
  | succ n ih =>
    rw [disp_rep, ih, turn_congr (show tsum t % 8 = (0 : Int) % 8 by omega), turn_0]
    have e : ∀ x : Int, x + (n : Int) * x = ((n + 1 : Nat) : Int) * x := fun x => by
      rw [show ((n + 1 : Nat) : Int) = (n : Int) + 1 by omega, Int.add_mul, Int.one_mul, Int.add_comm]
    exact spot_ext (e _) (e _) (e _) (e _)
theorem smul_zero {n : Int} (hn : n ≠ 0) {s : Spot} : smul n s = s0 ↔ s = s0 := by
  constructor
  · intro h
    obtain ⟨a, b, c, d⟩ := s
    have h : ((n * a, n * b, n * c, n * d) : Spot) = (0, 0, 0, 0) := h
    simp only [Prod.mk.injEq, Int.mul_eq_zero, hn, false_or] at h
    obtain ⟨rfl, rfl, rfl, rfl⟩ := h
    rfl
  · intro h
    rw [h]
    refine spot_ext ?_ ?_ ?_ ?_ <;> exact Int.mul_zero _
/-- a part repeated closes, as its turns tell -/
theorem rep_closed (n : Nat) (hn : n ≠ 0) (t : List Pc) : go o0 (rep n t) = o0 ↔ if tsum t % 8 = 0 then go o0 t = o0 else (tsum t * n) % 8 = 0 := by
  rw [go_closed, tsum_rep]
  by_cases h : tsum t % 8 = 0
  · rw [if_pos h, go_closed, disp_rep0 n t h, smul_zero (by omega)]
    have e : ((n : Int) * tsum t) % 8 = 0 := by
      rw [Int.mul_emod, h, Int.mul_zero]
      rfl
    exact ⟨fun z => ⟨z.1, h⟩, fun z => ⟨z.1, e⟩⟩
  · rw [if_neg h, Int.mul_comm (tsum t)]
    refine ⟨fun z => z.2, fun z => ⟨?_, z⟩⟩
    refine turn_fix h ?_
    have e1 := disp_rep n t
    rw [disp_rep2, turn_congr (show ((n : Int) * tsum t) % 8 = (0 : Int) % 8 by omega), turn_0, sadd_comm] at e1
    have e2 : ∀ {a b c : Spot}, sadd a b = sadd a c → b = c := fun {a b c} h => by
      have h1 := congrArg (·.1) h
      have h2 := congrArg (·.2.1) h
      have h3 := congrArg (·.2.2.1) h
      have h4 := congrArg (·.2.2.2) h
      exact spot_ext (Int.add_left_cancel h1) (Int.add_left_cancel h2) (Int.add_left_cancel h3) (Int.add_left_cancel h4)
    exact (e2 e1).symm
/-! ### there and back -/
def conj (s : Spot) : Spot := (s.1, -s.2.2.2, -s.2.2.1, -s.2.1)
theorem conj_sadd (s t : Spot) : conj (sadd s t) = sadd (conj s) (conj t) := spot_ext rfl (Int.neg_add) (Int.neg_add) (Int.neg_add)
theorem conj_rot (s : Spot) : rot (conj (rot s)) = conj s := by
  obtain ⟨a, b, c, d⟩ := s
  show ((- -a, -d, -c, -b) : Spot) = (a, -d, -c, -b)
  rw [Int.neg_neg]
theorem conj_rotN : ∀ (n : Nat) (s : Spot), rotN n (conj (rotN n s)) = conj s
  | 0, _ => rfl
  | n + 1, s => by
    show rotN n (rot (conj (rotN n (rot s)))) = _
    rw [rotN_rot n s, conj_rot, conj_rotN n s]
theorem turn_conj_turn (k : Int) (s : Spot) : turn k (conj (turn k s)) = conj s := conj_rotN _ _
theorem d1_conj (p : Pc) : turn p.1.t (conj (d1 p)) = d1 p := by
  obtain ⟨k, n⟩ := p
  cases k with
  | S => exact spot_ext rfl rfl rfl rfl
  | L =>
    have e : d1 (.L, n) = (0, 0, n, -n) := by
      show ssub (rotN 2 (n, 0, 0, 0)) (rotN 3 (n, 0, 0, 0)) = _
      simp [rotN, rot, ssub]
    rw [e]
    show rot (conj (0, 0, n, -n)) = _
    simp [rot, conj]
  | R =>
    have e : d1 (.R, n) = (0, n, -n, 0) := by
      show ssub (rotN 1 (n, 0, 0, 0)) (rotN 2 (n, 0, 0, 0)) = _
      simp [rotN, rot, ssub]
    rw [e]
    show rotN 7 (conj (0, n, -n, 0)) = _
    simp [rotN, rot, conj]
theorem disp_rev (t : List Pc) : disp t.reverse = turn (tsum t) (conj (disp t)) := by
  induction t with
  | nil => exact spot_ext rfl rfl rfl rfl
  | cons p r ih =>
    rw [List.reverse_cons, disp_append, tsum_rev, ih]
    show sadd (turn (tsum r) (conj (disp r))) (turn (tsum r) (sadd (d1 p) (turn p.1.t s0))) = turn (p.1.t + tsum r) (conj (sadd (d1 p) (turn p.1.t (disp r))))
    rw [turn_s0, sadd_zero, conj_sadd, Int.add_comm, ← turn_turn, turn_sadd, d1_conj, turn_conj_turn, turn_sadd, sadd_comm]
def fro (t : List Pc) : List Pc := t ++ t.reverse
theorem tsum_fro (t : List Pc) : tsum (fro t) = 2 * tsum t := by
  unfold fro
  rw [tsum_append, tsum_rev]
  omega
theorem disp_fro (t : List Pc) (h : (2 * tsum t) % 8 = 0) : disp (fro t) = sadd (disp t) (conj (disp t)) := by
  unfold fro
  rw [disp_append, disp_rev, turn_turn, turn_congr (show (tsum t + tsum t) % 8 = (0 : Int) % 8 by omega), turn_0]
theorem fro_zero (t : List Pc) (h : (2 * tsum t) % 8 = 0) : disp (fro t) = s0 ↔ (disp t).1 = 0 ∧ (disp t).2.1 = (disp t).2.2.2 := by
  rw [disp_fro t h]
  obtain ⟨a, b, c, d⟩ := disp t
  show ((a + a, b + -d, c + -c, d + -b) : Spot) = (0, 0, 0, 0) ↔ a = 0 ∧ b = d
  simp only [Prod.mk.injEq]
  omega
/-- .. there and back, repeated -/
theorem fro_closed (n : Nat) (hn : n ≠ 0) (t : List Pc) : go o0 (rep n (fro t)) = o0 ↔ if (2 * tsum t) % 8 = 0 then (disp t).1 = 0 ∧ (disp t).2.1 = (disp t).2.2.2 else (2 * tsum t * n) % 8 = 0 := by
  rw [rep_closed n hn, tsum_fro]
  by_cases h : (2 * tsum t) % 8 = 0
  · rw [if_pos h, if_pos h, go_closed, fro_zero t h, tsum_fro]
    exact ⟨fun z => z.1, fun z => ⟨z, h⟩⟩
  · rw [if_neg h, if_neg h]
end Lb
/-! Mth6: the law's own road; pieces drawn. -/
namespace Lb
open PySem hiding Env
open Dn

theorem lturned_loop (k : Option D) : ∀ (ds : List D) (s : Spot) (x : Option D), ∃ y, forL (stS 2) b1__law_turned ds [some (encS s), k, x] = some (.nx [some (encS (rotN ds.length s)), k, y])
  | [], s, x => ⟨x, rfl⟩
  | d :: ds, s, x => by
    obtain ⟨y, h⟩ := lturned_loop k ds (rot s) (some d)
    refine ⟨y, (forL_nx (δ1 := [some (encS s), k, some d]) (δ2 := [some (encS (rot s)), k, some d]) rfl ?_).trans h⟩
    have e : b1__law_turned [some (encS s), k, some d] = some (.nx [some (encS (0 - s.2.2.2, s.1, s.2.1, s.2.2.1)), k, some d]) := rfl
    rw [e, Int.zero_sub]
    rfl
theorem fdiv8 (k : Int) : k - k.fdiv 8 * 8 = k % 8 := by
  rw [Int.fdiv_eq_ediv_of_nonneg _ (by decide)]
  omega
theorem rem8_ev {f : CE} {δ δ1 δ2 : Env} {k : Int} (h : f δ = some (.int k, δ1)) (h2 : f δ1 = some (.int k, δ2)) : c2 subD f (c2 mulD (c2 fdivD f (cst (.int 8))) (cst (.int 8))) δ = some (.int (k % 8), δ2) := by
  refine c2_ev h (c2_ev (c2_ev h2 rfl (fdivD_int (by decide) (small_pow (by decide)))) rfl (mulD_int (.inr (by decide)))) ?_
  show some (PyData.int (k - k.fdiv 8 * 8)) = _
  rw [fdiv8]
theorem law_turned_eq (s : Spot) (k : Int) : F__law_turned [encS s, .int k] = some (encS (turn k s)) := by
  have h0 : 0 ≤ k % 8 := by omega
  have h1 : k % 8 < 8 := by omega
  obtain ⟨y, h⟩ := lturned_loop (some (.int k)) (rgI 0 (k % 8).toNat) s none
  rw [rgI_length] at h
  exact fnF_rt rfl ((seqS_nx ((forS_ev (ds := rgI 0 (k % 8).toNat) (δ1 := [some (encS s), some (.int k), none]) (rgV_ev (aCons_ev (rem8_ev (δ1 := [some (encS s), some (.int k), none]) rfl rfl) rfl) (rg1_ev h0 (by omega)))).trans h)).trans rfl)
theorem law_behind_eq (q : Pose) (h0 : 0 ≤ q.2) (p : Pc) : F__law_behind [encPo q, encP p] = some (encPo (behind q p)) := by
  obtain ⟨s, h⟩ := q
  obtain ⟨k, n⟩ := p
  have fin : ∀ (w : Spot) (t : Int) (kd : D) (x8 x9 x10 x11 : Option D), (seqS (asgS (stS 10) (c2 addD (c2 addD (rd 3) (cst (.int 8))) (rd 7))) (seqS (rtS (tupV (aCons (cN tupleD (aCons (lcV (rgV rg1 (aCons (cst (.int 4)) aNil)) (stS 11) [11] yesT e2__law_behind) aNil)) (aCons (c2 subD (rd 10) (c2 mulD (c2 fdivD (rd 10) (cst (.int 8))) (cst (.int 8)))) aNil)))) skip))
      [some (encPo (s, h)), some (encP (k, n)), some (encS s), some (.int h), some kd, some (.int n), some (encS w), some (.int t), x8, x9, x10, none] =
      some (.rt (encPo (sadd s w, (h + t) % 8)) [some (encPo (s, h)), some (encP (k, n)), some (encS s), some (.int h), some kd, some (.int n), some (encS w), some (.int t), x8, x9, some (.int (h + 8 + t)), none]) := fun w t kd x8 x9 x10 x11 => by
    refine (seqS_nx (δ1 := [some (encPo (s, h)), some (encP (k, n)), some (encS s), some (.int h), some kd, some (.int n), some (encS w), some (.int t), x8, x9, some (.int (h + 8 + t)), none]) rfl).trans ?_
    refine seqS_rt (rtS_ev ((tupV_ev (ds := [encS (sadd s w), .int ((h + 8 + t) % 8)]) (aCons_ev (δ1 := [some (encPo (s, h)), some (encP (k, n)), some (encS s), some (.int h), some kd, some (.int n), some (encS w), some (.int t), x8, x9, some (.int (h + 8 + t)), none]) (cN_ev (ds := [.list [.int (s.1 + w.1), .int (s.2.1 + w.2.1), .int (s.2.2.1 + w.2.2.1), .int (s.2.2.2 + w.2.2.2)]]) (by kernel_rfl) (by kernel_rfl)) (aCons_ev (rem8_ev rfl rfl) rfl))).trans ?_))
    rw [show (h + 8 + t) % 8 = (h + t) % 8 by omega]
    rfl
  cases k with
  | S =>
    refine fnF_rt (δ := [some (encPo (s, h)), some (encP (.S, n)), some (encS s), some (.int h), some (.str "straight"), some (.int n), some (encS (turn h (n, 0, 0, 0))), some (.int (0)), none, none, some (.int (h + 8 + (0))), none]) rfl ?_
    refine (seqS_nx (δ1 := [some (encPo (s, h)), some (encP (.S, n)), some (encS s), some (.int h), none, none, none, none, none, none, none, none]) rfl).trans ?_
    refine (seqS_nx (δ1 := [some (encPo (s, h)), some (encP (.S, n)), some (encS s), some (.int h), some (.str "straight"), some (.int n), none, none, none, none, none, none]) rfl).trans ?_
    refine (seqS_nx (δ1 := [some (encPo (s, h)), some (encP (.S, n)), some (encS s), some (.int h), some (.str "straight"), some (.int n), some (encS (turn h (n, 0, 0, 0))), some (.int 0), none, none, none, none]) ?_).trans (fin (turn h (n, 0, 0, 0)) 0 (.str "straight") none none none none)
    refine (ifS_t (δ1 := [some (encPo (s, h)), some (encP (.S, n)), some (encS s), some (.int h), some (.str "straight"), some (.int n), none, none, none, none, none, none]) (by kernel_rfl)).trans ?_
    exact (seqS_nx (asgS_ev (tupV_ev (aCons_ev (cN_ev (ds := [encS (n, 0, 0, 0), .int h]) rfl (law_turned_eq _ _)) rfl)) rfl)).trans rfl
  | L =>
    refine fnF_rt (δ := [some (encPo (s, h)), some (encP (.L, n)), some (encS s), some (.int h), some (.str "left"), some (.int n), some (encS (step (.L, n) h)), some (.int (1)), (some (encS (turn (h + 8 + 2 * 1) (n, 0, 0, 0)))), (some (encS (turn (h + 8 - 1) (n, 0, 0, 0)))), some (.int (h + 8 + (1))), none]) rfl ?_
    refine (seqS_nx (δ1 := [some (encPo (s, h)), some (encP (.L, n)), some (encS s), some (.int h), none, none, none, none, none, none, none, none]) rfl).trans ?_
    refine (seqS_nx (δ1 := [some (encPo (s, h)), some (encP (.L, n)), some (encS s), some (.int h), some (.str "left"), some (.int n), none, none, none, none, none, none]) rfl).trans ?_
    have hw : sadd (turn (h + 8 + 2 * 1) (n, 0, 0, 0)) (turn (h + 8 - 1) (n, 0, 0, 0)) = step (.L, n) h := by
      show _ = ssub (turn (h + 2) (n, 0, 0, 0)) (turn (h + 3) (n, 0, 0, 0))
      rw [ssub_eq, ← turn_plus4, turn_congr (show (h + 8 + 2 * 1) % 8 = (h + 2) % 8 by omega), turn_congr (show (h + 8 - 1) % 8 = (h + 3 + 4) % 8 by omega)]
    refine (seqS_nx (δ1 := [some (encPo (s, h)), some (encP (.L, n)), some (encS s), some (.int h), some (.str "left"), some (.int n), some (encS (step (.L, n) h)), some (.int 1), some (encS (turn (h + 8 + 2 * 1) (n, 0, 0, 0))), some (encS (turn (h + 8 - 1) (n, 0, 0, 0))), none, none]) ?_).trans (fin (step (.L, n) h) 1 (.str "left") (some (encS (turn (h + 8 + 2 * 1) (n, 0, 0, 0)))) (some (encS (turn (h + 8 - 1) (n, 0, 0, 0)))) none none)
    refine (ifS_f (δ1 := [some (encPo (s, h)), some (encP (.L, n)), some (encS s), some (.int h), some (.str "left"), some (.int n), none, none, none, none, none, none]) (by kernel_rfl)).trans ?_
    refine (seqS_nx (δ1 := [some (encPo (s, h)), some (encP (.L, n)), some (encS s), some (.int h), some (.str "left"), some (.int n), none, some (.int 1), none, none, none, none]) (by kernel_rfl)).trans ?_
    refine (seqS_nx (asgS_ev (tupV_ev (aCons_ev (cN_ev (ds := [encS (n, 0, 0, 0), .int (h + 8 + 2 * 1)]) rfl (law_turned_eq _ _)) (aCons_ev (cN_ev (ds := [encS (n, 0, 0, 0), .int (h + 8 - 1)]) rfl (law_turned_eq _ _)) rfl))) rfl)).trans ?_
    refine (seqS_nx (asgS_ev (d := encS (sadd (turn (h + 8 + 2 * 1) (n, 0, 0, 0)) (turn (h + 8 - 1) (n, 0, 0, 0)))) (δ1 := [some (encPo (s, h)), some (encP (.L, n)), some (encS s), some (.int h), some (.str "left"), some (.int n), none, some (.int 1), some (encS (turn (h + 8 + 2 * 1) (n, 0, 0, 0))), some (encS (turn (h + 8 - 1) (n, 0, 0, 0))), none, none]) ?_ rfl)).trans ?_
    · generalize turn (h + 8 + 2 * 1) (n, 0, 0, 0) = u
      generalize turn (h + 8 - 1) (n, 0, 0, 0) = v
      kernel_rfl
    · rw [hw]
      rfl
  | R =>
    refine fnF_rt (δ := [some (encPo (s, h)), some (encP (.R, n)), some (encS s), some (.int h), some (.str "right"), some (.int n), some (encS (step (.R, n) h)), some (.int (-1)), (some (encS (turn (h + 8 + 2 * (-1)) (n, 0, 0, 0)))), (some (encS (turn (h + 8 - (-1)) (n, 0, 0, 0)))), some (.int (h + 8 + (-1))), none]) rfl ?_
    refine (seqS_nx (δ1 := [some (encPo (s, h)), some (encP (.R, n)), some (encS s), some (.int h), none, none, none, none, none, none, none, none]) rfl).trans ?_
    refine (seqS_nx (δ1 := [some (encPo (s, h)), some (encP (.R, n)), some (encS s), some (.int h), some (.str "right"), some (.int n), none, none, none, none, none, none]) rfl).trans ?_
    have hw : sadd (turn (h + 8 + 2 * (-1)) (n, 0, 0, 0)) (turn (h + 8 - (-1)) (n, 0, 0, 0)) = step (.R, n) h := by
      show _ = ssub (turn (h + 1) (n, 0, 0, 0)) (turn (h + 2) (n, 0, 0, 0))
      rw [ssub_eq, ← turn_plus4, turn_congr (show (h + 8 + 2 * (-1)) % 8 = (h + 2 + 4) % 8 by omega), turn_congr (show (h + 8 - (-1)) % 8 = (h + 1) % 8 by omega), sadd_comm]
    refine (seqS_nx (δ1 := [some (encPo (s, h)), some (encP (.R, n)), some (encS s), some (.int h), some (.str "right"), some (.int n), some (encS (step (.R, n) h)), some (.int (-1)), some (encS (turn (h + 8 + 2 * (-1)) (n, 0, 0, 0))), some (encS (turn (h + 8 - (-1)) (n, 0, 0, 0))), none, none]) ?_).trans (fin (step (.R, n) h) (-1) (.str "right") (some (encS (turn (h + 8 + 2 * (-1)) (n, 0, 0, 0)))) (some (encS (turn (h + 8 - (-1)) (n, 0, 0, 0)))) none none)
    refine (ifS_f (δ1 := [some (encPo (s, h)), some (encP (.R, n)), some (encS s), some (.int h), some (.str "right"), some (.int n), none, none, none, none, none, none]) (by kernel_rfl)).trans ?_
    refine (seqS_nx (δ1 := [some (encPo (s, h)), some (encP (.R, n)), some (encS s), some (.int h), some (.str "right"), some (.int n), none, some (.int (-1)), none, none, none, none]) (by kernel_rfl)).trans ?_
    refine (seqS_nx (asgS_ev (tupV_ev (aCons_ev (cN_ev (ds := [encS (n, 0, 0, 0), .int (h + 8 + 2 * (-1))]) rfl (law_turned_eq _ _)) (aCons_ev (cN_ev (ds := [encS (n, 0, 0, 0), .int (h + 8 - (-1))]) rfl (law_turned_eq _ _)) rfl))) rfl)).trans ?_
    refine (seqS_nx (asgS_ev (d := encS (sadd (turn (h + 8 + 2 * (-1)) (n, 0, 0, 0)) (turn (h + 8 - (-1)) (n, 0, 0, 0)))) (δ1 := [some (encPo (s, h)), some (encP (.R, n)), some (encS s), some (.int h), some (.str "right"), some (.int n), none, some (.int (-1)), some (encS (turn (h + 8 + 2 * (-1)) (n, 0, 0, 0))), some (encS (turn (h + 8 - (-1)) (n, 0, 0, 0))), none, none]) ?_ rfl)).trans ?_
    · generalize turn (h + 8 + 2 * (-1)) (n, 0, 0, 0) = u
      generalize turn (h + 8 - (-1)) (n, 0, 0, 0) = v
      kernel_rfl
    · rw [hw]
      rfl
theorem behind_pos (q : Pose) (p : Pc) : 0 ≤ (behind q p).2 := Int.emod_nonneg _ (by decide)
theorem after_loop (tr : Option D) : ∀ (t : List Pc) (q : Pose) (x : Option D), 0 ≤ q.2 → ∃ y, forL (stS 2) b1__law_after (t.map encP) [tr, some (encPo q), x] = some (.nx [tr, some (encPo (go q t)), y])
  | [], q, x, _ => ⟨x, rfl⟩
  | p :: t, q, x, h0 => by
    obtain ⟨y, h⟩ := after_loop tr t (behind q p) (some (encP p)) (behind_pos q p)
    exact ⟨y, (forL_nx (δ1 := [tr, some (encPo q), some (encP p)]) (δ2 := [tr, some (encPo (behind q p)), some (encP p)]) rfl ((seqS_nx (asgS_ev (cN_ev (ds := [encPo q, encP p]) rfl (law_behind_eq q h0 p)) rfl)).trans rfl)).trans h⟩
theorem law_after_eq (t : List Pc) : F__law_after [encTr t] = some (encPo (go o0 t)) := by
  obtain ⟨y, h⟩ := after_loop (some (encTr t)) t o0 none (by decide)
  refine fnF_rt (δ := [some (encTr t), some (encPo (go o0 t)), y]) rfl ?_
  exact (seqS_nx (δ1 := [some (encTr t), some (encPo o0), none]) rfl).trans ((seqS_nx ((forS_ev (ds := t.map encP) (δ1 := [some (encTr t), some (encPo o0), none]) (seqI_ev rfl rfl)).trans h)).trans rfl)
/-! ### pieces drawn -/
theorem ioV_ev {i : Nat} {F : List D → List D → Option (D × List D)} {fa : CA} {δ δ1 δ2 : Env} {as dsa ds0 ds1 : List D} {r : D} (h0 : δ[i]? = some (some (.list dsa))) (h1 : fa δ = some (as, δ1)) (h2 : δ1[i]? = some (some (.list ds0))) (h3 : F ds0 as = some (r, ds1)) (h4 : δ1.set i (some (.list ds1)) = δ2) : ioV i F fa δ = some (r, δ2) := by
  unfold ioV
  rw [h0]
  dsimp only
  rw [h1]
  dsimp only [Option.bind_some]
  rw [h2]
  dsimp only
  rw [h3, ← h4]
  rfl
def kdOf (d : Int) : Kd := if d = 0 then .L else if d = 1 then .R else .S
theorem piece_ev {t : List D} (ht : TapeOk t) {most : Int} (h1 : 1 ≤ most) (h2 : most < 2 ^ 64) : ∃ p t', F__law_piece t [.int most] = some (encP p, t') ∧ 1 ≤ p.2 ∧ p.2 ≤ most ∧ TapeOk t' := by
  obtain ⟨d, t1, e1, a1, b1, o1⟩ := take_ev ht (many := 3) (by decide) (by decide)
  obtain ⟨n, t2, e2, a2, b2, o2⟩ := take_ev o1 h1 h2
  refine ⟨(kdOf d, 1 + n), t2, ?_, by show 1 ≤ 1 + n; omega, by show 1 + n ≤ most; omega, o2⟩
  refine fnI_rt (δ := [some (.list t2), some (.int most)]) rfl ?_ rfl
  refine seqS_rt (rtS_ev (tupV_ev (ds := [(kdOf d).d, .int (1 + n)]) (aCons_ev (c2_ev (d := .list [.str "left", .str "right", .str "straight"]) (e := .int d) rfl (ioV_ev (δ2 := [some (.list t1), some (.int most)]) rfl rfl rfl e1 rfl) ?_) (aCons_ev (c2_ev (e := .int n) rfl (ioV_ev (δ2 := [some (.list t2), some (.int most)]) rfl rfl rfl e2 rfl) rfl) rfl))))
  have hd : d = 0 ∨ d = 1 ∨ d = 2 := by omega
  rcases hd with rfl | rfl | rfl <;> rfl
/-- the tape at the start -/
theorem tape_ev (ns : List Int) : ∃ t, F__law_tape [.list (ns.map .int)] = some (.list t) ∧ TapeOk t := by
  have hi : ∀ xs : List Int, immutAll (xs.map PyData.int) = true := fun xs => imm_all fun d hd => by
    obtain ⟨i, _, rfl⟩ := List.mem_map.mp hd
    rfl
  refine ⟨encT (ns.take 80) 0 0 (1 + ns.length), fnF_rt (δ := [some (.list (ns.map .int))]) rfl ?_, _, _, _, _, rfl⟩
  refine seqS_rt (rtS_ev (lstV_ev (aCons_ev (d := .list ((ns.take 80).map .int)) (δ1 := [some (.list (ns.map .int))]) (cN_ev (ds := [.list ((ns.take 80).map .int)]) (aCons_ev ?_ rfl) ?_) (aCons_ev rfl (aCons_ev rfl (aCons_ev (c2_ev (d := .int 1) (e := .int ns.length) rfl (cN_ev (ds := [.list (ns.map .int)]) rfl ?_) rfl) rfl))))))
  · refine slV_ev (d := .list (ns.map .int)) (l := none) (u := some ((80 : Nat) : Int)) rfl rfl rfl ((slD_list (hi ns)).trans ?_)
    rw [cut_take, List.map_take]
  · exact listD_list (hi _)
  · show some (PyData.int ((ns.map PyData.int).length : Nat)) = _
    rw [List.length_map]
end Lb
/-! Mth7: loops and comprehensions by invariants; tracks repeated, put together, turned about. -/
namespace Lb
open PySem hiding Env
open Dn

theorem lcL_enc {α : Type} {t : CG} {own : List Nat} {f : CE} (enc res : α → D) (I : Env → Prop) : ∀ {l : List α} {δ : Env}, I δ → (∀ a ∈ l, ∀ δ, I δ → ∃ δ1 δ2, t (enc a) (wipeD δ own) = some δ1 ∧ f δ1 = some (res a, δ2) ∧ I δ2) → ∃ δ', lcL t own yesT f (l.map enc) δ = some (l.map res, δ') ∧ I δ'
  | [], δ, h, _ => ⟨δ, rfl, h⟩
  | a :: l, δ, h, hs => by
    obtain ⟨δ1, δ2, e1, e2, h2⟩ := hs a List.mem_cons_self δ h
    obtain ⟨δ', e3, h3⟩ := lcL_enc enc res I (l := l) h2 fun a ha => hs a (List.mem_cons_of_mem _ ha)
    refine ⟨δ', ?_, h3⟩
    show ((t (enc a) (wipeD δ own)).bind _) = _
    rw [e1]
    show ((f δ1).bind _) = _
    rw [e2]
    show ((lcL t own yesT f (l.map enc) δ2).bind _) = _
    rw [e3]
    rfl
theorem lcL_any {β : Type} {t : CG} {own : List Nat} {f : CE} (enc : β → D) (P : β → Prop) (I : Env → Prop) : ∀ {ds : List D} {δ : Env}, I δ → (∀ d ∈ ds, ∀ δ, I δ → ∃ δ1 δ2 b, t d (wipeD δ own) = some δ1 ∧ f δ1 = some (enc b, δ2) ∧ P b ∧ I δ2) →
    ∃ (l : List β) (δ' : Env), lcL t own yesT f ds δ = some (l.map enc, δ') ∧ I δ' ∧ (∀ b ∈ l, P b) ∧ l.length = ds.length
  | [], δ, h, _ => ⟨[], δ, rfl, h, by simp, rfl⟩
  | d :: ds, δ, h, hs => by
    obtain ⟨δ1, δ2, b, e1, e2, hb, h2⟩ := hs d List.mem_cons_self δ h
    obtain ⟨l, δ', e3, h3, hl, hn⟩ := lcL_any enc P I (ds := ds) h2 fun d hd => hs d (List.mem_cons_of_mem _ hd)
    refine ⟨b :: l, δ', ?_, h3, fun c hc => ?_, by rw [List.length_cons, List.length_cons, hn]⟩
    · show ((t d (wipeD δ own)).bind _) = _
      rw [e1]
      show ((f δ1).bind _) = _
      rw [e2]
      show ((lcL t own yesT f ds δ2).bind _) = _
      rw [e3]
      rfl
    · rcases List.mem_cons.mp hc with e | e
      · rw [e]; exact hb
      · exact hl c e
/-- a flow that goes on -/
def On (I : Env → Prop) : Fl → Prop
  | .nx δ => I δ
  | .ct δ => I δ
  | _ => False
theorem forL_inv {t : CG} {g : CS} (I : Env → Prop) : ∀ {ds : List D} {δ : Env}, I δ → (∀ d ∈ ds, ∀ δ, I δ → ∃ δ1 fl, t d δ = some δ1 ∧ g δ1 = some fl ∧ On I fl) → ∃ δ', forL t g ds δ = some (.nx δ') ∧ I δ'
  | [], δ, h, _ => ⟨δ, rfl, h⟩
  | d :: ds, δ, h, hs => by
    obtain ⟨δ1, fl, e1, e2, h2⟩ := hs d List.mem_cons_self δ h
    have rest : ∀ δ2, I δ2 → ∃ δ', forL t g ds δ2 = some (.nx δ') ∧ I δ' := fun δ2 h => forL_inv I h fun d hd => hs d (List.mem_cons_of_mem _ hd)
    cases fl with
    | nx δ2 =>
      obtain ⟨δ', e, h'⟩ := rest δ2 h2
      exact ⟨δ', (forL_nx e1 e2).trans e, h'⟩
    | ct δ2 =>
      obtain ⟨δ', e, h'⟩ := rest δ2 h2
      exact ⟨δ', (forL_ct e1 e2).trans e, h'⟩
    | rt _ _ => exact h2.elim
    | bk _ => exact h2.elim
/-- an assignment whose value changes nothing -/
theorem asgP {t : CG} {f : CE} {δ δ2 : Env} {d : D} (e : f δ = some (d, δ)) (h : t d δ = some δ2) : asgS t f δ = some (.nx δ2) := asgS_ev e h
theorem rtP {f : CE} {δ : Env} {d : D} (e : f δ = some (d, δ)) : rtS f δ = some (.rt d δ) := rtS_ev e
theorem cNP {φ : List D → Option D} {f : CA} {δ : Env} {ds : List D} {d : D} (e : f δ = some (ds, δ)) (h : φ ds = some d) : cN φ f δ = some (d, δ) := cN_ev e h
theorem notT_t {f : CT} {δ δ1 : Env} (h : f δ = some (true, δ1)) : notT f δ = some (false, δ1) := by unfold notT; rw [h]; rfl
theorem notT_f {f : CT} {δ δ1 : Env} (h : f δ = some (false, δ1)) : notT f δ = some (true, δ1) := by unfold notT; rw [h]; rfl
/-- if not same(x, y): return False -/
theorem ifSame {fa : CA} {g : CS} {δ δ1 : Env} {d : D} (k : Nat) (e : fa δ = some ([d, d], δ1)) (h : Ok k d) {n : Nat} (hn : k + 1 ≤ n) : ifS (notT (tst (cN (F__law_same n) fa))) g skip δ = some (.nx δ1) := by
  obtain ⟨m, rfl⟩ : ∃ m, n = m + 1 := ⟨n - 1, by omega⟩
  exact (ifS_f (notT_t (tst_ev (cN_ev e (same_self (h.up (show k ≤ m by omega)))) rfl))).trans rfl

/-! ### tracks -/
theorem map_flat (n : Nat) (t : List Pc) : (List.replicate n (t.map encP)).flatten = (rep n t).map encP := by
  unfold rep
  rw [List.map_flatten, List.map_replicate]
theorem rep_len (n : Nat) (t : List Pc) : (rep n t).length = n * t.length := flatten_len t n
theorem mulTr {t : List Pc} {n : Nat} (hn : n < 2 ^ 62) (h : t.length * n ≤ 16777216) : mulD (encTr t) (.int n) = some (encTr (rep n t)) := by
  show (if immutAll (t.map encP) = true ∧ -(2 ^ 63) ≤ (n : Int) ∧ (n : Int) < 2 ^ 63 ∧ (t.map encP).length * ((n : Int)).toNat ≤ sizeLine then some (PyData.tuple (List.replicate ((n : Int)).toNat (t.map encP)).flatten) else none) = _
  rw [if_pos ⟨imm_Ps t, by omega, by omega, by rw [List.length_map, Int.toNat_natCast]; exact h⟩, Int.toNat_natCast, map_flat]
  rfl
theorem addTr {a b : List Pc} (h : a.length + b.length ≤ 16777216) : addD (encTr a) (encTr b) = some (encTr (a ++ b)) := by
  show (if (immutAll (a.map encP) && immutAll (b.map encP)) = true ∧ (a.map encP).length + (b.map encP).length ≤ sizeLine then some (PyData.tuple (a.map encP ++ b.map encP)) else none) = _
  rw [if_pos ⟨by rw [imm_Ps, imm_Ps]; rfl, by rw [List.length_map, List.length_map]; exact h⟩, ← List.map_append]
  rfl
theorem revTr (t : List Pc) : revD (encTr t) = some (encTr t.reverse) := by
  show (if immutAll (t.map encP) = true then some (PyData.tuple (t.map encP).reverse) else none) = _
  rw [if_pos (imm_Ps t), ← List.map_reverse]
  rfl
theorem asInts_map {α : Type} (φ : α → Int) (l : List α) : asInts (l.map fun a => PyData.int (φ a)) = some (l.map φ) := by
  induction l with
  | nil => rfl
  | cons a l ih =>
    show ((asInts (l.map fun a => PyData.int (φ a))).map (φ a :: ·)) = _
    rw [ih]
    rfl
theorem tsum_sum (t : List Pc) : (t.map fun p => p.1.t).sum = tsum t := by
  induction t with
  | nil => rfl
  | cons p r ih => show p.1.t + (r.map fun p => p.1.t).sum = _; rw [ih]; rfl
theorem sumD_ts (t : List Pc) : sumD [.list (t.map fun p => PyData.int p.1.t)] = some (.int (tsum t)) := by
  show ((asInts _).map _) = _
  rw [asInts_map (fun p : Pc => p.1.t) t]
  show some (PyData.int (List.sum _)) = _
  rw [tsum_sum]
theorem turning_of_eq (t : List Pc) : F_turning_of [encTr t] = some (.int (tsum t)) := by
  obtain ⟨δ', h1, y, rfl⟩ := lcL_enc (t := stS 1) (own := [1]) (f := e1_turning_of) encP (fun p => PyData.int p.1.t) (fun δ => ∃ y, δ = [some (encTr t), y]) (l := t) (δ := [some (encTr t), none]) ⟨none, rfl⟩ (by
    rintro p hp δ ⟨y, rfl⟩
    exact ⟨[some (encTr t), some (encP p)], [some (encTr t), some (encP p)], rfl, cN_ev (ds := [encP p]) rfl (turn_of_eq p), _, rfl⟩)
  exact fnF_rt (δ := [some (encTr t), none]) rfl (seqS_rt (rtS_ev (cN_ev (aCons_ev (lcV_ev (δ1 := [some (encTr t), none]) (seqI_ev rfl rfl) h1) rfl) (sumD_ts t))))
theorem east_eq (s : Spot) : F_east [encS s] = some (.tuple [.int (2 * s.1), .int (s.2.1 - s.2.2.2)]) :=
  fnF_rt (δ := [some (encS s)]) rfl (seqS_rt (rtS_ev (tupV_ev (aCons_ev (c2_ev (d := .int 2) (e := .int s.1) rfl rfl (mulD_int (.inl (by decide)))) rfl))))
end Lb
/-! The defs of the law loopsclosed_k06_whole_sums_and_balances: denotations and derivations, printed by gen.py. -/
namespace Lw
open PySem PySem.Spec PyProof.Rows L2 Dn Lb

def topS (i : Nat) : Stmt := PySem.Challenge.pw_loopsclosed_k06_whole_sums_and_balances.main.body.getD i (.Pass ⟨0, 0, 0, 0⟩)
abbrev s_added : Stmt := topS 3
abbrev s_taken_off : Stmt := topS 4
abbrev s_turned_spot : Stmt := topS 5
abbrev s_along : Stmt := topS 6
abbrev s_turn_of : Stmt := topS 9
abbrev s_step_of : Stmt := topS 10
abbrev s_pose_behind : Stmt := topS 11
abbrev s_poses_along : Stmt := topS 12
abbrev s_pose_after : Stmt := topS 13
abbrev s_is_closed : Stmt := topS 14
abbrev s_turned_track : Stmt := topS 15
abbrev s_gap_of : Stmt := topS 18
abbrev s_sums_of : Stmt := topS 19
abbrev s_opposite_less : Stmt := topS 20
abbrev s_balance_of : Stmt := topS 21
abbrev s_is_balanced : Stmt := topS 22
abbrev s__law_mix : Stmt := topS 24
abbrev s__law_tape : Stmt := topS 25
abbrev s__law_take : Stmt := topS 26
abbrev s__law_same : Stmt := topS 27
abbrev s__law_turned : Stmt := topS 28
abbrev s__law_behind : Stmt := topS 29
abbrev s__law_after : Stmt := topS 30
abbrev s__law_piece : Stmt := topS 31
abbrev s__law_sums : Stmt := topS 32
abbrev s__law_circle : Stmt := topS 33
abbrev s_law : Stmt := topS 34
def k_HALF : D := .int 4
/-- what the top has written -/
structure Tx (K : PySem.W.Frag) (mg : Str → Option Value) : Prop where
  d_added : Df K mg "added" s_added ["one", "other"]
  d_taken_off : Df K mg "taken_off" s_taken_off ["one", "other"]
  d_turned_spot : Df K mg "turned_spot" s_turned_spot ["spot", "k"]
  d_along : Df K mg "along" s_along ["heading", "n"]
  d_turn_of : Df K mg "turn_of" s_turn_of ["piece"]
  d_step_of : Df K mg "step_of" s_step_of ["piece", "heading"]
  d_pose_behind : Df K mg "pose_behind" s_pose_behind ["pose", "piece"]
  d_poses_along : Df K mg "poses_along" s_poses_along ["pose", "track"]
  d_pose_after : Df K mg "pose_after" s_pose_after ["pose", "track"]
  d_is_closed : Df K mg "is_closed" s_is_closed ["track"]
  d_turned_track : Df K mg "turned_track" s_turned_track ["track", "k"]
  d_gap_of : Df K mg "gap_of" s_gap_of ["piece", "heading"]
  d_sums_of : Df K mg "sums_of" s_sums_of ["track"]
  d_opposite_less : Df K mg "opposite_less" s_opposite_less ["row"]
  d_balance_of : Df K mg "balance_of" s_balance_of ["sums"]
  d_is_balanced : Df K mg "is_balanced" s_is_balanced ["balance"]
  d__law_mix : Df K mg "_law_mix" s__law_mix ["number"]
  d__law_tape : Df K mg "_law_tape" s__law_tape ["script"]
  d__law_take : Df K mg "_law_take" s__law_take ["tape", "many"]
  d__law_same : Df K mg "_law_same" s__law_same ["a", "b"]
  d__law_turned : Df K mg "_law_turned" s__law_turned ["spot", "k"]
  d__law_behind : Df K mg "_law_behind" s__law_behind ["pose", "piece"]
  d__law_after : Df K mg "_law_after" s__law_after ["track"]
  d__law_piece : Df K mg "_law_piece" s__law_piece ["tape", "most"]
  d__law_sums : Df K mg "_law_sums" s__law_sums ["track"]
  d__law_circle : Df K mg "_law_circle" s__law_circle ["tape"]
  d_law : Df K mg "law" s_law ["script"]
  k_FIRST_POSE : Kon K mg "FIRST_POSE" k_FIRST_POSE
  k_HALF : Kon K mg "HALF" k_HALF
  k_HEADINGS : Kon K mg "HEADINGS" k_HEADINGS
  z_all : mg "all" = none
  z_any : mg "any" = none
  z_bool : mg "bool" = none
  z_int : mg "int" = none
  z_isinstance : mg "isinstance" = none
  z_len : mg "len" = none
  z_list : mg "list" = none
  z_range : mg "range" = none
  z_str : mg "str" = none
  z_tuple : mg "tuple" = none
  z_zip : mg "zip" = none
section
variable {P : Program} {w : World} {K : PySem.W.Frag} {mg : Str → Option Value} {base : Heap}
/-! added -/
theorem sc_added : FnScope ["one", "other", "a", "b"] ["one", "other"] (defScope s_added) := ⟨rfl, rfl, rfl, by decide +kernel, rfl, by decide +kernel, by decide +kernel⟩
theorem c_added (T : Tx K mg) : Cl P w K mg base 1 "added" [.frz, .frz] .frz F_added := by
  exact Cl.of (M' := [some .frz, some .frz, none, none]) T.d_added sc_added rfl rfl rfl fun f cdv A outer s H E B hr => (dss_cons (M1 := [some .frz, some .frz, none, none]) (ds_ret (m := .frz) .nil rfl (de_callTy b_tuple rfl T.z_tuple (by decide +kernel) (ms := [.own]) (da_cons (m := .own) rfl (de_lc (own := [("a", 2), ("b", 3)]) (M1 := [some .frz, some .frz, some .frz, some .frz]) (mi := .frz) rfl (by decide) rfl rfl sc_added.nd (di_zip (m := .frz) rfl rfl T.z_zip (da_cons (m := .frz) rfl (eV (m := .frz) 0 rfl rfl (.inl rfl) rfl rfl) (da_cons (m := .frz) rfl (eV (m := .frz) 1 rfl rfl (.inl rfl) rfl rfl) da_nil rfl) rfl) rfl rfl) (blkOk_by (N := ["one", "other", "a", "b"]) (sc := defScope s_added) (own := [("a", 2), ("b", 3)]) (by decide +kernel)) (fun _ _ _ _ _ => (dg_tup rfl (dgs_cons (gN (i := 2) (M := [some .frz, some .frz, none, none]) (mi := .frz) rfl sc_added.nd rfl (.inl rfl) (.inr rfl)) (dgs_cons (gN (i := 3) (M := [some .frz, some .frz, some .frz, none]) (mi := .frz) rfl sc_added.nd rfl (.inl rfl) (.inr rfl)) dgs_nil rfl) rfl) rfl rfl)) (fun _ _ _ _ _ => dts_nil) (fun _ _ _ _ _ => (DE.frzOf (de_op rfl o_add (eV (m := .frz) 2 rfl rfl (.inl rfl) rfl rfl) (eV (m := .frz) 3 rfl rfl (.inl rfl) rfl rfl)))) (fun _ => rfl)) da_nil rfl) (by decide +kernel) (by decide +kernel) rfl rfl)) dss_nil)
/-! taken_off -/
theorem sc_taken_off : FnScope ["one", "other", "a", "b"] ["one", "other"] (defScope s_taken_off) := ⟨rfl, rfl, rfl, by decide +kernel, rfl, by decide +kernel, by decide +kernel⟩
theorem c_taken_off (T : Tx K mg) : Cl P w K mg base 1 "taken_off" [.frz, .frz] .frz F_taken_off := by
  exact Cl.of (M' := [some .frz, some .frz, none, none]) T.d_taken_off sc_taken_off rfl rfl rfl fun f cdv A outer s H E B hr => (dss_cons (M1 := [some .frz, some .frz, none, none]) (ds_ret (m := .frz) .nil rfl (de_callTy b_tuple rfl T.z_tuple (by decide +kernel) (ms := [.own]) (da_cons (m := .own) rfl (de_lc (own := [("a", 2), ("b", 3)]) (M1 := [some .frz, some .frz, some .frz, some .frz]) (mi := .frz) rfl (by decide) rfl rfl sc_taken_off.nd (di_zip (m := .frz) rfl rfl T.z_zip (da_cons (m := .frz) rfl (eV (m := .frz) 0 rfl rfl (.inl rfl) rfl rfl) (da_cons (m := .frz) rfl (eV (m := .frz) 1 rfl rfl (.inl rfl) rfl rfl) da_nil rfl) rfl) rfl rfl) (blkOk_by (N := ["one", "other", "a", "b"]) (sc := defScope s_taken_off) (own := [("a", 2), ("b", 3)]) (by decide +kernel)) (fun _ _ _ _ _ => (dg_tup rfl (dgs_cons (gN (i := 2) (M := [some .frz, some .frz, none, none]) (mi := .frz) rfl sc_taken_off.nd rfl (.inl rfl) (.inr rfl)) (dgs_cons (gN (i := 3) (M := [some .frz, some .frz, some .frz, none]) (mi := .frz) rfl sc_taken_off.nd rfl (.inl rfl) (.inr rfl)) dgs_nil rfl) rfl) rfl rfl)) (fun _ _ _ _ _ => dts_nil) (fun _ _ _ _ _ => (de_op rfl o_sub (eV (m := .frz) 2 rfl rfl (.inl rfl) rfl rfl) (eV (m := .frz) 3 rfl rfl (.inl rfl) rfl rfl))) (fun _ => rfl)) da_nil rfl) (by decide +kernel) (by decide +kernel) rfl rfl)) dss_nil)
/-! turned_spot -/
theorem sc_turned_spot : FnScope ["spot", "k", "_"] ["spot", "k"] (defScope s_turned_spot) := ⟨rfl, rfl, rfl, by decide +kernel, rfl, by decide +kernel, by decide +kernel⟩
theorem c_turned_spot (T : Tx K mg) : Cl P w K mg base 1 "turned_spot" [.frz, .frz] .frz F_turned_spot := by
  exact Cl.of (M' := [some .frz, some .frz, none]) T.d_turned_spot sc_turned_spot rfl rfl rfl fun f cdv A outer s H E B hr => (dss_cons (M1 := [some .frz, some .frz, none]) (ds_for (M := [some .frz, some .frz, none]) (M1 := [some .frz, some .frz, some .frz]) (mi := .frz) PassesOwn.never rfl (di_range1 rfl T.z_range (ms := [.frz]) (da_cons (m := .frz) rfl (de_op rfl o_mod (eV (m := .frz) 1 rfl rfl (.inl rfl) rfl rfl) (de_glob T.k_HEADINGS rfl rfl)) da_nil rfl) rfl) (gN (i := 2) (M := [some .frz, some .frz, none]) (mi := .frz) rfl sc_turned_spot.nd rfl (.inl rfl) (.inl rfl)) (dss_cons (M1 := [some .frz, some .frz, some .frz]) (ds_set (i := 0) (m := .frz) rfl sc_turned_spot.nd rfl (.inl rfl) (de_tup (ms := [.frz, .frz, .frz, .frz]) allF (by decide +kernel) (da_cons (m := .frz) rfl (de_un o_neg (de_ix (ma := .frz) rfl (eV (m := .frz) 0 rfl rfl (.inl rfl) rfl rfl) de_int (fun _ _ => rfl))) (da_cons (m := .frz) rfl (de_ix (ma := .frz) rfl (eV (m := .frz) 0 rfl rfl (.inl rfl) rfl rfl) de_int (fun _ _ => rfl)) (da_cons (m := .frz) rfl (de_ix (ma := .frz) rfl (eV (m := .frz) 0 rfl rfl (.inl rfl) rfl rfl) de_int (fun _ _ => rfl)) (da_cons (m := .frz) rfl (de_ix (ma := .frz) rfl (eV (m := .frz) 0 rfl rfl (.inl rfl) rfl rfl) de_int (fun _ _ => rfl)) da_nil rfl) rfl) rfl) rfl)) rfl (.inl rfl)) (DSs.fin (.cons (.same _) (.cons (.same _) (.cons (.dead _) .nil))) dss_nil)) (fun _ => rfl)) (dss_cons (M1 := [some .frz, some .frz, none]) (ds_ret (m := .frz) .nil rfl (eV (m := .frz) 0 rfl rfl (.inl rfl) rfl rfl)) dss_nil))
/-! along -/
theorem sc_along : FnScope ["heading", "n"] ["heading", "n"] (defScope s_along) := ⟨rfl, rfl, rfl, by decide +kernel, rfl, by decide +kernel, by decide +kernel⟩
theorem c_along (T : Tx K mg) : Cl P w K mg base 2 "along" [.frz, .frz] .frz F_along := by
  have c_turned_spot := c_turned_spot (P := P) (w := w) (base := base) T
  exact Cl.of (M' := [some .frz, some .frz]) T.d_along sc_along rfl rfl rfl fun f cdv A outer s H E B hr => (dss_cons (M1 := [some .frz, some .frz]) (ds_ret (m := .frz) .nil rfl (de_c c_turned_spot hr (by decide) (ms := [.frz, .frz]) rfl rfl (da_cons (m := .frz) rfl (de_tup (ms := [.frz, .frz, .frz, .frz]) allF (by decide +kernel) (da_cons (m := .frz) rfl (eV (m := .frz) 1 rfl rfl (.inl rfl) rfl rfl) (da_cons (m := .frz) rfl de_int (da_cons (m := .frz) rfl de_int (da_cons (m := .frz) rfl de_int da_nil rfl) rfl) rfl) rfl)) (da_cons (m := .frz) rfl (eV (m := .frz) 0 rfl rfl (.inl rfl) rfl rfl) da_nil rfl) rfl) rfl rfl rfl)) dss_nil)
/-! turn_of -/
theorem sc_turn_of : FnScope ["piece"] ["piece"] (defScope s_turn_of) := ⟨rfl, rfl, rfl, by decide +kernel, rfl, by decide +kernel, by decide +kernel⟩
theorem c_turn_of (T : Tx K mg) : Cl P w K mg base 1 "turn_of" [.frz] .frz F_turn_of := by
  exact Cl.of (M' := [some .frz]) T.d_turn_of sc_turn_of rfl rfl rfl fun f cdv A outer s H E B hr => (dss_cons (M1 := [some .frz]) (ds_ret (m := .frz) .nil rfl (de_dgV (m := .frz) (kds := [("left", .int 1), ("right", .int (-1)), ("straight", .int 0)]) hr.units (.cons pe_str pe_int (fun _ => .int _) (.cons pe_str pc_neg (fun _ => .int _) (.cons pe_str pe_int (fun _ => .int _) .nil))) rfl rfl (by simp) (by decide +kernel) (fun _ _ => rfl) (de_ix (ma := .frz) rfl (eV (m := .frz) 0 rfl rfl (.inl rfl) rfl rfl) de_int (fun _ _ => rfl)))) dss_nil)
/-! step_of -/
theorem sc_step_of : FnScope ["piece", "heading", "kind", "n"] ["piece", "heading"] (defScope s_step_of) := ⟨rfl, rfl, rfl, by decide +kernel, rfl, by decide +kernel, by decide +kernel⟩
theorem c_step_of (T : Tx K mg) : Cl P w K mg base 3 "step_of" [.frz, .frz] .frz F_step_of := by
  have c_along := c_along (P := P) (w := w) (base := base) T
  have c_taken_off := c_taken_off (P := P) (w := w) (base := base) T
  exact Cl.of (M' := [some .frz, some .frz, none, none]) T.d_step_of sc_step_of rfl rfl rfl fun f cdv A outer s H E B hr => (dss_cons (M1 := [some .frz, some .frz, some .frz, some .frz]) (ds_asg (m := .frz) (eV (m := .frz) 0 rfl rfl (.inl rfl) rfl rfl) (dg_tup rfl (dgs_cons (gN (i := 2) (M := [some .frz, some .frz, none, none]) (mi := .frz) rfl sc_step_of.nd rfl (.inl rfl) (.inl rfl)) (dgs_cons (gN (i := 3) (M := [some .frz, some .frz, some .frz, none]) (mi := .frz) rfl sc_step_of.nd rfl (.inl rfl) (.inl rfl)) dgs_nil rfl) rfl) rfl rfl) rfl rfl rfl) (dss_cons (M1 := [some .frz, some .frz, some .frz, some .frz]) (ds_if (M' := [some .frz, some .frz, some .frz, some .frz]) (dt_cmp (ma := .frz) rfl (o_eq hr.units) (eV (m := .frz) 2 rfl rfl (.inl rfl) rfl rfl) de_str (nomark _)) (dss_cons (M1 := [some .frz, some .frz, some .frz, some .frz]) (ds_ret (m := .frz) .nil rfl (de_c c_along hr (by decide) (ms := [.frz, .frz]) rfl rfl (da_cons (m := .frz) rfl (eV (m := .frz) 1 rfl rfl (.inl rfl) rfl rfl) (da_cons (m := .frz) rfl (eV (m := .frz) 3 rfl rfl (.inl rfl) rfl rfl) da_nil rfl) rfl) rfl rfl rfl)) dss_nil) dss_nil) (dss_cons (M1 := [some .frz, some .frz, some .frz, some .frz]) (ds_if (M' := [some .frz, some .frz, some .frz, some .frz]) (dt_cmp (ma := .frz) rfl (o_eq hr.units) (eV (m := .frz) 2 rfl rfl (.inl rfl) rfl rfl) de_str (nomark _)) (dss_cons (M1 := [some .frz, some .frz, some .frz, some .frz]) (ds_ret (m := .frz) .nil rfl (de_c c_taken_off hr (by decide) (ms := [.frz, .frz]) rfl rfl (da_cons (m := .frz) rfl (de_c c_along hr (by decide) (ms := [.frz, .frz]) rfl rfl (da_cons (m := .frz) rfl (DE.frzOf (de_op rfl o_add (eV (m := .frz) 1 rfl rfl (.inl rfl) rfl rfl) de_int)) (da_cons (m := .frz) rfl (eV (m := .frz) 3 rfl rfl (.inl rfl) rfl rfl) da_nil rfl) rfl) rfl rfl rfl) (da_cons (m := .frz) rfl (de_c c_along hr (by decide) (ms := [.frz, .frz]) rfl rfl (da_cons (m := .frz) rfl (DE.frzOf (de_op rfl o_add (eV (m := .frz) 1 rfl rfl (.inl rfl) rfl rfl) de_int)) (da_cons (m := .frz) rfl (eV (m := .frz) 3 rfl rfl (.inl rfl) rfl rfl) da_nil rfl) rfl) rfl rfl rfl) da_nil rfl) rfl) rfl rfl rfl)) dss_nil) dss_nil) (dss_cons (M1 := [some .frz, some .frz, none, none]) (ds_ret (m := .frz) .nil rfl (de_c c_taken_off hr (by decide) (ms := [.frz, .frz]) rfl rfl (da_cons (m := .frz) rfl (de_c c_along hr (by decide) (ms := [.frz, .frz]) rfl rfl (da_cons (m := .frz) rfl (DE.frzOf (de_op rfl o_add (eV (m := .frz) 1 rfl rfl (.inl rfl) rfl rfl) de_int)) (da_cons (m := .frz) rfl (eV (m := .frz) 3 rfl rfl (.inl rfl) rfl rfl) da_nil rfl) rfl) rfl rfl rfl) (da_cons (m := .frz) rfl (de_c c_along hr (by decide) (ms := [.frz, .frz]) rfl rfl (da_cons (m := .frz) rfl (DE.frzOf (de_op rfl o_add (eV (m := .frz) 1 rfl rfl (.inl rfl) rfl rfl) de_int)) (da_cons (m := .frz) rfl (eV (m := .frz) 3 rfl rfl (.inl rfl) rfl rfl) da_nil rfl) rfl) rfl rfl rfl) da_nil rfl) rfl) rfl rfl rfl)) dss_nil))))
/-! pose_behind -/
theorem sc_pose_behind : FnScope ["pose", "piece", "spot", "heading"] ["pose", "piece"] (defScope s_pose_behind) := ⟨rfl, rfl, rfl, by decide +kernel, rfl, by decide +kernel, by decide +kernel⟩
theorem c_pose_behind (T : Tx K mg) : Cl P w K mg base 4 "pose_behind" [.frz, .frz] .frz F_pose_behind := by
  have c_added := c_added (P := P) (w := w) (base := base) T
  have c_step_of := c_step_of (P := P) (w := w) (base := base) T
  have c_turn_of := c_turn_of (P := P) (w := w) (base := base) T
  exact Cl.of (M' := [some .frz, some .frz, none, none]) T.d_pose_behind sc_pose_behind rfl rfl rfl fun f cdv A outer s H E B hr => (dss_cons (M1 := [some .frz, some .frz, some .frz, some .frz]) (ds_asg (m := .frz) (eV (m := .frz) 0 rfl rfl (.inl rfl) rfl rfl) (dg_tup rfl (dgs_cons (gN (i := 2) (M := [some .frz, some .frz, none, none]) (mi := .frz) rfl sc_pose_behind.nd rfl (.inl rfl) (.inl rfl)) (dgs_cons (gN (i := 3) (M := [some .frz, some .frz, some .frz, none]) (mi := .frz) rfl sc_pose_behind.nd rfl (.inl rfl) (.inl rfl)) dgs_nil rfl) rfl) rfl rfl) rfl rfl rfl) (dss_cons (M1 := [some .frz, some .frz, none, none]) (ds_ret (m := .frz) .nil rfl (de_tup (ms := [.frz, .frz]) allF (by decide +kernel) (da_cons (m := .frz) rfl (de_c c_added hr (by decide) (ms := [.frz, .frz]) rfl rfl (da_cons (m := .frz) rfl (eV (m := .frz) 2 rfl rfl (.inl rfl) rfl rfl) (da_cons (m := .frz) rfl (de_c c_step_of hr (by decide) (ms := [.frz, .frz]) rfl rfl (da_cons (m := .frz) rfl (eV (m := .frz) 1 rfl rfl (.inl rfl) rfl rfl) (da_cons (m := .frz) rfl (eV (m := .frz) 3 rfl rfl (.inl rfl) rfl rfl) da_nil rfl) rfl) rfl rfl rfl) da_nil rfl) rfl) rfl rfl rfl) (da_cons (m := .frz) rfl (de_op rfl o_mod (de_op rfl o_add (eV (m := .frz) 3 rfl rfl (.inl rfl) rfl rfl) (de_c c_turn_of hr (by decide) (ms := [.frz]) rfl rfl (da_cons (m := .frz) rfl (eV (m := .frz) 1 rfl rfl (.inl rfl) rfl rfl) da_nil rfl) rfl rfl rfl)) (de_glob T.k_HEADINGS rfl rfl)) da_nil rfl) rfl))) dss_nil))
/-! poses_along -/
theorem sc_poses_along : FnScope ["pose", "track", "found", "piece"] ["pose", "track"] (defScope s_poses_along) := ⟨rfl, rfl, rfl, by decide +kernel, rfl, by decide +kernel, by decide +kernel⟩
theorem c_poses_along (T : Tx K mg) : Cl P w K mg base 5 "poses_along" [.frz, .frz] .frz F_poses_along := by
  have c_pose_behind := c_pose_behind (P := P) (w := w) (base := base) T
  exact Cl.of (M' := [some .frz, some .frz, none, none]) T.d_poses_along sc_poses_along rfl rfl rfl fun f cdv A outer s H E B hr => (dss_cons (M1 := [some .frz, some .frz, some .own, none]) (ds_set (i := 2) (m := .own) rfl sc_poses_along.nd rfl (.inl rfl) (de_lst (ms := [.frz]) allF (by decide +kernel) (da_cons (m := .frz) rfl (eV (m := .frz) 0 rfl rfl (.inl rfl) rfl rfl) da_nil rfl)) rfl (.inl rfl)) (dss_cons (M1 := [some .frz, some .frz, some .own, none]) (ds_for (M := [some .frz, some .frz, some .own, none]) (M1 := [some .frz, some .frz, some .own, some .frz]) (mi := .frz) PassesOwn.never rfl (di_seq (m := .frz) rfl (eV (m := .frz) 1 rfl rfl (.inl rfl) rfl rfl)) (gN (i := 3) (M := [some .frz, some .frz, some .own, none]) (mi := .frz) rfl sc_poses_along.nd rfl (.inl rfl) (.inl rfl)) (dss_cons (M1 := [some .frz, some .frz, some .own, some .frz]) (sApp (i := 2) (m := .own) rfl rfl rfl (.inl rfl) rfl rfl (de_c c_pose_behind hr (by decide) (ms := [.frz, .frz]) rfl rfl (da_cons (m := .frz) rfl (DE.immOf (m := .len) (de_ix (ma := .len) rfl (eV (m := .own) 2 rfl rfl (.inl rfl) rfl rfl) (de_un o_neg de_int) (fun _ _ => rfl))) (da_cons (m := .frz) rfl (eV (m := .frz) 3 rfl rfl (.inl rfl) rfl rfl) da_nil rfl) rfl) rfl rfl rfl) rfl (fun h1 h2 => pe_bm PySem.F.plainAttrs_list PySem.F.slot_list_append PySem.F.type_list_append mt_append h1 h2) rfl) (DSs.fin (.cons (.same _) (.cons (.same _) (.cons (.same _) (.cons (.dead _) .nil)))) dss_nil)) (fun _ => rfl)) (dss_cons (M1 := [some .frz, some .frz, none, none]) (ds_ret (m := .frz) .nil rfl (de_callTy b_tuple rfl T.z_tuple (by decide +kernel) (ms := [.len]) (da_cons (m := .len) rfl (eV (m := .own) 2 rfl rfl (.inl rfl) rfl rfl) da_nil rfl) (by decide +kernel) (by decide +kernel) rfl rfl)) dss_nil)))
/-! pose_after -/
theorem sc_pose_after : FnScope ["pose", "track"] ["pose", "track"] (defScope s_pose_after) := ⟨rfl, rfl, rfl, by decide +kernel, rfl, by decide +kernel, by decide +kernel⟩
theorem c_pose_after (T : Tx K mg) : Cl P w K mg base 6 "pose_after" [.frz, .frz] .frz F_pose_after := by
  have c_poses_along := c_poses_along (P := P) (w := w) (base := base) T
  exact Cl.of (M' := [some .frz, some .frz]) T.d_pose_after sc_pose_after rfl rfl rfl fun f cdv A outer s H E B hr => (dss_cons (M1 := [some .frz, some .frz]) (ds_ret (m := .frz) .nil rfl (de_ix (ma := .frz) rfl (de_c c_poses_along hr (by decide) (ms := [.frz, .frz]) rfl rfl (da_cons (m := .frz) rfl (eV (m := .frz) 0 rfl rfl (.inl rfl) rfl rfl) (da_cons (m := .frz) rfl (eV (m := .frz) 1 rfl rfl (.inl rfl) rfl rfl) da_nil rfl) rfl) rfl rfl rfl) (de_un o_neg de_int) (fun _ _ => rfl))) dss_nil)
/-! is_closed -/
theorem sc_is_closed : FnScope ["track"] ["track"] (defScope s_is_closed) := ⟨rfl, rfl, rfl, by decide +kernel, rfl, by decide +kernel, by decide +kernel⟩
theorem c_is_closed (T : Tx K mg) : Cl P w K mg base 7 "is_closed" [.frz] .frz F_is_closed := by
  have c_pose_after := c_pose_after (P := P) (w := w) (base := base) T
  exact Cl.of (M' := [some .frz]) T.d_is_closed sc_is_closed rfl rfl rfl fun f cdv A outer s H E B hr => (dss_cons (M1 := [some .frz]) (ds_ret (m := .frz) .nil rfl (de_and (de_cmp (ma := .frz) rfl (o_ne hr.units) (eV (m := .frz) 0 rfl rfl (.inl rfl) rfl rfl) (de_tup (ms := []) (fun _ h => nomatch h) (by decide +kernel) da_nil) (nomark _)) (de_one (de_cmp (ma := .frz) rfl (o_eq hr.units) (de_c c_pose_after hr (by decide) (ms := [.frz, .frz]) rfl rfl (da_cons (m := .frz) rfl (de_glob T.k_FIRST_POSE rfl rfl) (da_cons (m := .frz) rfl (eV (m := .frz) 0 rfl rfl (.inl rfl) rfl rfl) da_nil rfl) rfl) rfl rfl rfl) (de_glob T.k_FIRST_POSE rfl rfl) (nomark _))))) dss_nil)
/-! turned_track -/
def den_turned_track : CS := (seqS (asgS (stS 2) (ifV (tst (rd 0)) (c2 modD (rd 1) (cN lenD (aCons (rd 0) aNil))) (cst (.int 0)))) (seqS (rtS (c2 addD (slV (rd 0) (ptOf (rd 2)) noPt) (slV (rd 0) noPt (ptOf (rd 2))))) skip))
def F_turned_track := fnF den_turned_track 3 2
theorem sc_turned_track : FnScope ["track", "k", "at"] ["track", "k"] (defScope s_turned_track) := ⟨rfl, rfl, rfl, by decide +kernel, rfl, by decide +kernel, by decide +kernel⟩
theorem c_turned_track (T : Tx K mg) : Cl P w K mg base 1 "turned_track" [.frz, .frz] .frz F_turned_track := by
  exact Cl.of (M' := [some .frz, some .frz, none]) T.d_turned_track sc_turned_track rfl rfl rfl fun f cdv A outer s H E B hr => (dss_cons (M1 := [some .frz, some .frz, some .frz]) (ds_set (i := 2) (m := .frz) rfl sc_turned_track.nd rfl (.inl rfl) (de_if (dt_val (m := .frz) (eV (m := .frz) 0 rfl rfl (.inl rfl) rfl rfl) (fun _ => rfl)) (de_op rfl o_mod (eV (m := .frz) 1 rfl rfl (.inl rfl) rfl rfl) (de_callB b_len rfl T.z_len (by decide +kernel) (ms := [.frz]) (da_cons (m := .frz) rfl (eV (m := .frz) 0 rfl rfl (.inl rfl) rfl rfl) da_nil rfl) (by decide +kernel) (by decide +kernel) rfl rfl)) de_int) rfl (.inl rfl)) (dss_cons (M1 := [some .frz, some .frz, none]) (ds_ret (m := .frz) .nil rfl (DE.frzOf (de_op rfl o_add (de_slice (ma := .frz) rfl rfl (eV (m := .frz) 0 rfl rfl (.inl rfl) rfl rfl) (dp_some (m := .frz) (eV (m := .frz) 2 rfl rfl (.inl rfl) rfl rfl)) dp_none) (de_slice (ma := .frz) rfl rfl (eV (m := .frz) 0 rfl rfl (.inl rfl) rfl rfl) dp_none (dp_some (m := .frz) (eV (m := .frz) 2 rfl rfl (.inl rfl) rfl rfl)))))) dss_nil))
/-! gap_of -/
def den_gap_of : CS := (seqS (rtS (ifV (tstB (c2 eqD (c2 ixD (rd 0) (cst (.int 0))) (cst (.str "left")))) (rd 1) (c2 modD (c2 subD (c2 addD (rd 1) (cst k_HEADINGS)) (cst (.int 1))) (cst k_HEADINGS)))) skip)
def F_gap_of := fnF den_gap_of 2 2
theorem sc_gap_of : FnScope ["piece", "heading"] ["piece", "heading"] (defScope s_gap_of) := ⟨rfl, rfl, rfl, by decide +kernel, rfl, by decide +kernel, by decide +kernel⟩
theorem c_gap_of (T : Tx K mg) : Cl P w K mg base 1 "gap_of" [.frz, .frz] .frz F_gap_of := by
  exact Cl.of (M' := [some .frz, some .frz]) T.d_gap_of sc_gap_of rfl rfl rfl fun f cdv A outer s H E B hr => (dss_cons (M1 := [some .frz, some .frz]) (ds_ret (m := .frz) .nil rfl (de_if (dt_cmp (ma := .frz) rfl (o_eq hr.units) (de_ix (ma := .frz) rfl (eV (m := .frz) 0 rfl rfl (.inl rfl) rfl rfl) de_int (fun _ _ => rfl)) de_str (nomark _)) (eV (m := .frz) 1 rfl rfl (.inl rfl) rfl rfl) (de_op rfl o_mod (de_op rfl o_sub (de_op rfl o_add (eV (m := .frz) 1 rfl rfl (.inl rfl) rfl rfl) (de_glob T.k_HEADINGS rfl rfl)) de_int) (de_glob T.k_HEADINGS rfl rfl)))) dss_nil)
/-! sums_of -/
def b1_sums_of : CS := (seqS (ifS (tstB (c2 eqD (c2 ixD (rd 4) (cst (.int 0))) (cst (.str "straight")))) (seqS (auI 1 iaddD (rd 3) (c2 ixD (rd 4) (cst (.int 1)))) skip) (seqS (auI 2 iaddD (cN F_gap_of (aCons (rd 4) (aCons (rd 3) aNil))) (c2 ixD (rd 4) (cst (.int 1)))) skip)) (seqS (asgS (stS 3) (c2 modD (c2 addD (rd 3) (cN F_turn_of (aCons (rd 4) aNil))) (cst k_HEADINGS))) skip))
def den_sums_of : CS := (seqS (par3S 1 2 3 (c2 mulD (lstV (aCons (cst (.int 0)) aNil)) (cst k_HEADINGS)) (c2 mulD (lstV (aCons (cst (.int 0)) aNil)) (cst k_HEADINGS)) (cst (.int 0))) (seqS (forS (seqI (rd 0)) (stS 4) b1_sums_of) (seqS (rtS (tupV (aCons (cN tupleD (aCons (rd 1) aNil)) (aCons (cN tupleD (aCons (rd 2) aNil)) aNil)))) skip)))
def F_sums_of := fnF den_sums_of 5 1
theorem sc_sums_of : FnScope ["track", "straights", "curves", "heading", "piece"] ["track"] (defScope s_sums_of) := ⟨rfl, rfl, rfl, by decide +kernel, rfl, by decide +kernel, by decide +kernel⟩
theorem c_sums_of (T : Tx K mg) : Cl P w K mg base 2 "sums_of" [.frz] .frz F_sums_of := by
  have c_gap_of := c_gap_of (P := P) (w := w) (base := base) T
  have c_turn_of := c_turn_of (P := P) (w := w) (base := base) T
  exact Cl.of (M' := [some .frz, none, none, none, none]) T.d_sums_of sc_sums_of rfl rfl rfl fun f cdv A outer s H E B hr => (dss_cons (M1 := [some .frz, some .own, some .own, some .frz, none]) (ds_par3 (i := 1) (j := 2) (l := 3) (m1 := .own) (m2 := .own) (m3 := .frz) rfl rfl rfl rfl sc_sums_of.nd rfl rfl rfl (by decide) (by decide) (by decide) rfl rfl rfl (de_op rfl o_mul (de_lst (ms := [.frz]) allF (by decide +kernel) (da_cons (m := .frz) rfl de_int da_nil rfl)) (de_glob T.k_HEADINGS rfl rfl)) (de_op rfl o_mul (de_lst (ms := [.frz]) allF (by decide +kernel) (da_cons (m := .frz) rfl de_int da_nil rfl)) (de_glob T.k_HEADINGS rfl rfl)) de_int rfl rfl rfl rfl rfl) (dss_cons (M1 := [some .frz, some .own, some .own, some .frz, none]) (ds_for (M := [some .frz, some .own, some .own, some .frz, none]) (M1 := [some .frz, some .own, some .own, some .frz, some .frz]) (mi := .frz) PassesOwn.never rfl (di_seq (m := .frz) rfl (eV (m := .frz) 0 rfl rfl (.inl rfl) rfl rfl)) (gN (i := 4) (M := [some .frz, some .own, some .own, some .frz, none]) (mi := .frz) rfl sc_sums_of.nd rfl (.inl rfl) (.inl rfl)) (dss_cons (M1 := [some .frz, some .own, some .own, some .frz, some .frz]) (ds_if (M' := [some .frz, some .own, some .own, some .frz, some .frz]) (dt_cmp (ma := .frz) rfl (o_eq hr.units) (de_ix (ma := .frz) rfl (eV (m := .frz) 4 rfl rfl (.inl rfl) rfl rfl) de_int (fun _ _ => rfl)) de_str (nomark _)) (dss_cons (M1 := [some .frz, some .own, some .own, some .frz, some .frz]) (ds_augItem (i := 1) (m := .own) rfl rfl (pe_var rfl (.inl rfl) rfl rfl) (eV (m := .frz) 3 rfl rfl (.inl rfl) rfl rfl) (de_ix (ma := .frz) rfl (eV (m := .frz) 4 rfl rfl (.inl rfl) rfl rfl) de_int (fun _ _ => rfl)) i_add (by intro _ _ _; rfl)) dss_nil) (dss_cons (M1 := [some .frz, some .own, some .own, some .frz, some .frz]) (ds_augItem (i := 2) (m := .own) rfl rfl (pe_var rfl (.inl rfl) rfl rfl) (de_c c_gap_of hr (by decide) (ms := [.frz, .frz]) rfl rfl (da_cons (m := .frz) rfl (eV (m := .frz) 4 rfl rfl (.inl rfl) rfl rfl) (da_cons (m := .frz) rfl (eV (m := .frz) 3 rfl rfl (.inl rfl) rfl rfl) da_nil rfl) rfl) rfl rfl rfl) (de_ix (ma := .frz) rfl (eV (m := .frz) 4 rfl rfl (.inl rfl) rfl rfl) de_int (fun _ _ => rfl)) i_add (by intro _ _ _; rfl)) dss_nil)) (dss_cons (M1 := [some .frz, some .own, some .own, some .frz, some .frz]) (ds_set (i := 3) (m := .frz) rfl sc_sums_of.nd rfl (.inl rfl) (de_op rfl o_mod (de_op rfl o_add (eV (m := .frz) 3 rfl rfl (.inl rfl) rfl rfl) (de_c c_turn_of hr (by decide) (ms := [.frz]) rfl rfl (da_cons (m := .frz) rfl (eV (m := .frz) 4 rfl rfl (.inl rfl) rfl rfl) da_nil rfl) rfl rfl rfl)) (de_glob T.k_HEADINGS rfl rfl)) rfl (.inl rfl)) (DSs.fin (.cons (.same _) (.cons (.same _) (.cons (.same _) (.cons (.same _) (.cons (.dead _) .nil))))) dss_nil))) (fun _ => rfl)) (dss_cons (M1 := [some .frz, none, none, none, none]) (ds_ret (m := .frz) .nil rfl (de_tup (ms := [.frz, .frz]) allF (by decide +kernel) (da_cons (m := .frz) rfl (de_callTy b_tuple rfl T.z_tuple (by decide +kernel) (ms := [.len]) (da_cons (m := .len) rfl (eV (m := .own) 1 rfl rfl (.inl rfl) rfl rfl) da_nil rfl) (by decide +kernel) (by decide +kernel) rfl rfl) (da_cons (m := .frz) rfl (de_callTy b_tuple rfl T.z_tuple (by decide +kernel) (ms := [.len]) (da_cons (m := .len) rfl (eV (m := .own) 2 rfl rfl (.inl rfl) rfl rfl) da_nil rfl) (by decide +kernel) (by decide +kernel) rfl rfl) da_nil rfl) rfl))) dss_nil)))
/-! opposite_less -/
def e1_opposite_less : CE := (c2 subD (c2 ixD (rd 0) (rd 1)) (c2 ixD (rd 0) (c2 addD (rd 1) (cst k_HALF))))
def den_opposite_less : CS := (seqS (rtS (cN tupleD (aCons (lcV (rgV rg1 (aCons (cst k_HALF) aNil)) (stS 1) [1] yesT e1_opposite_less) aNil))) skip)
def F_opposite_less := fnF den_opposite_less 2 1
theorem sc_opposite_less : FnScope ["row", "k"] ["row"] (defScope s_opposite_less) := ⟨rfl, rfl, rfl, by decide +kernel, rfl, by decide +kernel, by decide +kernel⟩
theorem c_opposite_less (T : Tx K mg) : Cl P w K mg base 1 "opposite_less" [.frz] .frz F_opposite_less := by
  exact Cl.of (M' := [some .frz, none]) T.d_opposite_less sc_opposite_less rfl rfl rfl fun f cdv A outer s H E B hr => (dss_cons (M1 := [some .frz, none]) (ds_ret (m := .frz) .nil rfl (de_callTy b_tuple rfl T.z_tuple (by decide +kernel) (ms := [.own]) (da_cons (m := .own) rfl (de_lc (own := [("k", 1)]) (M1 := [some .frz, some .frz]) (mi := .frz) rfl (by decide) rfl rfl sc_opposite_less.nd (di_range1 rfl T.z_range (ms := [.frz]) (da_cons (m := .frz) rfl (de_glob T.k_HALF rfl rfl) da_nil rfl) rfl) (blkOk_by (N := ["row", "k"]) (sc := defScope s_opposite_less) (own := [("k", 1)]) (by decide +kernel)) (fun _ _ _ _ _ => (gN (i := 1) (M := [some .frz, none]) (mi := .frz) rfl sc_opposite_less.nd rfl (.inl rfl) (.inr rfl))) (fun _ _ _ _ _ => dts_nil) (fun _ _ _ _ _ => (de_op rfl o_sub (de_ix (ma := .frz) rfl (eV (m := .frz) 0 rfl rfl (.inr (.inl rfl)) rfl rfl) (eV (m := .frz) 1 rfl rfl (.inl rfl) rfl rfl) (fun _ _ => rfl)) (de_ix (ma := .frz) rfl (eV (m := .frz) 0 rfl rfl (.inr (.inl rfl)) rfl rfl) (de_op rfl o_add (eV (m := .frz) 1 rfl rfl (.inl rfl) rfl rfl) (de_glob T.k_HALF rfl rfl)) (fun _ _ => rfl)))) (fun _ => rfl)) da_nil rfl) (by decide +kernel) (by decide +kernel) rfl rfl)) dss_nil)
/-! balance_of -/
def den_balance_of : CS := (seqS (rtS (tupV (aCons (cN F_opposite_less (aCons (c2 ixD (rd 0) (cst (.int 0))) aNil)) (aCons (cN F_opposite_less (aCons (c2 ixD (rd 0) (cst (.int 1))) aNil)) aNil)))) skip)
def F_balance_of := fnF den_balance_of 1 1
theorem sc_balance_of : FnScope ["sums"] ["sums"] (defScope s_balance_of) := ⟨rfl, rfl, rfl, by decide +kernel, rfl, by decide +kernel, by decide +kernel⟩
theorem c_balance_of (T : Tx K mg) : Cl P w K mg base 2 "balance_of" [.frz] .frz F_balance_of := by
  have c_opposite_less := c_opposite_less (P := P) (w := w) (base := base) T
  exact Cl.of (M' := [some .frz]) T.d_balance_of sc_balance_of rfl rfl rfl fun f cdv A outer s H E B hr => (dss_cons (M1 := [some .frz]) (ds_ret (m := .frz) .nil rfl (de_tup (ms := [.frz, .frz]) allF (by decide +kernel) (da_cons (m := .frz) rfl (de_c c_opposite_less hr (by decide) (ms := [.frz]) rfl rfl (da_cons (m := .frz) rfl (de_ix (ma := .frz) rfl (eV (m := .frz) 0 rfl rfl (.inl rfl) rfl rfl) de_int (fun _ _ => rfl)) da_nil rfl) rfl rfl rfl) (da_cons (m := .frz) rfl (de_c c_opposite_less hr (by decide) (ms := [.frz]) rfl rfl (da_cons (m := .frz) rfl (de_ix (ma := .frz) rfl (eV (m := .frz) 0 rfl rfl (.inl rfl) rfl rfl) de_int (fun _ _ => rfl)) da_nil rfl) rfl rfl rfl) da_nil rfl) rfl))) dss_nil)
/-! is_balanced -/
def den_is_balanced : CS := (seqS (asgS (tgT 2 (tCons' (stS 1) (tCons' (stS 2) tNil'))) (rd 0)) (seqS (rtS (c2 eqD (rd 1) (tupV (aCons (c2 subD (c2 ixD (rd 2) (cst (.int 2))) (c2 ixD (rd 2) (cst (.int 1)))) (aCons (c2 subD (c2 ixD (rd 2) (cst (.int 3))) (c2 ixD (rd 2) (cst (.int 2)))) (aCons (c2 subD (c1 negD (c2 ixD (rd 2) (cst (.int 0)))) (c2 ixD (rd 2) (cst (.int 3)))) (aCons (c2 subD (c2 ixD (rd 2) (cst (.int 0))) (c2 ixD (rd 2) (cst (.int 1)))) aNil))))))) skip))
def F_is_balanced := fnF den_is_balanced 3 1
theorem sc_is_balanced : FnScope ["balance", "a", "b"] ["balance"] (defScope s_is_balanced) := ⟨rfl, rfl, rfl, by decide +kernel, rfl, by decide +kernel, by decide +kernel⟩
theorem c_is_balanced (T : Tx K mg) : Cl P w K mg base 1 "is_balanced" [.frz] .frz F_is_balanced := by
  exact Cl.of (M' := [some .frz, none, none]) T.d_is_balanced sc_is_balanced rfl rfl rfl fun f cdv A outer s H E B hr => (dss_cons (M1 := [some .frz, some .frz, some .frz]) (ds_asg (m := .frz) (eV (m := .frz) 0 rfl rfl (.inl rfl) rfl rfl) (dg_tup rfl (dgs_cons (gN (i := 1) (M := [some .frz, none, none]) (mi := .frz) rfl sc_is_balanced.nd rfl (.inl rfl) (.inl rfl)) (dgs_cons (gN (i := 2) (M := [some .frz, some .frz, none]) (mi := .frz) rfl sc_is_balanced.nd rfl (.inl rfl) (.inl rfl)) dgs_nil rfl) rfl) rfl rfl) rfl rfl rfl) (dss_cons (M1 := [some .frz, none, none]) (ds_ret (m := .frz) .nil rfl (de_cmp (ma := .frz) rfl (o_eq hr.units) (eV (m := .frz) 1 rfl rfl (.inl rfl) rfl rfl) (de_tup (ms := [.frz, .frz, .frz, .frz]) allF (by decide +kernel) (da_cons (m := .frz) rfl (de_op rfl o_sub (de_ix (ma := .frz) rfl (eV (m := .frz) 2 rfl rfl (.inl rfl) rfl rfl) de_int (fun _ _ => rfl)) (de_ix (ma := .frz) rfl (eV (m := .frz) 2 rfl rfl (.inl rfl) rfl rfl) de_int (fun _ _ => rfl))) (da_cons (m := .frz) rfl (de_op rfl o_sub (de_ix (ma := .frz) rfl (eV (m := .frz) 2 rfl rfl (.inl rfl) rfl rfl) de_int (fun _ _ => rfl)) (de_ix (ma := .frz) rfl (eV (m := .frz) 2 rfl rfl (.inl rfl) rfl rfl) de_int (fun _ _ => rfl))) (da_cons (m := .frz) rfl (de_op rfl o_sub (de_un o_neg (de_ix (ma := .frz) rfl (eV (m := .frz) 2 rfl rfl (.inl rfl) rfl rfl) de_int (fun _ _ => rfl))) (de_ix (ma := .frz) rfl (eV (m := .frz) 2 rfl rfl (.inl rfl) rfl rfl) de_int (fun _ _ => rfl))) (da_cons (m := .frz) rfl (de_op rfl o_sub (de_ix (ma := .frz) rfl (eV (m := .frz) 2 rfl rfl (.inl rfl) rfl rfl) de_int (fun _ _ => rfl)) (de_ix (ma := .frz) rfl (eV (m := .frz) 2 rfl rfl (.inl rfl) rfl rfl) de_int (fun _ _ => rfl))) da_nil rfl) rfl) rfl) rfl)) (nomark _))) dss_nil))
/-! _law_mix -/
theorem sc__law_mix : FnScope ["number"] ["number"] (defScope s__law_mix) := ⟨rfl, rfl, rfl, by decide +kernel, rfl, by decide +kernel, by decide +kernel⟩
theorem c__law_mix (T : Tx K mg) : Cl P w K mg base 1 "_law_mix" [.frz] .frz F__law_mix := by
  exact Cl.of (M' := [some .frz]) T.d__law_mix sc__law_mix rfl rfl rfl fun f cdv A outer s H E B hr => (dss_cons (M1 := [some .frz]) (ds_set (i := 0) (m := .frz) rfl sc__law_mix.nd rfl (.inl rfl) (de_op rfl o_mod (de_callTy b_int rfl T.z_int (by decide +kernel) (ms := [.own]) (da_cons (m := .own) rfl (de_op rfl o_add (de_op rfl o_mul (eV (m := .frz) 0 rfl rfl (.inl rfl) rfl rfl) de_int) de_int) da_nil rfl) (by decide +kernel) (by decide +kernel) rfl rfl) de_int) rfl (.inl rfl)) (dss_cons (M1 := [some .frz]) (ds_ret (m := .frz) .nil rfl (de_op rfl o_mod (de_callTy b_int rfl T.z_int (by decide +kernel) (ms := [.own]) (da_cons (m := .own) rfl (de_op rfl o_add (de_op rfl o_fdiv (de_op rfl o_mul (eV (m := .frz) 0 rfl rfl (.inl rfl) rfl rfl) (eV (m := .frz) 0 rfl rfl (.inl rfl) rfl rfl)) de_int) (de_op rfl o_mul (eV (m := .frz) 0 rfl rfl (.inl rfl) rfl rfl) de_int)) da_nil rfl) (by decide +kernel) (by decide +kernel) rfl rfl) de_int)) dss_nil))
/-! _law_tape -/
theorem sc__law_tape : FnScope ["script"] ["script"] (defScope s__law_tape) := ⟨rfl, rfl, rfl, by decide +kernel, rfl, by decide +kernel, by decide +kernel⟩
theorem c__law_tape (T : Tx K mg) : Cl P w K mg base 1 "_law_tape" [.frz] .own F__law_tape := by
  exact Cl.of (M' := [some .frz]) T.d__law_tape sc__law_tape rfl rfl rfl fun f cdv A outer s H E B hr => (dss_cons (M1 := [some .frz]) (ds_ret (m := .own) .nil rfl (de_lst (ms := [.frz, .frz, .frz, .frz]) allF (by decide +kernel) (da_cons (m := .frz) rfl (DE.frzOf (de_callTy b_list rfl T.z_list (by decide +kernel) (ms := [.own]) (da_cons (m := .own) rfl (de_slice (ma := .frz) rfl rfl (eV (m := .frz) 0 rfl rfl (.inl rfl) rfl rfl) dp_none (dp_some (m := .frz) de_int)) da_nil rfl) (by decide +kernel) (by decide +kernel) rfl rfl)) (da_cons (m := .frz) rfl de_int (da_cons (m := .frz) rfl de_int (da_cons (m := .frz) rfl (DE.frzOf (de_op rfl o_add de_int (de_callB b_len rfl T.z_len (by decide +kernel) (ms := [.frz]) (da_cons (m := .frz) rfl (eV (m := .frz) 0 rfl rfl (.inl rfl) rfl rfl) da_nil rfl) (by decide +kernel) (by decide +kernel) rfl rfl))) da_nil rfl) rfl) rfl) rfl))) dss_nil)
/-! _law_take -/
theorem sc__law_take : FnScope ["tape", "many", "cell", "digit"] ["tape", "many"] (defScope s__law_take) := ⟨rfl, rfl, rfl, by decide +kernel, rfl, by decide +kernel, by decide +kernel⟩
theorem c__law_take (T : Tx K mg) : ClI P w K mg base 2 "_law_take" [.frz] .frz F__law_take := by
  have c__law_mix := c__law_mix (P := P) (w := w) (base := base) T
  exact ClI.of T.d__law_take sc__law_take rfl rfl rfl (by decide) fun f a cdv A outer s H E B hr => DSs.fin (M' := [some (.io a), some .frz, none, none]) (.cons (.same _) .nil) (dss_cons (M1 := [some (.io a), some .frz, none, none]) (ds_if (M' := [some (.io a), some .frz, none, none]) (dt_cmp (ma := .len) rfl (o_lt hr.units) (de_ix (ma := .len) rfl (eV (m := (.io a)) 0 rfl rfl (.inl rfl) rfl rfl) de_int (fun _ _ => rfl)) (eV (m := .frz) 1 rfl rfl (.inl rfl) rfl rfl) (nomark _)) (dss_cons (M1 := [some (.io a), some .frz, none, none]) (ds_if (M' := [some (.io a), some .frz, none, none]) (dt_cmp (ma := .len) rfl (o_lt hr.units) (de_ix (ma := .len) rfl (eV (m := (.io a)) 0 rfl rfl (.inl rfl) rfl rfl) de_int (fun _ _ => rfl)) (de_callB b_len rfl T.z_len (by decide +kernel) (ms := [.len]) (da_cons (m := .len) rfl (de_ix (ma := .len) rfl (eV (m := (.io a)) 0 rfl rfl (.inl rfl) rfl rfl) de_int (fun _ _ => rfl)) da_nil rfl) (by decide +kernel) (by decide +kernel) rfl rfl) (nomark _)) (dss_cons (M1 := [some (.io a), some .frz, some .frz, none]) (ds_set (i := 2) (m := .frz) rfl sc__law_take.nd rfl (.inl rfl) (DE.immOf (m := .len) (de_ix (ma := .len) rfl (de_ix (ma := .len) rfl (eV (m := (.io a)) 0 rfl rfl (.inl rfl) rfl rfl) de_int (fun _ _ => rfl)) (de_ix (ma := .len) rfl (eV (m := (.io a)) 0 rfl rfl (.inl rfl) rfl rfl) de_int (fun _ _ => rfl)) (fun _ _ => rfl))) rfl (.inl rfl)) (dss_cons (M1 := [some (.io a), some .frz, some .frz, none]) (ds_set (i := 2) (m := .frz) rfl sc__law_take.nd rfl (.inl rfl) (de_if (dt_cmp (ma := .frz) rfl o_ge (eV (m := .frz) 2 rfl rfl (.inl rfl) rfl rfl) de_int (nomark _)) (DE.frzOf (de_op rfl o_mul de_int (eV (m := .frz) 2 rfl rfl (.inl rfl) rfl rfl))) (de_op rfl o_sub (de_op rfl o_mul (de_un o_neg de_int) (eV (m := .frz) 2 rfl rfl (.inl rfl) rfl rfl)) de_int)) rfl (.inl rfl)) (dss_cons (M1 := [some (.io a), some .frz, some .frz, none]) (ds_setItem (i := 0) (m := (.io a)) rfl rfl (pe_var rfl (.inl rfl) rfl rfl) (DE.frzOf (de_op rfl o_add (de_ix (ma := .len) rfl (eV (m := (.io a)) 0 rfl rfl (.inl rfl) rfl rfl) de_int (fun _ _ => rfl)) de_int)) de_int (by intro _; rfl) rfl rfl rfl) (dss_cons (M1 := [some (.io a), some .frz, some .frz, none]) (ds_setItem (i := 0) (m := (.io a)) rfl rfl (pe_var rfl (.inl rfl) rfl rfl) (de_c c__law_mix hr (by decide) (ms := [.frz]) rfl rfl (da_cons (m := .frz) rfl (DE.frzOf (de_op rfl o_add (de_ix (ma := .len) rfl (eV (m := (.io a)) 0 rfl rfl (.inl rfl) rfl rfl) de_int (fun _ _ => rfl)) (eV (m := .frz) 2 rfl rfl (.inl rfl) rfl rfl))) da_nil rfl) rfl rfl rfl) de_int (by intro _; rfl) rfl rfl rfl) (dss_cons (M1 := [some (.io a), some .frz, some .frz, none]) (ds_setItem (i := 0) (m := (.io a)) rfl rfl (pe_var rfl (.inl rfl) rfl rfl) (de_if (dt_cmp (ma := .frz) rfl o_ge (eV (m := .frz) 2 rfl rfl (.inl rfl) rfl rfl) (de_op rfl o_pow de_int de_int) (nomark _)) (eV (m := .frz) 2 rfl rfl (.inl rfl) rfl rfl) (de_c c__law_mix hr (by decide) (ms := [.frz]) rfl rfl (da_cons (m := .frz) rfl (DE.frzOf (de_op rfl o_add (de_c c__law_mix hr (by decide) (ms := [.frz]) rfl rfl (da_cons (m := .frz) rfl (eV (m := .frz) 2 rfl rfl (.inl rfl) rfl rfl) da_nil rfl) rfl rfl rfl) (de_ix (ma := .len) rfl (eV (m := (.io a)) 0 rfl rfl (.inl rfl) rfl rfl) de_int (fun _ _ => rfl)))) da_nil rfl) rfl rfl rfl)) de_int (by intro _; rfl) rfl rfl rfl) (DSs.fin (.cons (.same _) (.cons (.same _) (.cons (.dead _) (.cons (.same _) .nil)))) dss_nil)))))) (dss_cons (M1 := [some (.io a), some .frz, none, none]) (ds_setItem (i := 0) (m := (.io a)) rfl rfl (pe_var rfl (.inl rfl) rfl rfl) (de_c c__law_mix hr (by decide) (ms := [.frz]) rfl rfl (da_cons (m := .frz) rfl (DE.frzOf (de_op rfl o_add (de_ix (ma := .len) rfl (eV (m := (.io a)) 0 rfl rfl (.inl rfl) rfl rfl) de_int (fun _ _ => rfl)) de_int)) da_nil rfl) rfl rfl rfl) de_int (by intro _; rfl) rfl rfl rfl) (dss_cons (M1 := [some (.io a), some .frz, none, none]) (ds_setItem (i := 0) (m := (.io a)) rfl rfl (pe_var rfl (.inl rfl) rfl rfl) (DE.immOf (m := .len) (de_ix (ma := .len) rfl (eV (m := (.io a)) 0 rfl rfl (.inl rfl) rfl rfl) de_int (fun _ _ => rfl))) de_int (by intro _; rfl) rfl rfl rfl) dss_nil))) dss_nil) dss_nil) (dss_cons (M1 := [some (.io a), some .frz, none, some .frz]) (ds_set (i := 3) (m := .frz) rfl sc__law_take.nd rfl (.inl rfl) (de_op rfl o_mod (de_callTy b_int rfl T.z_int (by decide +kernel) (ms := [.len]) (da_cons (m := .len) rfl (de_ix (ma := .len) rfl (eV (m := (.io a)) 0 rfl rfl (.inl rfl) rfl rfl) de_int (fun _ _ => rfl)) da_nil rfl) (by decide +kernel) (by decide +kernel) rfl rfl) (eV (m := .frz) 1 rfl rfl (.inl rfl) rfl rfl)) rfl (.inl rfl)) (dss_cons (M1 := [some (.io a), some .frz, none, some .frz]) (ds_setItem (i := 0) (m := (.io a)) rfl rfl (pe_var rfl (.inl rfl) rfl rfl) (de_op rfl o_fdiv (de_ix (ma := .len) rfl (eV (m := (.io a)) 0 rfl rfl (.inl rfl) rfl rfl) de_int (fun _ _ => rfl)) (eV (m := .frz) 1 rfl rfl (.inl rfl) rfl rfl)) de_int (by intro _; rfl) rfl rfl rfl) (dss_cons (M1 := [some (.io a), some .frz, none, none]) (ds_ret (m := .frz) (.cons (.same _) .nil) rfl (eV (m := .frz) 3 rfl rfl (.inl rfl) rfl rfl)) dss_nil))))
/-! _law_same -/
theorem sc__law_same : FnScope ["a", "b", "k"] ["a", "b"] (defScope s__law_same) := ⟨rfl, rfl, rfl, by decide +kernel, rfl, by decide +kernel, by decide +kernel⟩
theorem c__law_same (T : Tx K mg) (n : Nat) : Cl P w K mg base (n + 0) "_law_same" [.frz, .frz] .frz (F__law_same n) := by
  induction n with
  | zero => exact (Cl.zero T.d__law_same).up (Nat.zero_le _)
  | succ n crec =>
    rw [Nat.add_right_comm]
    exact Cl.of T.d__law_same sc__law_same rfl rfl rfl fun f cdv A outer s H E B hr => (dss_cons (M1 := [some .frz, some .frz, none]) (ds_if (M' := [some .frz, some .frz, none]) (dt_bool (dw_or (dt_bool (dw_and (dt_val (m := .frz) (de_isi (m := .frz) (T := "tuple") rfl rfl T.z_isinstance rfl T.z_tuple (by decide +kernel) (by decide +kernel) rfl (eV (m := .frz) 0 rfl rfl (.inr (.inl rfl)) rfl rfl) rfl rfl rfl) (fun _ => rfl)) (dw_and1 (dt_val (m := .frz) (de_isi (m := .frz) (T := "tuple") rfl rfl T.z_isinstance rfl T.z_tuple (by decide +kernel) (by decide +kernel) rfl (eV (m := .frz) 1 rfl rfl (.inr (.inl rfl)) rfl rfl) rfl rfl rfl) (fun _ => rfl))))) (dw_or1 (dt_bool (dw_and (dt_val (m := .frz) (de_isi (m := .frz) (T := "list") rfl rfl T.z_isinstance rfl T.z_list (by decide +kernel) (by decide +kernel) rfl (eV (m := .frz) 0 rfl rfl (.inr (.inl rfl)) rfl rfl) rfl rfl rfl) (fun _ => rfl)) (dw_and1 (dt_val (m := .frz) (de_isi (m := .frz) (T := "list") rfl rfl T.z_isinstance rfl T.z_list (by decide +kernel) (by decide +kernel) rfl (eV (m := .frz) 1 rfl rfl (.inr (.inl rfl)) rfl rfl) rfl rfl rfl) (fun _ => rfl)))))))) (dss_cons (M1 := [some .frz, some .frz, none]) (ds_ret (m := .frz) .nil rfl (de_and (de_cmp (ma := .frz) rfl (o_eq hr.units) (de_callB b_len rfl T.z_len (by decide +kernel) (ms := [.frz]) (da_cons (m := .frz) rfl (eV (m := .frz) 0 rfl rfl (.inr (.inl rfl)) rfl rfl) da_nil rfl) (by decide +kernel) (by decide +kernel) rfl rfl) (de_callB b_len rfl T.z_len (by decide +kernel) (ms := [.frz]) (da_cons (m := .frz) rfl (eV (m := .frz) 1 rfl rfl (.inr (.inl rfl)) rfl rfl) da_nil rfl) (by decide +kernel) (by decide +kernel) rfl rfl) (nomark _)) (de_one (de_callB (b_all rfl) rfl T.z_all (by decide +kernel) (ms := [.own]) (da_cons (m := .own) rfl (de_lc (own := [("k", 2)]) (M1 := [some .frz, some .frz, some .frz]) (mi := .frz) rfl (by decide) rfl rfl sc__law_same.nd (di_range1 rfl T.z_range (ms := [.frz]) (da_cons (m := .frz) rfl (de_callB b_len rfl T.z_len (by decide +kernel) (ms := [.frz]) (da_cons (m := .frz) rfl (eV (m := .frz) 0 rfl rfl (.inr (.inl rfl)) rfl rfl) da_nil rfl) (by decide +kernel) (by decide +kernel) rfl rfl) da_nil rfl) rfl) (blkOk_by (N := ["a", "b", "k"]) (sc := defScope s__law_same) (own := [("k", 2)]) (by decide +kernel)) (fun _ _ _ _ _ => (gN (i := 2) (M := [some .frz, some .frz, none]) (mi := .frz) rfl sc__law_same.nd rfl (.inl rfl) (.inr rfl))) (fun _ _ _ _ _ => dts_nil) (fun _ _ _ _ _ => (de_c crec hr (Nat.le_refl _) (ms := [.frz, .frz]) rfl rfl (da_cons (m := .frz) rfl (de_ix (ma := .frz) rfl (eV (m := .frz) 0 rfl rfl (.inr (.inl rfl)) rfl rfl) (eV (m := .frz) 2 rfl rfl (.inl rfl) rfl rfl) (fun _ _ => rfl)) (da_cons (m := .frz) rfl (de_ix (ma := .frz) rfl (eV (m := .frz) 1 rfl rfl (.inr (.inl rfl)) rfl rfl) (eV (m := .frz) 2 rfl rfl (.inl rfl) rfl rfl) (fun _ _ => rfl)) da_nil rfl) rfl) rfl rfl rfl)) (fun _ => rfl)) da_nil rfl) (by decide +kernel) (by decide +kernel) rfl rfl)))) dss_nil) dss_nil) (dss_cons (M1 := [some .frz, some .frz, none]) (ds_if (M' := [some .frz, some .frz, none]) (dt_bool (dw_or (dt_val (m := .frz) (de_isi (m := .frz) (T := "bool") rfl rfl T.z_isinstance rfl T.z_bool (by decide +kernel) (by decide +kernel) rfl (eV (m := .frz) 0 rfl rfl (.inr (.inl rfl)) rfl rfl) rfl rfl rfl) (fun _ => rfl)) (dw_or1 (dt_val (m := .frz) (de_isi (m := .frz) (T := "bool") rfl rfl T.z_isinstance rfl T.z_bool (by decide +kernel) (by decide +kernel) rfl (eV (m := .frz) 1 rfl rfl (.inr (.inl rfl)) rfl rfl) rfl rfl rfl) (fun _ => rfl))))) (dss_cons (M1 := [some .frz, some .frz, none]) (ds_ret (m := .frz) .nil rfl (de_and (de_isi (m := .frz) (T := "bool") rfl rfl T.z_isinstance rfl T.z_bool (by decide +kernel) (by decide +kernel) rfl (eV (m := .frz) 0 rfl rfl (.inr (.inl rfl)) rfl rfl) rfl rfl rfl) (de_and (de_isi (m := .frz) (T := "bool") rfl rfl T.z_isinstance rfl T.z_bool (by decide +kernel) (by decide +kernel) rfl (eV (m := .frz) 1 rfl rfl (.inr (.inl rfl)) rfl rfl) rfl rfl rfl) (de_one (de_cmp (ma := .frz) rfl (o_eq hr.units) (eV (m := .frz) 0 rfl rfl (.inr (.inl rfl)) rfl rfl) (eV (m := .frz) 1 rfl rfl (.inr (.inl rfl)) rfl rfl) (nomark _)))))) dss_nil) dss_nil) (dss_cons (M1 := [some .frz, some .frz, none]) (ds_if (M' := [some .frz, some .frz, none]) (dt_bool (dw_or (dt_bool (dw_and (dt_val (m := .frz) (de_isi (m := .frz) (T := "int") rfl rfl T.z_isinstance rfl T.z_int (by decide +kernel) (by decide +kernel) rfl (eV (m := .frz) 0 rfl rfl (.inr (.inl rfl)) rfl rfl) rfl rfl rfl) (fun _ => rfl)) (dw_and1 (dt_val (m := .frz) (de_isi (m := .frz) (T := "int") rfl rfl T.z_isinstance rfl T.z_int (by decide +kernel) (by decide +kernel) rfl (eV (m := .frz) 1 rfl rfl (.inr (.inl rfl)) rfl rfl) rfl rfl rfl) (fun _ => rfl))))) (dw_or1 (dt_bool (dw_and (dt_val (m := .frz) (de_isi (m := .frz) (T := "str") rfl rfl T.z_isinstance rfl T.z_str (by decide +kernel) (by decide +kernel) rfl (eV (m := .frz) 0 rfl rfl (.inr (.inl rfl)) rfl rfl) rfl rfl rfl) (fun _ => rfl)) (dw_and1 (dt_val (m := .frz) (de_isi (m := .frz) (T := "str") rfl rfl T.z_isinstance rfl T.z_str (by decide +kernel) (by decide +kernel) rfl (eV (m := .frz) 1 rfl rfl (.inr (.inl rfl)) rfl rfl) rfl rfl rfl) (fun _ => rfl)))))))) (dss_cons (M1 := [some .frz, some .frz, none]) (ds_ret (m := .frz) .nil rfl (de_cmp (ma := .frz) rfl (o_eq hr.units) (eV (m := .frz) 0 rfl rfl (.inr (.inl rfl)) rfl rfl) (eV (m := .frz) 1 rfl rfl (.inr (.inl rfl)) rfl rfl) (nomark _))) dss_nil) dss_nil) (dss_cons (M1 := [some .frz, some .frz, none]) (ds_ret (m := .frz) .nil rfl (de_and (de_cmp (ma := .frz) rfl o_is (eV (m := .frz) 0 rfl rfl (.inr (.inl rfl)) rfl rfl) de_non (nomark _)) (de_one (de_cmp (ma := .frz) rfl o_is (eV (m := .frz) 1 rfl rfl (.inr (.inl rfl)) rfl rfl) de_non (nomark _))))) dss_nil))))
/-! _law_turned -/
theorem sc__law_turned : FnScope ["spot", "k", "step"] ["spot", "k"] (defScope s__law_turned) := ⟨rfl, rfl, rfl, by decide +kernel, rfl, by decide +kernel, by decide +kernel⟩
theorem c__law_turned (T : Tx K mg) : Cl P w K mg base 1 "_law_turned" [.frz, .frz] .frz F__law_turned := by
  exact Cl.of (M' := [some .frz, some .frz, none]) T.d__law_turned sc__law_turned rfl rfl rfl fun f cdv A outer s H E B hr => (dss_cons (M1 := [some .frz, some .frz, none]) (ds_for (M := [some .frz, some .frz, none]) (M1 := [some .frz, some .frz, some .frz]) (mi := .frz) PassesOwn.never rfl (di_range1 rfl T.z_range (ms := [.frz]) (da_cons (m := .frz) rfl (de_op rfl o_sub (eV (m := .frz) 1 rfl rfl (.inl rfl) rfl rfl) (de_op rfl o_mul (de_op rfl o_fdiv (eV (m := .frz) 1 rfl rfl (.inl rfl) rfl rfl) de_int) de_int)) da_nil rfl) rfl) (gN (i := 2) (M := [some .frz, some .frz, none]) (mi := .frz) rfl sc__law_turned.nd rfl (.inl rfl) (.inl rfl)) (dss_cons (M1 := [some .frz, some .frz, some .frz]) (ds_set (i := 0) (m := .frz) rfl sc__law_turned.nd rfl (.inl rfl) (de_tup (ms := [.frz, .frz, .frz, .frz]) allF (by decide +kernel) (da_cons (m := .frz) rfl (de_op rfl o_sub de_int (de_ix (ma := .frz) rfl (eV (m := .frz) 0 rfl rfl (.inl rfl) rfl rfl) de_int (fun _ _ => rfl))) (da_cons (m := .frz) rfl (de_ix (ma := .frz) rfl (eV (m := .frz) 0 rfl rfl (.inl rfl) rfl rfl) de_int (fun _ _ => rfl)) (da_cons (m := .frz) rfl (de_ix (ma := .frz) rfl (eV (m := .frz) 0 rfl rfl (.inl rfl) rfl rfl) de_int (fun _ _ => rfl)) (da_cons (m := .frz) rfl (de_ix (ma := .frz) rfl (eV (m := .frz) 0 rfl rfl (.inl rfl) rfl rfl) de_int (fun _ _ => rfl)) da_nil rfl) rfl) rfl) rfl)) rfl (.inl rfl)) (DSs.fin (.cons (.same _) (.cons (.same _) (.cons (.dead _) .nil))) dss_nil)) (fun _ => rfl)) (dss_cons (M1 := [some .frz, some .frz, none]) (ds_ret (m := .frz) .nil rfl (eV (m := .frz) 0 rfl rfl (.inl rfl) rfl rfl)) dss_nil))
/-! _law_behind -/
theorem sc__law_behind : FnScope ["pose", "piece", "spot", "heading", "kind", "n", "step", "turn", "out", "back", "there", "k"] ["pose", "piece"] (defScope s__law_behind) := ⟨rfl, rfl, rfl, by decide +kernel, rfl, by decide +kernel, by decide +kernel⟩
theorem c__law_behind (T : Tx K mg) : Cl P w K mg base 2 "_law_behind" [.frz, .frz] .frz F__law_behind := by
  have c__law_turned := c__law_turned (P := P) (w := w) (base := base) T
  exact Cl.of (M' := [some .frz, some .frz, none, none, none, none, none, none, none, none, none, none]) T.d__law_behind sc__law_behind rfl rfl rfl fun f cdv A outer s H E B hr => (dss_cons (M1 := [some .frz, some .frz, some .frz, some .frz, none, none, none, none, none, none, none, none]) (ds_asg (m := .frz) (eV (m := .frz) 0 rfl rfl (.inl rfl) rfl rfl) (dg_tup rfl (dgs_cons (gN (i := 2) (M := [some .frz, some .frz, none, none, none, none, none, none, none, none, none, none]) (mi := .frz) rfl sc__law_behind.nd rfl (.inr rfl) (.inl rfl)) (dgs_cons (gN (i := 3) (M := [some .frz, some .frz, some .frz, none, none, none, none, none, none, none, none, none]) (mi := .frz) rfl sc__law_behind.nd rfl (.inl rfl) (.inl rfl)) dgs_nil rfl) rfl) rfl rfl) rfl rfl rfl) (dss_cons (M1 := [some .frz, some .frz, some .frz, some .frz, some .frz, some .frz, none, none, none, none, none, none]) (ds_asg (m := .frz) (eV (m := .frz) 1 rfl rfl (.inl rfl) rfl rfl) (dg_tup rfl (dgs_cons (gN (i := 4) (M := [some .frz, some .frz, some .frz, some .frz, none, none, none, none, none, none, none, none]) (mi := .frz) rfl sc__law_behind.nd rfl (.inl rfl) (.inl rfl)) (dgs_cons (gN (i := 5) (M := [some .frz, some .frz, some .frz, some .frz, some .frz, none, none, none, none, none, none, none]) (mi := .frz) rfl sc__law_behind.nd rfl (.inl rfl) (.inl rfl)) dgs_nil rfl) rfl) rfl rfl) rfl rfl rfl) (dss_cons (M1 := [some .frz, some .frz, some .frz, some .frz, some .frz, some .frz, some .frz, some .frz, none, none, none, none]) (ds_if (M' := [some .frz, some .frz, some .frz, some .frz, some .frz, some .frz, some .frz, some .frz, none, none, none, none]) (dt_cmp (ma := .frz) rfl (o_eq hr.units) (eV (m := .frz) 4 rfl rfl (.inl rfl) rfl rfl) de_str (nomark _)) (dss_cons (M1 := [some .frz, some .frz, some .frz, some .frz, some .frz, some .frz, some .frz, some .frz, none, none, none, none]) (ds_asg (m := .frz) (de_tup (ms := [.frz, .frz]) allF (by decide +kernel) (da_cons (m := .frz) rfl (de_c c__law_turned hr (by decide) (ms := [.frz, .frz]) rfl rfl (da_cons (m := .frz) rfl (de_tup (ms := [.frz, .frz, .frz, .frz]) allF (by decide +kernel) (da_cons (m := .frz) rfl (eV (m := .frz) 5 rfl rfl (.inl rfl) rfl rfl) (da_cons (m := .frz) rfl de_int (da_cons (m := .frz) rfl de_int (da_cons (m := .frz) rfl de_int da_nil rfl) rfl) rfl) rfl)) (da_cons (m := .frz) rfl (eV (m := .frz) 3 rfl rfl (.inl rfl) rfl rfl) da_nil rfl) rfl) rfl rfl rfl) (da_cons (m := .frz) rfl de_int da_nil rfl) rfl)) (dg_tup rfl (dgs_cons (gN (i := 6) (M := [some .frz, some .frz, some .frz, some .frz, some .frz, some .frz, none, none, none, none, none, none]) (mi := .frz) rfl sc__law_behind.nd rfl (.inr rfl) (.inl rfl)) (dgs_cons (gN (i := 7) (M := [some .frz, some .frz, some .frz, some .frz, some .frz, some .frz, some .frz, none, none, none, none, none]) (mi := .frz) rfl sc__law_behind.nd rfl (.inl rfl) (.inl rfl)) dgs_nil rfl) rfl) rfl rfl) rfl rfl rfl) dss_nil) (dss_cons (M1 := [some .frz, some .frz, some .frz, some .frz, some .frz, some .frz, none, some .frz, none, none, none, none]) (ds_set (i := 7) (m := .frz) rfl sc__law_behind.nd rfl (.inl rfl) (de_if (dt_cmp (ma := .frz) rfl (o_eq hr.units) (eV (m := .frz) 4 rfl rfl (.inl rfl) rfl rfl) de_str (nomark _)) de_int (de_un o_neg de_int)) rfl (.inl rfl)) (dss_cons (M1 := [some .frz, some .frz, some .frz, some .frz, some .frz, some .frz, none, some .frz, some .frz, some .frz, none, none]) (ds_asg (m := .frz) (de_tup (ms := [.frz, .frz]) allF (by decide +kernel) (da_cons (m := .frz) rfl (de_c c__law_turned hr (by decide) (ms := [.frz, .frz]) rfl rfl (da_cons (m := .frz) rfl (de_tup (ms := [.frz, .frz, .frz, .frz]) allF (by decide +kernel) (da_cons (m := .frz) rfl (eV (m := .frz) 5 rfl rfl (.inl rfl) rfl rfl) (da_cons (m := .frz) rfl de_int (da_cons (m := .frz) rfl de_int (da_cons (m := .frz) rfl de_int da_nil rfl) rfl) rfl) rfl)) (da_cons (m := .frz) rfl (DE.frzOf (de_op rfl o_add (de_op rfl o_add (eV (m := .frz) 3 rfl rfl (.inl rfl) rfl rfl) de_int) (de_op rfl o_mul de_int (eV (m := .frz) 7 rfl rfl (.inl rfl) rfl rfl)))) da_nil rfl) rfl) rfl rfl rfl) (da_cons (m := .frz) rfl (de_c c__law_turned hr (by decide) (ms := [.frz, .frz]) rfl rfl (da_cons (m := .frz) rfl (de_tup (ms := [.frz, .frz, .frz, .frz]) allF (by decide +kernel) (da_cons (m := .frz) rfl (eV (m := .frz) 5 rfl rfl (.inl rfl) rfl rfl) (da_cons (m := .frz) rfl de_int (da_cons (m := .frz) rfl de_int (da_cons (m := .frz) rfl de_int da_nil rfl) rfl) rfl) rfl)) (da_cons (m := .frz) rfl (de_op rfl o_sub (de_op rfl o_add (eV (m := .frz) 3 rfl rfl (.inl rfl) rfl rfl) de_int) (eV (m := .frz) 7 rfl rfl (.inl rfl) rfl rfl)) da_nil rfl) rfl) rfl rfl rfl) da_nil rfl) rfl)) (dg_tup rfl (dgs_cons (gN (i := 8) (M := [some .frz, some .frz, some .frz, some .frz, some .frz, some .frz, none, some .frz, none, none, none, none]) (mi := .frz) rfl sc__law_behind.nd rfl (.inr rfl) (.inl rfl)) (dgs_cons (gN (i := 9) (M := [some .frz, some .frz, some .frz, some .frz, some .frz, some .frz, none, some .frz, some .frz, none, none, none]) (mi := .frz) rfl sc__law_behind.nd rfl (.inr rfl) (.inl rfl)) dgs_nil rfl) rfl) rfl rfl) rfl rfl rfl) (dss_cons (M1 := [some .frz, some .frz, some .frz, some .frz, some .frz, some .frz, some .frz, some .frz, some .frz, some .frz, none, none]) (ds_set (i := 6) (m := .frz) rfl sc__law_behind.nd rfl (.inr rfl) (de_callTy b_tuple rfl T.z_tuple (by decide +kernel) (ms := [.own]) (da_cons (m := .own) rfl (de_lc (own := [("k", 11)]) (M1 := [some .frz, some .frz, some .frz, some .frz, some .frz, some .frz, none, some .frz, some .frz, some .frz, none, some .frz]) (mi := .frz) rfl (by decide) rfl rfl sc__law_behind.nd (di_range1 rfl T.z_range (ms := [.frz]) (da_cons (m := .frz) rfl de_int da_nil rfl) rfl) (blkOk_by (N := ["pose", "piece", "spot", "heading", "kind", "n", "step", "turn", "out", "back", "there", "k"]) (sc := defScope s__law_behind) (own := [("k", 11)]) (by decide +kernel)) (fun _ _ _ _ _ => (gN (i := 11) (M := [some .frz, some .frz, some .frz, some .frz, some .frz, some .frz, none, some .frz, some .frz, some .frz, none, none]) (mi := .frz) rfl sc__law_behind.nd rfl (.inl rfl) (.inr rfl))) (fun _ _ _ _ _ => dts_nil) (fun _ _ _ _ _ => (DE.frzOf (de_op rfl o_add (de_ix (ma := .frz) rfl (eV (m := .frz) 8 rfl rfl (.inr (.inl rfl)) rfl rfl) (eV (m := .frz) 11 rfl rfl (.inl rfl) rfl rfl) (fun _ _ => rfl)) (de_ix (ma := .frz) rfl (eV (m := .frz) 9 rfl rfl (.inr (.inl rfl)) rfl rfl) (eV (m := .frz) 11 rfl rfl (.inl rfl) rfl rfl) (fun _ _ => rfl))))) (fun _ => rfl)) da_nil rfl) (by decide +kernel) (by decide +kernel) rfl rfl) rfl (.inl rfl)) (DSs.fin (.cons (.same _) (.cons (.same _) (.cons (.same _) (.cons (.same _) (.cons (.same _) (.cons (.same _) (.cons (.same _) (.cons (.same _) (.cons (.dead _) (.cons (.dead _) (.cons (.same _) (.cons (.same _) .nil)))))))))))) dss_nil))))) (dss_cons (M1 := [some .frz, some .frz, some .frz, some .frz, some .frz, some .frz, some .frz, some .frz, none, none, some .frz, none]) (ds_set (i := 10) (m := .frz) rfl sc__law_behind.nd rfl (.inl rfl) (DE.frzOf (de_op rfl o_add (de_op rfl o_add (eV (m := .frz) 3 rfl rfl (.inl rfl) rfl rfl) de_int) (eV (m := .frz) 7 rfl rfl (.inl rfl) rfl rfl))) rfl (.inl rfl)) (dss_cons (M1 := [some .frz, some .frz, none, none, none, none, none, none, none, none, none, none]) (ds_ret (m := .frz) .nil rfl (de_tup (ms := [.frz, .frz]) allF (by decide +kernel) (da_cons (m := .frz) rfl (de_callTy b_tuple rfl T.z_tuple (by decide +kernel) (ms := [.own]) (da_cons (m := .own) rfl (de_lc (own := [("k", 11)]) (M1 := [some .frz, some .frz, some .frz, some .frz, some .frz, some .frz, some .frz, some .frz, none, none, some .frz, some .frz]) (mi := .frz) rfl (by decide) rfl rfl sc__law_behind.nd (di_range1 rfl T.z_range (ms := [.frz]) (da_cons (m := .frz) rfl de_int da_nil rfl) rfl) (blkOk_by (N := ["pose", "piece", "spot", "heading", "kind", "n", "step", "turn", "out", "back", "there", "k"]) (sc := defScope s__law_behind) (own := [("k", 11)]) (by decide +kernel)) (fun _ _ _ _ _ => (gN (i := 11) (M := [some .frz, some .frz, some .frz, some .frz, some .frz, some .frz, some .frz, some .frz, none, none, some .frz, none]) (mi := .frz) rfl sc__law_behind.nd rfl (.inl rfl) (.inr rfl))) (fun _ _ _ _ _ => dts_nil) (fun _ _ _ _ _ => (DE.frzOf (de_op rfl o_add (de_ix (ma := .frz) rfl (eV (m := .frz) 2 rfl rfl (.inr (.inl rfl)) rfl rfl) (eV (m := .frz) 11 rfl rfl (.inl rfl) rfl rfl) (fun _ _ => rfl)) (de_ix (ma := .frz) rfl (eV (m := .frz) 6 rfl rfl (.inr (.inl rfl)) rfl rfl) (eV (m := .frz) 11 rfl rfl (.inl rfl) rfl rfl) (fun _ _ => rfl))))) (fun _ => rfl)) da_nil rfl) (by decide +kernel) (by decide +kernel) rfl rfl) (da_cons (m := .frz) rfl (de_op rfl o_sub (eV (m := .frz) 10 rfl rfl (.inl rfl) rfl rfl) (de_op rfl o_mul (de_op rfl o_fdiv (eV (m := .frz) 10 rfl rfl (.inl rfl) rfl rfl) de_int) de_int)) da_nil rfl) rfl))) dss_nil)))))
/-! _law_after -/
theorem sc__law_after : FnScope ["track", "pose", "piece"] ["track"] (defScope s__law_after) := ⟨rfl, rfl, rfl, by decide +kernel, rfl, by decide +kernel, by decide +kernel⟩
theorem c__law_after (T : Tx K mg) : Cl P w K mg base 3 "_law_after" [.frz] .frz F__law_after := by
  have c__law_behind := c__law_behind (P := P) (w := w) (base := base) T
  exact Cl.of (M' := [some .frz, none, none]) T.d__law_after sc__law_after rfl rfl rfl fun f cdv A outer s H E B hr => (dss_cons (M1 := [some .frz, some .frz, none]) (ds_set (i := 1) (m := .frz) rfl sc__law_after.nd rfl (.inl rfl) (de_tup (ms := [.frz, .frz]) allF (by decide +kernel) (da_cons (m := .frz) rfl (de_tup (ms := [.frz, .frz, .frz, .frz]) allF (by decide +kernel) (da_cons (m := .frz) rfl de_int (da_cons (m := .frz) rfl de_int (da_cons (m := .frz) rfl de_int (da_cons (m := .frz) rfl de_int da_nil rfl) rfl) rfl) rfl)) (da_cons (m := .frz) rfl de_int da_nil rfl) rfl)) rfl (.inl rfl)) (dss_cons (M1 := [some .frz, some .frz, none]) (ds_for (M := [some .frz, some .frz, none]) (M1 := [some .frz, some .frz, some .frz]) (mi := .frz) PassesOwn.never rfl (di_seq (m := .frz) rfl (eV (m := .frz) 0 rfl rfl (.inl rfl) rfl rfl)) (gN (i := 2) (M := [some .frz, some .frz, none]) (mi := .frz) rfl sc__law_after.nd rfl (.inl rfl) (.inl rfl)) (dss_cons (M1 := [some .frz, some .frz, some .frz]) (ds_set (i := 1) (m := .frz) rfl sc__law_after.nd rfl (.inl rfl) (de_c c__law_behind hr (by decide) (ms := [.frz, .frz]) rfl rfl (da_cons (m := .frz) rfl (eV (m := .frz) 1 rfl rfl (.inl rfl) rfl rfl) (da_cons (m := .frz) rfl (eV (m := .frz) 2 rfl rfl (.inl rfl) rfl rfl) da_nil rfl) rfl) rfl rfl rfl) rfl (.inl rfl)) (DSs.fin (.cons (.same _) (.cons (.same _) (.cons (.dead _) .nil))) dss_nil)) (fun _ => rfl)) (dss_cons (M1 := [some .frz, none, none]) (ds_ret (m := .frz) .nil rfl (eV (m := .frz) 1 rfl rfl (.inl rfl) rfl rfl)) dss_nil)))
/-! _law_piece -/
theorem sc__law_piece : FnScope ["tape", "most"] ["tape", "most"] (defScope s__law_piece) := ⟨rfl, rfl, rfl, by decide +kernel, rfl, by decide +kernel, by decide +kernel⟩
theorem c__law_piece (T : Tx K mg) : ClI P w K mg base 3 "_law_piece" [.frz] .frz F__law_piece := by
  have c__law_take := c__law_take (P := P) (w := w) (base := base) T
  exact ClI.of T.d__law_piece sc__law_piece rfl rfl rfl (by decide) fun f a cdv A outer s H E B hr => DSs.fin (M' := [some (.io a), some .frz]) (.cons (.same _) .nil) (dss_cons (M1 := [some (.io a), some .frz]) (ds_ret (m := .frz) (.cons (.same _) .nil) rfl (de_tup (ms := [.frz, .frz]) allF (by decide +kernel) (da_cons (m := .frz) rfl (de_ix (ma := .own) rfl (de_lst (ms := [.frz, .frz, .frz]) allF (by decide +kernel) (da_cons (m := .frz) rfl de_str (da_cons (m := .frz) rfl de_str (da_cons (m := .frz) rfl de_str da_nil rfl) rfl) rfl)) (de_ci c__law_take hr (by decide) rfl (m := (.io a)) (i := 0) rfl rfl rfl (.inl rfl) rfl (da_cons (m := .frz) rfl de_int da_nil rfl) rfl rfl rfl rfl rfl) (fun _ _ => rfl)) (da_cons (m := .frz) rfl (DE.frzOf (de_op rfl o_add de_int (de_ci c__law_take hr (by decide) rfl (m := (.io a)) (i := 0) rfl rfl rfl (.inl rfl) rfl (da_cons (m := .frz) rfl (eV (m := .frz) 1 rfl rfl (.inl rfl) rfl rfl) da_nil rfl) rfl rfl rfl rfl rfl))) da_nil rfl) rfl))) dss_nil)
/-! _law_sums -/
def b1__law_sums : CS := (seqS (ifS (tstB (c2 eqD (rd 4) (cst (.str "straight")))) (seqS (stI 1 (c2 addD (c2 ixD (rd 1) (rd 3)) (rd 5)) (rd 3)) skip) (seqS (ifS (tstB (c2 eqD (rd 4) (cst (.str "left")))) (seqS (stI 2 (c2 addD (c2 ixD (rd 2) (rd 3)) (rd 5)) (rd 3)) (seqS (asgS (stS 3) (ifV (tstB (c2 ltD (rd 3) (cst (.int 7)))) (c2 addD (rd 3) (cst (.int 1))) (cst (.int 0)))) skip)) (seqS (asgS (stS 3) (ifV (tstB (c2 gtD (rd 3) (cst (.int 0)))) (c2 subD (rd 3) (cst (.int 1))) (cst (.int 7)))) (seqS (stI 2 (c2 addD (c2 ixD (rd 2) (rd 3)) (rd 5)) (rd 3)) skip))) skip)) skip)
def den__law_sums : CS := (seqS (par3S 1 2 3 (c2 mulD (lstV (aCons (cst (.int 0)) aNil)) (cst (.int 8))) (c2 mulD (lstV (aCons (cst (.int 0)) aNil)) (cst (.int 8))) (cst (.int 0))) (seqS (forS (seqI (rd 0)) (tgT 2 (tCons' (stS 4) (tCons' (stS 5) tNil'))) b1__law_sums) (seqS (rtS (tupV (aCons (cN tupleD (aCons (rd 1) aNil)) (aCons (cN tupleD (aCons (rd 2) aNil)) aNil)))) skip)))
def F__law_sums := fnF den__law_sums 6 1
theorem sc__law_sums : FnScope ["track", "straights", "curves", "heading", "kind", "n"] ["track"] (defScope s__law_sums) := ⟨rfl, rfl, rfl, by decide +kernel, rfl, by decide +kernel, by decide +kernel⟩
theorem c__law_sums (T : Tx K mg) : Cl P w K mg base 1 "_law_sums" [.frz] .frz F__law_sums := by
  exact Cl.of (M' := [some .frz, none, none, none, none, none]) T.d__law_sums sc__law_sums rfl rfl rfl fun f cdv A outer s H E B hr => (dss_cons (M1 := [some .frz, some .own, some .own, some .frz, none, none]) (ds_par3 (i := 1) (j := 2) (l := 3) (m1 := .own) (m2 := .own) (m3 := .frz) rfl rfl rfl rfl sc__law_sums.nd rfl rfl rfl (by decide) (by decide) (by decide) rfl rfl rfl (de_op rfl o_mul (de_lst (ms := [.frz]) allF (by decide +kernel) (da_cons (m := .frz) rfl de_int da_nil rfl)) de_int) (de_op rfl o_mul (de_lst (ms := [.frz]) allF (by decide +kernel) (da_cons (m := .frz) rfl de_int da_nil rfl)) de_int) de_int rfl rfl rfl rfl rfl) (dss_cons (M1 := [some .frz, some .own, some .own, some .frz, none, none]) (ds_for (M := [some .frz, some .own, some .own, some .frz, none, none]) (M1 := [some .frz, some .own, some .own, some .frz, some .frz, some .frz]) (mi := .frz) PassesOwn.never rfl (di_seq (m := .frz) rfl (eV (m := .frz) 0 rfl rfl (.inl rfl) rfl rfl)) (dg_tup rfl (dgs_cons (gN (i := 4) (M := [some .frz, some .own, some .own, some .frz, none, none]) (mi := .frz) rfl sc__law_sums.nd rfl (.inl rfl) (.inl rfl)) (dgs_cons (gN (i := 5) (M := [some .frz, some .own, some .own, some .frz, some .frz, none]) (mi := .frz) rfl sc__law_sums.nd rfl (.inl rfl) (.inl rfl)) dgs_nil rfl) rfl) rfl rfl) (dss_cons (M1 := [some .frz, some .own, some .own, some .frz, some .frz, some .frz]) (ds_if (M' := [some .frz, some .own, some .own, some .frz, some .frz, some .frz]) (dt_cmp (ma := .frz) rfl (o_eq hr.units) (eV (m := .frz) 4 rfl rfl (.inl rfl) rfl rfl) de_str (nomark _)) (dss_cons (M1 := [some .frz, some .own, some .own, some .frz, some .frz, some .frz]) (ds_setItem (i := 1) (m := .own) rfl rfl (pe_var rfl (.inl rfl) rfl rfl) (DE.frzOf (de_op rfl o_add (de_ix (ma := .len) rfl (eV (m := .own) 1 rfl rfl (.inl rfl) rfl rfl) (eV (m := .frz) 3 rfl rfl (.inl rfl) rfl rfl) (fun _ _ => rfl)) (eV (m := .frz) 5 rfl rfl (.inl rfl) rfl rfl))) (eV (m := .frz) 3 rfl rfl (.inl rfl) rfl rfl) (by intro _; rfl) rfl rfl rfl) dss_nil) (dss_cons (M1 := [some .frz, some .own, some .own, some .frz, some .frz, some .frz]) (ds_if (M' := [some .frz, some .own, some .own, some .frz, some .frz, some .frz]) (dt_cmp (ma := .frz) rfl (o_eq hr.units) (eV (m := .frz) 4 rfl rfl (.inl rfl) rfl rfl) de_str (nomark _)) (dss_cons (M1 := [some .frz, some .own, some .own, some .frz, some .frz, some .frz]) (ds_setItem (i := 2) (m := .own) rfl rfl (pe_var rfl (.inl rfl) rfl rfl) (DE.frzOf (de_op rfl o_add (de_ix (ma := .len) rfl (eV (m := .own) 2 rfl rfl (.inl rfl) rfl rfl) (eV (m := .frz) 3 rfl rfl (.inl rfl) rfl rfl) (fun _ _ => rfl)) (eV (m := .frz) 5 rfl rfl (.inl rfl) rfl rfl))) (eV (m := .frz) 3 rfl rfl (.inl rfl) rfl rfl) (by intro _; rfl) rfl rfl rfl) (dss_cons (M1 := [some .frz, some .own, some .own, some .frz, some .frz, some .frz]) (ds_set (i := 3) (m := .frz) rfl sc__law_sums.nd rfl (.inl rfl) (de_if (dt_cmp (ma := .frz) rfl (o_lt hr.units) (eV (m := .frz) 3 rfl rfl (.inl rfl) rfl rfl) de_int (nomark _)) (DE.frzOf (de_op rfl o_add (eV (m := .frz) 3 rfl rfl (.inl rfl) rfl rfl) de_int)) de_int) rfl (.inl rfl)) dss_nil)) (dss_cons (M1 := [some .frz, some .own, some .own, some .frz, some .frz, some .frz]) (ds_set (i := 3) (m := .frz) rfl sc__law_sums.nd rfl (.inl rfl) (de_if (dt_cmp (ma := .frz) rfl o_gt (eV (m := .frz) 3 rfl rfl (.inl rfl) rfl rfl) de_int (nomark _)) (de_op rfl o_sub (eV (m := .frz) 3 rfl rfl (.inl rfl) rfl rfl) de_int) de_int) rfl (.inl rfl)) (dss_cons (M1 := [some .frz, some .own, some .own, some .frz, some .frz, some .frz]) (ds_setItem (i := 2) (m := .own) rfl rfl (pe_var rfl (.inl rfl) rfl rfl) (DE.frzOf (de_op rfl o_add (de_ix (ma := .len) rfl (eV (m := .own) 2 rfl rfl (.inl rfl) rfl rfl) (eV (m := .frz) 3 rfl rfl (.inl rfl) rfl rfl) (fun _ _ => rfl)) (eV (m := .frz) 5 rfl rfl (.inl rfl) rfl rfl))) (eV (m := .frz) 3 rfl rfl (.inl rfl) rfl rfl) (by intro _; rfl) rfl rfl rfl) dss_nil))) dss_nil)) (DSs.fin (.cons (.same _) (.cons (.same _) (.cons (.same _) (.cons (.same _) (.cons (.dead _) (.cons (.dead _) .nil)))))) dss_nil)) (fun _ => rfl)) (dss_cons (M1 := [some .frz, none, none, none, none, none]) (ds_ret (m := .frz) .nil rfl (de_tup (ms := [.frz, .frz]) allF (by decide +kernel) (da_cons (m := .frz) rfl (de_callTy b_tuple rfl T.z_tuple (by decide +kernel) (ms := [.len]) (da_cons (m := .len) rfl (eV (m := .own) 1 rfl rfl (.inl rfl) rfl rfl) da_nil rfl) (by decide +kernel) (by decide +kernel) rfl rfl) (da_cons (m := .frz) rfl (de_callTy b_tuple rfl T.z_tuple (by decide +kernel) (ms := [.len]) (da_cons (m := .len) rfl (eV (m := .own) 2 rfl rfl (.inl rfl) rfl rfl) da_nil rfl) (by decide +kernel) (by decide +kernel) rfl rfl) da_nil rfl) rfl))) dss_nil)))
/-! _law_circle -/
def e1__law_circle : CE := (ioV 0 F__law_take (aCons (cst (.int 3)) aNil))
def b2__law_circle : CS := (seqS (asgS (stS 6) (c2 ixD (rd 3) (c2 subD (rd 5) (c2 mulD (c2 fdivD (rd 5) (cst (.int 4))) (cst (.int 4)))))) (seqS (exL 4 (ifV (tstB (c2 gtD (rd 6) (cst (.int 0)))) (lstV (aCons (tupV (aCons (cst (.str "straight")) (aCons (rd 6) aNil))) aNil)) (lstV aNil))) (seqS (apS 4 (tupV (aCons (rd 1) (aCons (rd 2) aNil)))) skip)))
def den__law_circle : CS := (seqS (par2S 1 2 (c2 ixD (lstV (aCons (cst (.str "left")) (aCons (cst (.str "right")) aNil))) (ioV 0 F__law_take (aCons (cst (.int 2)) aNil))) (c2 addD (cst (.int 1)) (ioV 0 F__law_take (aCons (cst (.int 3)) aNil)))) (seqS (asgS (stS 3) (lcV (rgV rg1 (aCons (cst (.int 4)) aNil)) (stS 5) [5] yesT e1__law_circle)) (seqS (asgS (stS 4) (lstV aNil)) (seqS (forS (rgV rg1 (aCons (cst (.int 8)) aNil)) (stS 5) b2__law_circle) (seqS (rtS (cN tupleD (aCons (rd 4) aNil))) skip)))))
def F__law_circle := fnI den__law_circle 7 1
theorem sc__law_circle : FnScope ["tape", "kind", "r", "wide", "found", "k", "n"] ["tape"] (defScope s__law_circle) := ⟨rfl, rfl, rfl, by decide +kernel, rfl, by decide +kernel, by decide +kernel⟩
theorem c__law_circle (T : Tx K mg) : ClI P w K mg base 3 "_law_circle" [] .frz F__law_circle := by
  have c__law_take := c__law_take (P := P) (w := w) (base := base) T
  exact ClI.of T.d__law_circle sc__law_circle rfl rfl rfl (by decide) fun f a cdv A outer s H E B hr => DSs.fin (M' := [some (.io a), none, none, none, none, none, none]) (.cons (.same _) .nil) (dss_cons (M1 := [some (.io a), some .frz, some .frz, none, none, none, none]) (ds_par2 (i := 1) (j := 2) (m1 := .frz) (m2 := .frz) rfl rfl rfl sc__law_circle.nd rfl rfl (by decide) rfl rfl (de_ix (ma := .own) rfl (de_lst (ms := [.frz, .frz]) allF (by decide +kernel) (da_cons (m := .frz) rfl de_str (da_cons (m := .frz) rfl de_str da_nil rfl) rfl)) (de_ci c__law_take hr (by decide) rfl (m := (.io a)) (i := 0) rfl rfl rfl (.inr (.inl rfl)) rfl (da_cons (m := .frz) rfl de_int da_nil rfl) rfl rfl rfl rfl rfl) (fun _ _ => rfl)) (DE.frzOf (de_op rfl o_add de_int (de_ci c__law_take hr (by decide) rfl (m := (.io a)) (i := 0) rfl rfl rfl (.inr (.inl rfl)) rfl (da_cons (m := .frz) rfl de_int da_nil rfl) rfl rfl rfl rfl rfl))) rfl rfl rfl rfl) (dss_cons (M1 := [some (.io a), some .frz, some .frz, some .own, none, none, none]) (ds_setLc (own := [("k", 5)]) (M1 := [some (.io a), some .frz, some .frz, none, none, some .frz, none]) (mi := .frz) rfl (by decide) rfl rfl sc__law_circle.nd (i := 3) rfl rfl (sw_true rfl rfl rfl (by decide +kernel)) (di_range1 rfl T.z_range (ms := [.frz]) (da_cons (m := .frz) rfl de_int da_nil rfl) rfl) (blkOk_by (N := ["tape", "kind", "r", "wide", "found", "k", "n"]) (sc := defScope s__law_circle) (own := [("k", 5)]) (by decide +kernel)) (fun _ _ _ _ _ => (gN (i := 5) (M := [some (.io a), some .frz, some .frz, none, none, none, none]) (mi := .frz) rfl sc__law_circle.nd rfl (.inl rfl) (.inr rfl))) (fun _ _ _ _ _ => dts_nil) (fun _ _ _ _ _ => (de_ci c__law_take hr (by decide) rfl (m := (.io a)) (i := 0) rfl rfl rfl (.inr (.inl rfl)) rfl (da_cons (m := .frz) rfl de_int da_nil rfl) rfl rfl rfl rfl rfl)) (fun _ => rfl)) (DSs.frzAt (i := 3) rfl (dss_cons (M1 := [some (.io a), some .frz, some .frz, some .frz, some .own, none, none]) (ds_set (i := 4) (m := .own) rfl sc__law_circle.nd rfl (.inl rfl) (de_lst (ms := []) allF (by decide +kernel) da_nil) rfl (.inl rfl)) (dss_cons (M1 := [some (.io a), some .frz, some .frz, some .frz, some .own, none, none]) (ds_for (M := [some (.io a), some .frz, some .frz, some .frz, some .own, none, none]) (M1 := [some (.io a), some .frz, some .frz, some .frz, some .own, some .frz, none]) (mi := .frz) PassesOwn.never rfl (di_range1 rfl T.z_range (ms := [.frz]) (da_cons (m := .frz) rfl de_int da_nil rfl) rfl) (gN (i := 5) (M := [some (.io a), some .frz, some .frz, some .frz, some .own, none, none]) (mi := .frz) rfl sc__law_circle.nd rfl (.inl rfl) (.inl rfl)) (dss_cons (M1 := [some (.io a), some .frz, some .frz, some .frz, some .own, some .frz, some .frz]) (ds_set (i := 6) (m := .frz) rfl sc__law_circle.nd rfl (.inl rfl) (de_ix (ma := .frz) rfl (eV (m := .frz) 3 rfl rfl (.inl rfl) rfl rfl) (de_op rfl o_sub (eV (m := .frz) 5 rfl rfl (.inl rfl) rfl rfl) (de_op rfl o_mul (de_op rfl o_fdiv (eV (m := .frz) 5 rfl rfl (.inl rfl) rfl rfl) de_int) de_int)) (fun _ _ => rfl)) rfl (.inl rfl)) (dss_cons (M1 := [some (.io a), some .frz, some .frz, some .frz, some .own, some .frz, some .frz]) (sExt (i := 4) (m := .own) rfl rfl rfl (.inl rfl) rfl rfl (de_if (dt_cmp (ma := .frz) rfl o_gt (eV (m := .frz) 6 rfl rfl (.inl rfl) rfl rfl) de_int (nomark _)) (de_lst (ms := [.frz]) allF (by decide +kernel) (da_cons (m := .frz) rfl (de_tup (ms := [.frz, .frz]) allF (by decide +kernel) (da_cons (m := .frz) rfl de_str (da_cons (m := .frz) rfl (eV (m := .frz) 6 rfl rfl (.inl rfl) rfl rfl) da_nil rfl) rfl)) da_nil rfl)) (de_lst (ms := []) allF (by decide +kernel) da_nil)) rfl (fun h1 h2 => pe_bm PySem.F.plainAttrs_list PySem.F.slot_list_extend PySem.F.type_list_extend mt_extend h1 h2) rfl) (dss_cons (M1 := [some (.io a), some .frz, some .frz, some .frz, some .own, some .frz, some .frz]) (sApp (i := 4) (m := .own) rfl rfl rfl (.inl rfl) rfl rfl (de_tup (ms := [.frz, .frz]) allF (by decide +kernel) (da_cons (m := .frz) rfl (eV (m := .frz) 1 rfl rfl (.inl rfl) rfl rfl) (da_cons (m := .frz) rfl (eV (m := .frz) 2 rfl rfl (.inl rfl) rfl rfl) da_nil rfl) rfl)) rfl (fun h1 h2 => pe_bm PySem.F.plainAttrs_list PySem.F.slot_list_append PySem.F.type_list_append mt_append h1 h2) rfl) (DSs.fin (.cons (.same _) (.cons (.same _) (.cons (.same _) (.cons (.same _) (.cons (.same _) (.cons (.dead _) (.cons (.dead _) .nil))))))) dss_nil)))) (fun _ => rfl)) (dss_cons (M1 := [some (.io a), none, none, none, none, none, none]) (ds_ret (m := .frz) (.cons (.same _) .nil) rfl (de_callTy b_tuple rfl T.z_tuple (by decide +kernel) (ms := [.len]) (da_cons (m := .len) rfl (eV (m := .own) 4 rfl rfl (.inl rfl) rfl rfl) da_nil rfl) (by decide +kernel) (by decide +kernel) rfl rfl)) dss_nil))))))
/-! law -/
def e1_law : CE := (ioV 1 F__law_piece (aCons (cst (.int 3)) aNil))
def e2_law : CE := (rd 20)
def t3_law : CT := (tstB (c2 neD (c2 ixD (rd 20) (cst (.int 0))) (cst (.str "straight"))))
def e4_law : CE := (c2 subD (c2 ixD (rd 8) (rd 6)) (c2 ixD (rd 8) (c2 addD (rd 6) (cst (.int 4)))))
def e5_law : CE := (c2 subD (c2 ixD (rd 9) (rd 6)) (c2 ixD (rd 9) (c2 addD (rd 6) (cst (.int 4)))))
def e6_law : CE := (c2 eqD (rd 21) (cst (.str "straight")))
def b7_law : CS := (seqS (asgS (stS 4) (ioV 1 F__law_take (aCons (cst (.int 4)) aNil))) (seqS (asgS (stS 5) (cN tupleD (aCons (lcV (rgV rg1 (aCons (c2 addD (cst (.int 1)) (ioV 1 F__law_take (aCons (cst (.int 12)) aNil))) aNil)) (stS 6) [6] yesT e1_law) aNil))) (seqS (asgS (stS 5) (ifV (tstB (c2 eqD (rd 4) (cst (.int 1)))) (ioV 1 F__law_circle aNil) (ifV (tstB (c2 eqD (rd 4) (cst (.int 2)))) (cN tupleD (aCons (lcV (seqI (rd 5)) (stS 20) [20] t3_law e2_law) aNil)) (rd 5)))) (seqS (ifS (tstB (c2 eqD (rd 4) (cst (.int 3)))) (seqS (asgS (stS 5) (c2 addD (ioV 1 F__law_circle aNil) (ioV 1 F__law_circle aNil))) (seqS (asgS (stS 6) (ioV 1 F__law_take (aCons (c2 subD (cN lenD (aCons (rd 5) aNil)) (cst (.int 1))) aNil))) (seqS (asgS (stS 5) (c2 addD (c2 addD (slV (rd 5) noPt (ptOf (rd 6))) (tupV (aCons (c2 ixD (rd 5) (c2 addD (rd 6) (cst (.int 1)))) (aCons (c2 ixD (rd 5) (rd 6)) aNil)))) (slV (rd 5) (ptOf (c2 addD (rd 6) (cst (.int 2)))) noPt))) skip))) skip) (seqS (ifS (tstB (c2 eqD (rd 5) (tupV aNil))) (seqS ctS skip) skip) (seqS (asgS (stS 7) (cN F__law_sums (aCons (rd 5) aNil))) (seqS (asgS (tgT 2 (tCons' (stS 8) (tCons' (stS 9) tNil'))) (rd 7)) (seqS (par2S 10 11 (lcV (rgV rg1 (aCons (cst (.int 4)) aNil)) (stS 6) [6] yesT e4_law) (lcV (rgV rg1 (aCons (cst (.int 4)) aNil)) (stS 6) [6] yesT e5_law)) (seqS (ifS (notT (tst (cN (F__law_same 8) (aCons (tupV (aCons (cN F_sums_of (aCons (rd 5) aNil)) (aCons (cN F_balance_of (aCons (rd 7) aNil)) aNil))) (aCons (tupV (aCons (rd 7) (aCons (tupV (aCons (cN tupleD (aCons (rd 10) aNil)) (aCons (cN tupleD (aCons (rd 11) aNil)) aNil))) aNil))) aNil))))) (seqS (rtS (cst (.bool false))) skip) skip) (seqS (asgS (stS 12) (c2 eqD (rd 10) (lstV (aCons (c2 subD (c2 ixD (rd 11) (cst (.int 2))) (c2 ixD (rd 11) (cst (.int 1)))) (aCons (c2 subD (c2 ixD (rd 11) (cst (.int 3))) (c2 ixD (rd 11) (cst (.int 2)))) (aCons (c2 subD (c2 subD (cst (.int 0)) (c2 ixD (rd 11) (cst (.int 0)))) (c2 ixD (rd 11) (cst (.int 3)))) (aCons (c2 subD (c2 ixD (rd 11) (cst (.int 0))) (c2 ixD (rd 11) (cst (.int 1)))) aNil))))))) (seqS (asgS (tgT 2 (tCons' (stS 13) (tCons' (stS 14) tNil'))) (cN F__law_after (aCons (rd 5) aNil))) (seqS (asgS (stS 15) (andV (c2 eqD (rd 14) (cst (.int 0))) (c2 eqD (rd 13) (tupV (aCons (cst (.int 0)) (aCons (cst (.int 0)) (aCons (cst (.int 0)) (aCons (cst (.int 0)) aNil)))))))) (seqS (ifS (orT (notT (tst (cN (F__law_same 8) (aCons (tupV (aCons (cN F_is_balanced (aCons (tupV (aCons (cN tupleD (aCons (rd 10) aNil)) (aCons (cN tupleD (aCons (rd 11) aNil)) aNil))) aNil)) (aCons (cN F_is_closed (aCons (rd 5) aNil)) aNil))) (aCons (tupV (aCons (rd 12) (aCons (rd 15) aNil))) aNil))))) (tstB (c2 neD (rd 15) (andV (rd 12) (c2 eqD (rd 14) (cst (.int 0))))))) (seqS (rtS (cst (.bool false))) skip) skip) (seqS (ifS (notT (tst (cN (F__law_same 8) (aCons (cN F_pose_after (aCons (tupV (aCons (tupV (aCons (cst (.int 0)) (aCons (cst (.int 0)) (aCons (cst (.int 0)) (aCons (cst (.int 0)) aNil))))) (aCons (cst (.int 0)) aNil))) (aCons (rd 5) aNil))) (aCons (tupV (aCons (rd 13) (aCons (rd 14) aNil))) aNil))))) (seqS (rtS (cst (.bool false))) skip) skip) (seqS (ifS (andT (notT (tst (cN anyD (aCons (lcV (seqI (rd 5)) (tgT 2 (tCons' (stS 21) (tCons' (stS 22) tNil'))) [21, 22] yesT e6_law) aNil)))) (andT (tstB (c2 eqD (rd 14) (cst (.int 0)))) (tstB (c2 neD (rd 15) (c2 eqD (slV (rd 9) noPt (ptOf (cst (.int 4)))) (slV (rd 9) (ptOf (cst (.int 4))) noPt)))))) (seqS (rtS (cst (.bool false))) skip) skip) (seqS (ifS (andT (tst (rd 15)) (tstB (c2 isNotD (cN F_is_closed (aCons (cN F_turned_track (aCons (rd 5) (aCons (ioV 1 F__law_take (aCons (cN lenD (aCons (rd 5) aNil)) aNil)) aNil))) aNil)) (cst (.bool true))))) (seqS (rtS (cst (.bool false))) skip) skip) (seqS (par2S 16 17 (tupV (aCons (rd 13) (aCons (rd 14) aNil))) (c2 addD (cst (.int 1)) (ioV 1 F__law_take (aCons (cst (.int 5)) aNil)))) (seqS (asgS (stS 18) (cN F__law_behind (aCons (rd 16) (aCons (tupV (aCons (cst (.str "left")) (aCons (rd 17) aNil))) aNil)))) (seqS (asgS (stS 19) (cN F__law_behind (aCons (tupV (aCons (c2 ixD (rd 16) (cst (.int 0))) (aCons (c2 ixD (rd 18) (cst (.int 1))) aNil))) (aCons (tupV (aCons (cst (.str "right")) (aCons (rd 17) aNil))) aNil)))) (seqS (ifS (notT (tst (cN (F__law_same 8) (aCons (tupV (aCons (c2 ixD (rd 19) (cst (.int 0))) (aCons (cN F_gap_of (aCons (tupV (aCons (cst (.str "left")) (aCons (rd 17) aNil))) (aCons (rd 14) aNil))) (aCons (cN F_gap_of (aCons (tupV (aCons (cst (.str "right")) (aCons (rd 17) aNil))) (aCons (c2 ixD (rd 18) (cst (.int 1))) aNil))) aNil)))) (aCons (tupV (aCons (c2 ixD (rd 18) (cst (.int 0))) (aCons (rd 14) (aCons (rd 14) aNil)))) aNil))))) (seqS (rtS (cst (.bool false))) skip) skip) skip))))))))))))))))))))
def den_law : CS := (seqS (asgS (stS 1) (cN F__law_tape (aCons (rd 0) aNil))) (seqS (asgS (stS 2) (c2 mulD (tupV (aCons (tupV (aCons (cst (.str "left")) (aCons (cst (.int 2)) aNil))) aNil)) (cst (.int 8)))) (seqS (ifS (orT (tstB (c2 neD (tupV (aCons (cN F_gap_of (aCons (tupV (aCons (cst (.str "left")) (aCons (cst (.int 3)) aNil))) (aCons (cst (.int 5)) aNil))) (aCons (cN F_gap_of (aCons (tupV (aCons (cst (.str "right")) (aCons (cst (.int 3)) aNil))) (aCons (cst (.int 0)) aNil))) aNil))) (tupV (aCons (cst (.int 5)) (aCons (cst (.int 7)) aNil))))) (orT (tstB (c2 isNotD (cN F_is_closed (aCons (rd 2) aNil)) (cst (.bool true)))) (tstB (c2 isNotD (cN F_is_balanced (aCons (tupV (aCons (c2 mulD (tupV (aCons (cst (.int 0)) aNil)) (cst (.int 4))) (aCons (c2 mulD (tupV (aCons (cst (.int 0)) aNil)) (cst (.int 4))) aNil))) aNil)) (cst (.bool true)))))) (seqS (rtS (cst (.bool false))) skip) skip) (seqS (forS (rgV rg1 (aCons (cst (.int 5)) aNil)) (stS 3) b7_law) (seqS (rtS (cst (.bool true))) skip)))))
def F_law := fnF den_law 23 1
theorem sc_law : FnScope ["script", "tape", "ring", "turn", "pick", "track", "k", "sums", "straights", "curves", "a", "b", "fair", "spot", "heading", "closed", "pose", "r", "ahead", "back", "piece", "kind", "n"] ["script"] (defScope s_law) := ⟨rfl, rfl, rfl, by decide +kernel, rfl, by decide +kernel, by decide +kernel⟩
theorem ok_law (T : Tx K mg) {f : Addr} {fd : FuncData} (hf : Fun K "law" "law" s_law f fd) : FnD P w K mg base 9 f fd ["script"] [.frz] .frz F_law := by
  have c__law_after := c__law_after (P := P) (w := w) (base := base) T
  have c__law_behind := c__law_behind (P := P) (w := w) (base := base) T
  have c__law_circle := c__law_circle (P := P) (w := w) (base := base) T
  have c__law_piece := c__law_piece (P := P) (w := w) (base := base) T
  have c__law_same := c__law_same (P := P) (w := w) (base := base) T
  have c__law_sums := c__law_sums (P := P) (w := w) (base := base) T
  have c__law_take := c__law_take (P := P) (w := w) (base := base) T
  have c__law_tape := c__law_tape (P := P) (w := w) (base := base) T
  have c_balance_of := c_balance_of (P := P) (w := w) (base := base) T
  have c_gap_of := c_gap_of (P := P) (w := w) (base := base) T
  have c_is_balanced := c_is_balanced (P := P) (w := w) (base := base) T
  have c_is_closed := c_is_closed (P := P) (w := w) (base := base) T
  have c_pose_after := c_pose_after (P := P) (w := w) (base := base) T
  have c_sums_of := c_sums_of (P := P) (w := w) (base := base) T
  have c_turned_track := c_turned_track (P := P) (w := w) (base := base) T
  exact fn_ok (M' := [some .frz, none, none, none, none, none, none, none, none, none, none, none, none, none, none, none, none, none, none, none, none, none, none]) hf sc_law rfl rfl rfl fun cdv A outer s H E B hr => (dss_cons (M1 := [some .frz, some .own, none, none, none, none, none, none, none, none, none, none, none, none, none, none, none, none, none, none, none, none, none]) (ds_set (i := 1) (m := .own) rfl sc_law.nd rfl (.inr rfl) (de_c c__law_tape hr (by decide) (ms := [.frz]) rfl rfl (da_cons (m := .frz) rfl (eV (m := .frz) 0 rfl rfl (.inl rfl) rfl rfl) da_nil rfl) rfl rfl rfl) rfl (.inl rfl)) (dss_cons (M1 := [some .frz, some .own, some .frz, none, none, none, none, none, none, none, none, none, none, none, none, none, none, none, none, none, none, none, none]) (ds_set (i := 2) (m := .frz) rfl sc_law.nd rfl (.inl rfl) (DE.frzOf (de_op rfl o_mul (de_tup (ms := [.frz]) allF (by decide +kernel) (da_cons (m := .frz) rfl (de_tup (ms := [.frz, .frz]) allF (by decide +kernel) (da_cons (m := .frz) rfl de_str (da_cons (m := .frz) rfl de_int da_nil rfl) rfl)) da_nil rfl)) de_int)) rfl (.inl rfl)) (dss_cons (M1 := [some .frz, some .own, some .frz, none, none, none, none, none, none, none, none, none, none, none, none, none, none, none, none, none, none, none, none]) (ds_if (M' := [some .frz, some .own, some .frz, none, none, none, none, none, none, none, none, none, none, none, none, none, none, none, none, none, none, none, none]) (dt_bool (dw_or (dt_cmp (ma := .frz) rfl (o_ne hr.units) (de_tup (ms := [.frz, .frz]) allF (by decide +kernel) (da_cons (m := .frz) rfl (de_c c_gap_of hr (by decide) (ms := [.frz, .frz]) rfl rfl (da_cons (m := .frz) rfl (de_tup (ms := [.frz, .frz]) allF (by decide +kernel) (da_cons (m := .frz) rfl de_str (da_cons (m := .frz) rfl de_int da_nil rfl) rfl)) (da_cons (m := .frz) rfl de_int da_nil rfl) rfl) rfl rfl rfl) (da_cons (m := .frz) rfl (de_c c_gap_of hr (by decide) (ms := [.frz, .frz]) rfl rfl (da_cons (m := .frz) rfl (de_tup (ms := [.frz, .frz]) allF (by decide +kernel) (da_cons (m := .frz) rfl de_str (da_cons (m := .frz) rfl de_int da_nil rfl) rfl)) (da_cons (m := .frz) rfl de_int da_nil rfl) rfl) rfl rfl rfl) da_nil rfl) rfl)) (de_tup (ms := [.frz, .frz]) allF (by decide +kernel) (da_cons (m := .frz) rfl de_int (da_cons (m := .frz) rfl de_int da_nil rfl) rfl)) (nomark _)) (dw_or (dt_cmp (ma := .frz) rfl o_isNot (de_c c_is_closed hr (by decide) (ms := [.frz]) rfl rfl (da_cons (m := .frz) rfl (eV (m := .frz) 2 rfl rfl (.inl rfl) rfl rfl) da_nil rfl) rfl rfl rfl) de_bl (nomark _)) (dw_or1 (dt_cmp (ma := .frz) rfl o_isNot (de_c c_is_balanced hr (by decide) (ms := [.frz]) rfl rfl (da_cons (m := .frz) rfl (de_tup (ms := [.frz, .frz]) allF (by decide +kernel) (da_cons (m := .frz) rfl (DE.frzOf (de_op rfl o_mul (de_tup (ms := [.frz]) allF (by decide +kernel) (da_cons (m := .frz) rfl de_int da_nil rfl)) de_int)) (da_cons (m := .frz) rfl (DE.frzOf (de_op rfl o_mul (de_tup (ms := [.frz]) allF (by decide +kernel) (da_cons (m := .frz) rfl de_int da_nil rfl)) de_int)) da_nil rfl) rfl)) da_nil rfl) rfl rfl rfl) de_bl (nomark _)))))) (dss_cons (M1 := [some .frz, some .own, some .frz, none, none, none, none, none, none, none, none, none, none, none, none, none, none, none, none, none, none, none, none]) (ds_ret (m := .frz) .nil rfl de_bl) dss_nil) dss_nil) (dss_cons (M1 := [some .frz, some .own, some .frz, none, none, none, none, none, none, none, none, none, none, none, none, none, none, none, none, none, none, none, none]) (ds_for (M := [some .frz, some .own, some .frz, none, none, none, none, none, none, none, none, none, none, none, none, none, none, none, none, none, none, none, none]) (M1 := [some .frz, some .own, some .frz, some .frz, none, none, none, none, none, none, none, none, none, none, none, none, none, none, none, none, none, none, none]) (mi := .frz) PassesOwn.never rfl (di_range1 rfl T.z_range (ms := [.frz]) (da_cons (m := .frz) rfl de_int da_nil rfl) rfl) (gN (i := 3) (M := [some .frz, some .own, some .frz, none, none, none, none, none, none, none, none, none, none, none, none, none, none, none, none, none, none, none, none]) (mi := .frz) rfl sc_law.nd rfl (.inl rfl) (.inl rfl)) (dss_cons (M1 := [some .frz, some .own, some .frz, some .frz, some .frz, none, none, none, none, none, none, none, none, none, none, none, none, none, none, none, none, none, none]) (ds_set (i := 4) (m := .frz) rfl sc_law.nd rfl (.inl rfl) (de_ci c__law_take hr (by decide) rfl (m := .own) (i := 1) rfl rfl rfl (.inr (.inl rfl)) rfl (da_cons (m := .frz) rfl de_int da_nil rfl) rfl rfl rfl rfl rfl) rfl (.inl rfl)) (dss_cons (M1 := [some .frz, some .own, some .frz, some .frz, some .frz, some .frz, none, none, none, none, none, none, none, none, none, none, none, none, none, none, none, none, none]) (ds_set (i := 5) (m := .frz) rfl sc_law.nd rfl (.inl rfl) (de_callTy b_tuple rfl T.z_tuple (by decide +kernel) (ms := [.own]) (da_cons (m := .own) rfl (de_lc (own := [("k", 6)]) (M1 := [some .frz, some .own, some .frz, some .frz, some .frz, none, some .frz, none, none, none, none, none, none, none, none, none, none, none, none, none, none, none, none]) (mi := .frz) rfl (by decide) rfl rfl sc_law.nd (di_range1 rfl T.z_range (ms := [.own]) (da_cons (m := .own) rfl (de_op rfl o_add de_int (de_ci c__law_take hr (by decide) rfl (m := .own) (i := 1) rfl rfl rfl (.inr (.inl rfl)) rfl (da_cons (m := .frz) rfl de_int da_nil rfl) rfl rfl rfl rfl rfl)) da_nil rfl) rfl) (blkOk_by (N := ["script", "tape", "ring", "turn", "pick", "track", "k", "sums", "straights", "curves", "a", "b", "fair", "spot", "heading", "closed", "pose", "r", "ahead", "back", "piece", "kind", "n"]) (sc := defScope s_law) (own := [("k", 6)]) (by decide +kernel)) (fun _ _ _ _ _ => (gN (i := 6) (M := [some .frz, some .own, some .frz, some .frz, some .frz, none, none, none, none, none, none, none, none, none, none, none, none, none, none, none, none, none, none]) (mi := .frz) rfl sc_law.nd rfl (.inl rfl) (.inr rfl))) (fun _ _ _ _ _ => dts_nil) (fun _ _ _ _ _ => (de_ci c__law_piece hr (by decide) rfl (m := .own) (i := 1) rfl rfl rfl (.inr (.inl rfl)) rfl (da_cons (m := .frz) rfl de_int da_nil rfl) rfl rfl rfl rfl rfl)) (fun _ => rfl)) da_nil rfl) (by decide +kernel) (by decide +kernel) rfl rfl) rfl (.inl rfl)) (dss_cons (M1 := [some .frz, some .own, some .frz, some .frz, some .frz, some .frz, none, none, none, none, none, none, none, none, none, none, none, none, none, none, none, none, none]) (ds_set (i := 5) (m := .frz) rfl sc_law.nd rfl (.inl rfl) (de_if (dt_cmp (ma := .frz) rfl (o_eq hr.units) (eV (m := .frz) 4 rfl rfl (.inl rfl) rfl rfl) de_int (nomark _)) (de_ci c__law_circle hr (by decide) rfl (m := .own) (i := 1) rfl rfl rfl (.inr (.inl rfl)) rfl da_nil rfl rfl rfl rfl rfl) (de_if (dt_cmp (ma := .frz) rfl (o_eq hr.units) (eV (m := .frz) 4 rfl rfl (.inl rfl) rfl rfl) de_int (nomark _)) (de_callTy b_tuple rfl T.z_tuple (by decide +kernel) (ms := [.own]) (da_cons (m := .own) rfl (de_lc (own := [("piece", 20)]) (M1 := [some .frz, some .own, some .frz, some .frz, some .frz, some .frz, none, none, none, none, none, none, none, none, none, none, none, none, none, none, some .frz, none, none]) (mi := .frz) rfl (by decide) rfl rfl sc_law.nd (di_seq (m := .frz) rfl (eV (m := .frz) 5 rfl rfl (.inl rfl) rfl rfl)) (blkOk_by (N := ["script", "tape", "ring", "turn", "pick", "track", "k", "sums", "straights", "curves", "a", "b", "fair", "spot", "heading", "closed", "pose", "r", "ahead", "back", "piece", "kind", "n"]) (sc := defScope s_law) (own := [("piece", 20)]) (by decide +kernel)) (fun _ _ _ _ _ => (gN (i := 20) (M := [some .frz, some .own, some .frz, some .frz, some .frz, some .frz, none, none, none, none, none, none, none, none, none, none, none, none, none, none, none, none, none]) (mi := .frz) rfl sc_law.nd rfl (.inl rfl) (.inr rfl))) (fun _ _ _ _ _ => (dts_one (dt_cmp (ma := .frz) rfl (o_ne hr.units) (de_ix (ma := .frz) rfl (eV (m := .frz) 20 rfl rfl (.inl rfl) rfl rfl) de_int (fun _ _ => rfl)) de_str (nomark _)))) (fun _ _ _ _ _ => (eV (m := .frz) 20 rfl rfl (.inl rfl) rfl rfl)) (fun _ => rfl)) da_nil rfl) (by decide +kernel) (by decide +kernel) rfl rfl) (eV (m := .frz) 5 rfl rfl (.inl rfl) rfl rfl))) rfl (.inl rfl)) (dss_cons (M1 := [some .frz, some .own, some .frz, some .frz, some .frz, some .frz, none, none, none, none, none, none, none, none, none, none, none, none, none, none, none, none, none]) (ds_if (M' := [some .frz, some .own, some .frz, some .frz, some .frz, some .frz, none, none, none, none, none, none, none, none, none, none, none, none, none, none, none, none, none]) (dt_cmp (ma := .frz) rfl (o_eq hr.units) (eV (m := .frz) 4 rfl rfl (.inl rfl) rfl rfl) de_int (nomark _)) (dss_cons (M1 := [some .frz, some .own, some .frz, some .frz, some .frz, some .frz, none, none, none, none, none, none, none, none, none, none, none, none, none, none, none, none, none]) (ds_set (i := 5) (m := .frz) rfl sc_law.nd rfl (.inl rfl) (DE.frzOf (de_op rfl o_add (de_ci c__law_circle hr (by decide) rfl (m := .own) (i := 1) rfl rfl rfl (.inr (.inl rfl)) rfl da_nil rfl rfl rfl rfl rfl) (de_ci c__law_circle hr (by decide) rfl (m := .own) (i := 1) rfl rfl rfl (.inr (.inl rfl)) rfl da_nil rfl rfl rfl rfl rfl))) rfl (.inl rfl)) (dss_cons (M1 := [some .frz, some .own, some .frz, some .frz, some .frz, some .frz, some .frz, none, none, none, none, none, none, none, none, none, none, none, none, none, none, none, none]) (ds_set (i := 6) (m := .frz) rfl sc_law.nd rfl (.inl rfl) (de_ci c__law_take hr (by decide) rfl (m := .own) (i := 1) rfl rfl rfl (.inr (.inl rfl)) rfl (da_cons (m := .frz) rfl (de_op rfl o_sub (de_callB b_len rfl T.z_len (by decide +kernel) (ms := [.frz]) (da_cons (m := .frz) rfl (eV (m := .frz) 5 rfl rfl (.inl rfl) rfl rfl) da_nil rfl) (by decide +kernel) (by decide +kernel) rfl rfl) de_int) da_nil rfl) rfl rfl rfl rfl rfl) rfl (.inl rfl)) (dss_cons (M1 := [some .frz, some .own, some .frz, some .frz, some .frz, some .frz, some .frz, none, none, none, none, none, none, none, none, none, none, none, none, none, none, none, none]) (ds_set (i := 5) (m := .frz) rfl sc_law.nd rfl (.inl rfl) (DE.frzOf (de_op rfl o_add (de_op rfl o_add (de_slice (ma := .frz) rfl rfl (eV (m := .frz) 5 rfl rfl (.inl rfl) rfl rfl) dp_none (dp_some (m := .frz) (eV (m := .frz) 6 rfl rfl (.inl rfl) rfl rfl))) (de_tup (ms := [.frz, .frz]) allF (by decide +kernel) (da_cons (m := .frz) rfl (de_ix (ma := .frz) rfl (eV (m := .frz) 5 rfl rfl (.inl rfl) rfl rfl) (de_op rfl o_add (eV (m := .frz) 6 rfl rfl (.inl rfl) rfl rfl) de_int) (fun _ _ => rfl)) (da_cons (m := .frz) rfl (de_ix (ma := .frz) rfl (eV (m := .frz) 5 rfl rfl (.inl rfl) rfl rfl) (eV (m := .frz) 6 rfl rfl (.inl rfl) rfl rfl) (fun _ _ => rfl)) da_nil rfl) rfl))) (de_slice (ma := .frz) rfl rfl (eV (m := .frz) 5 rfl rfl (.inl rfl) rfl rfl) (dp_some (m := .own) (de_op rfl o_add (eV (m := .frz) 6 rfl rfl (.inl rfl) rfl rfl) de_int)) dp_none))) rfl (.inl rfl)) (DSs.fin (.cons (.same _) (.cons (.same _) (.cons (.same _) (.cons (.same _) (.cons (.same _) (.cons (.same _) (.cons (.dead _) (.cons (.same _) (.cons (.same _) (.cons (.same _) (.cons (.same _) (.cons (.same _) (.cons (.same _) (.cons (.same _) (.cons (.same _) (.cons (.same _) (.cons (.same _) (.cons (.same _) (.cons (.same _) (.cons (.same _) (.cons (.same _) (.cons (.same _) (.cons (.same _) .nil))))))))))))))))))))))) dss_nil)))) dss_nil) (dss_cons (M1 := [some .frz, some .own, some .frz, some .frz, some .frz, some .frz, none, none, none, none, none, none, none, none, none, none, none, none, none, none, none, none, none]) (ds_if (M' := [some .frz, some .own, some .frz, some .frz, some .frz, some .frz, none, none, none, none, none, none, none, none, none, none, none, none, none, none, none, none, none]) (dt_cmp (ma := .frz) rfl (o_eq hr.units) (eV (m := .frz) 5 rfl rfl (.inl rfl) rfl rfl) (de_tup (ms := []) (fun _ h => nomatch h) (by decide +kernel) da_nil) (nomark _)) (dss_cons (M1 := [some .frz, some .own, some .frz, some .frz, some .frz, some .frz, none, none, none, none, none, none, none, none, none, none, none, none, none, none, none, none, none]) (ds_continue (.cons (.same _) (.cons (.same _) (.cons (.same _) (.cons (.dead _) (.cons (.dead _) (.cons (.dead _) (.cons (.same _) (.cons (.same _) (.cons (.same _) (.cons (.same _) (.cons (.same _) (.cons (.same _) (.cons (.same _) (.cons (.same _) (.cons (.same _) (.cons (.same _) (.cons (.same _) (.cons (.same _) (.cons (.same _) (.cons (.same _) (.cons (.same _) (.cons (.same _) (.cons (.same _) .nil)))))))))))))))))))))))) dss_nil) dss_nil) (dss_cons (M1 := [some .frz, some .own, some .frz, some .frz, some .frz, some .frz, none, some .frz, none, none, none, none, none, none, none, none, none, none, none, none, none, none, none]) (ds_set (i := 7) (m := .frz) rfl sc_law.nd rfl (.inl rfl) (de_c c__law_sums hr (by decide) (ms := [.frz]) rfl rfl (da_cons (m := .frz) rfl (eV (m := .frz) 5 rfl rfl (.inl rfl) rfl rfl) da_nil rfl) rfl rfl rfl) rfl (.inl rfl)) (dss_cons (M1 := [some .frz, some .own, some .frz, some .frz, some .frz, some .frz, none, some .frz, some .frz, some .frz, none, none, none, none, none, none, none, none, none, none, none, none, none]) (ds_asg (m := .frz) (eV (m := .frz) 7 rfl rfl (.inl rfl) rfl rfl) (dg_tup rfl (dgs_cons (gN (i := 8) (M := [some .frz, some .own, some .frz, some .frz, some .frz, some .frz, none, some .frz, none, none, none, none, none, none, none, none, none, none, none, none, none, none, none]) (mi := .frz) rfl sc_law.nd rfl (.inr rfl) (.inl rfl)) (dgs_cons (gN (i := 9) (M := [some .frz, some .own, some .frz, some .frz, some .frz, some .frz, none, some .frz, some .frz, none, none, none, none, none, none, none, none, none, none, none, none, none, none]) (mi := .frz) rfl sc_law.nd rfl (.inr rfl) (.inl rfl)) dgs_nil rfl) rfl) rfl rfl) rfl rfl rfl) (dss_cons (M1 := [some .frz, some .own, some .frz, some .frz, some .frz, some .frz, none, some .frz, some .frz, some .frz, some .frz, some .frz, none, none, none, none, none, none, none, none, none, none, none]) (ds_par2 (i := 10) (j := 11) (m1 := .frz) (m2 := .frz) rfl rfl rfl sc_law.nd rfl rfl (by decide) rfl rfl (DE.frzOf (de_lc (own := [("k", 6)]) (M1 := [some .frz, some .own, some .frz, some .frz, some .frz, some .frz, some .frz, some .frz, some .frz, some .frz, none, none, none, none, none, none, none, none, none, none, none, none, none]) (mi := .frz) rfl (by decide) rfl rfl sc_law.nd (di_range1 rfl T.z_range (ms := [.frz]) (da_cons (m := .frz) rfl de_int da_nil rfl) rfl) (blkOk_by (N := ["script", "tape", "ring", "turn", "pick", "track", "k", "sums", "straights", "curves", "a", "b", "fair", "spot", "heading", "closed", "pose", "r", "ahead", "back", "piece", "kind", "n"]) (sc := defScope s_law) (own := [("k", 6)]) (by decide +kernel)) (fun _ _ _ _ _ => (gN (i := 6) (M := [some .frz, some .own, some .frz, some .frz, some .frz, some .frz, none, some .frz, some .frz, some .frz, none, none, none, none, none, none, none, none, none, none, none, none, none]) (mi := .frz) rfl sc_law.nd rfl (.inl rfl) (.inr rfl))) (fun _ _ _ _ _ => dts_nil) (fun _ _ _ _ _ => (de_op rfl o_sub (de_ix (ma := .frz) rfl (eV (m := .frz) 8 rfl rfl (.inr (.inl rfl)) rfl rfl) (eV (m := .frz) 6 rfl rfl (.inl rfl) rfl rfl) (fun _ _ => rfl)) (de_ix (ma := .frz) rfl (eV (m := .frz) 8 rfl rfl (.inr (.inl rfl)) rfl rfl) (de_op rfl o_add (eV (m := .frz) 6 rfl rfl (.inl rfl) rfl rfl) de_int) (fun _ _ => rfl)))) (fun _ => rfl))) (DE.frzOf (de_lc (own := [("k", 6)]) (M1 := [some .frz, some .own, some .frz, some .frz, some .frz, some .frz, some .frz, some .frz, some .frz, some .frz, none, none, none, none, none, none, none, none, none, none, none, none, none]) (mi := .frz) rfl (by decide) rfl rfl sc_law.nd (di_range1 rfl T.z_range (ms := [.frz]) (da_cons (m := .frz) rfl de_int da_nil rfl) rfl) (blkOk_by (N := ["script", "tape", "ring", "turn", "pick", "track", "k", "sums", "straights", "curves", "a", "b", "fair", "spot", "heading", "closed", "pose", "r", "ahead", "back", "piece", "kind", "n"]) (sc := defScope s_law) (own := [("k", 6)]) (by decide +kernel)) (fun _ _ _ _ _ => (gN (i := 6) (M := [some .frz, some .own, some .frz, some .frz, some .frz, some .frz, none, some .frz, some .frz, some .frz, none, none, none, none, none, none, none, none, none, none, none, none, none]) (mi := .frz) rfl sc_law.nd rfl (.inl rfl) (.inr rfl))) (fun _ _ _ _ _ => dts_nil) (fun _ _ _ _ _ => (de_op rfl o_sub (de_ix (ma := .frz) rfl (eV (m := .frz) 9 rfl rfl (.inr (.inl rfl)) rfl rfl) (eV (m := .frz) 6 rfl rfl (.inl rfl) rfl rfl) (fun _ _ => rfl)) (de_ix (ma := .frz) rfl (eV (m := .frz) 9 rfl rfl (.inr (.inl rfl)) rfl rfl) (de_op rfl o_add (eV (m := .frz) 6 rfl rfl (.inl rfl) rfl rfl) de_int) (fun _ _ => rfl)))) (fun _ => rfl))) rfl rfl rfl rfl) (dss_cons (M1 := [some .frz, some .own, some .frz, some .frz, some .frz, some .frz, none, some .frz, some .frz, some .frz, some .frz, some .frz, none, none, none, none, none, none, none, none, none, none, none]) (ds_if (M' := [some .frz, some .own, some .frz, some .frz, some .frz, some .frz, none, some .frz, some .frz, some .frz, some .frz, some .frz, none, none, none, none, none, none, none, none, none, none, none]) (dt_not (dt_val (m := .frz) (de_c (c__law_same 8) hr (by decide) (ms := [.frz, .frz]) rfl rfl (da_cons (m := .frz) rfl (de_tup (ms := [.frz, .frz]) allF (by decide +kernel) (da_cons (m := .frz) rfl (de_c c_sums_of hr (by decide) (ms := [.frz]) rfl rfl (da_cons (m := .frz) rfl (eV (m := .frz) 5 rfl rfl (.inl rfl) rfl rfl) da_nil rfl) rfl rfl rfl) (da_cons (m := .frz) rfl (de_c c_balance_of hr (by decide) (ms := [.frz]) rfl rfl (da_cons (m := .frz) rfl (eV (m := .frz) 7 rfl rfl (.inl rfl) rfl rfl) da_nil rfl) rfl rfl rfl) da_nil rfl) rfl)) (da_cons (m := .frz) rfl (de_tup (ms := [.frz, .frz]) allF (by decide +kernel) (da_cons (m := .frz) rfl (eV (m := .frz) 7 rfl rfl (.inl rfl) rfl rfl) (da_cons (m := .frz) rfl (de_tup (ms := [.frz, .frz]) allF (by decide +kernel) (da_cons (m := .frz) rfl (de_callTy b_tuple rfl T.z_tuple (by decide +kernel) (ms := [.frz]) (da_cons (m := .frz) rfl (eV (m := .frz) 10 rfl rfl (.inl rfl) rfl rfl) da_nil rfl) (by decide +kernel) (by decide +kernel) rfl rfl) (da_cons (m := .frz) rfl (de_callTy b_tuple rfl T.z_tuple (by decide +kernel) (ms := [.frz]) (da_cons (m := .frz) rfl (eV (m := .frz) 11 rfl rfl (.inl rfl) rfl rfl) da_nil rfl) (by decide +kernel) (by decide +kernel) rfl rfl) da_nil rfl) rfl)) da_nil rfl) rfl)) da_nil rfl) rfl) rfl rfl rfl) (fun _ => rfl))) (dss_cons (M1 := [some .frz, some .own, some .frz, some .frz, some .frz, some .frz, none, some .frz, some .frz, some .frz, some .frz, some .frz, none, none, none, none, none, none, none, none, none, none, none]) (ds_ret (m := .frz) .nil rfl de_bl) dss_nil) dss_nil) (dss_cons (M1 := [some .frz, some .own, some .frz, some .frz, some .frz, some .frz, none, some .frz, some .frz, some .frz, some .frz, some .frz, some .frz, none, none, none, none, none, none, none, none, none, none]) (ds_set (i := 12) (m := .frz) rfl sc_law.nd rfl (.inl rfl) (de_cmp (ma := .frz) rfl (o_eq hr.units) (eV (m := .frz) 10 rfl rfl (.inl rfl) rfl rfl) (de_lst (ms := [.frz, .frz, .frz, .frz]) allF (by decide +kernel) (da_cons (m := .frz) rfl (de_op rfl o_sub (de_ix (ma := .frz) rfl (eV (m := .frz) 11 rfl rfl (.inl rfl) rfl rfl) de_int (fun _ _ => rfl)) (de_ix (ma := .frz) rfl (eV (m := .frz) 11 rfl rfl (.inl rfl) rfl rfl) de_int (fun _ _ => rfl))) (da_cons (m := .frz) rfl (de_op rfl o_sub (de_ix (ma := .frz) rfl (eV (m := .frz) 11 rfl rfl (.inl rfl) rfl rfl) de_int (fun _ _ => rfl)) (de_ix (ma := .frz) rfl (eV (m := .frz) 11 rfl rfl (.inl rfl) rfl rfl) de_int (fun _ _ => rfl))) (da_cons (m := .frz) rfl (de_op rfl o_sub (de_op rfl o_sub de_int (de_ix (ma := .frz) rfl (eV (m := .frz) 11 rfl rfl (.inl rfl) rfl rfl) de_int (fun _ _ => rfl))) (de_ix (ma := .frz) rfl (eV (m := .frz) 11 rfl rfl (.inl rfl) rfl rfl) de_int (fun _ _ => rfl))) (da_cons (m := .frz) rfl (de_op rfl o_sub (de_ix (ma := .frz) rfl (eV (m := .frz) 11 rfl rfl (.inl rfl) rfl rfl) de_int (fun _ _ => rfl)) (de_ix (ma := .frz) rfl (eV (m := .frz) 11 rfl rfl (.inl rfl) rfl rfl) de_int (fun _ _ => rfl))) da_nil rfl) rfl) rfl) rfl)) (nomark _)) rfl (.inl rfl)) (dss_cons (M1 := [some .frz, some .own, some .frz, some .frz, some .frz, some .frz, none, some .frz, some .frz, some .frz, some .frz, some .frz, some .frz, some .frz, some .frz, none, none, none, none, none, none, none, none]) (ds_asg (m := .frz) (de_c c__law_after hr (by decide) (ms := [.frz]) rfl rfl (da_cons (m := .frz) rfl (eV (m := .frz) 5 rfl rfl (.inl rfl) rfl rfl) da_nil rfl) rfl rfl rfl) (dg_tup rfl (dgs_cons (gN (i := 13) (M := [some .frz, some .own, some .frz, some .frz, some .frz, some .frz, none, some .frz, some .frz, some .frz, some .frz, some .frz, some .frz, none, none, none, none, none, none, none, none, none, none]) (mi := .frz) rfl sc_law.nd rfl (.inl rfl) (.inl rfl)) (dgs_cons (gN (i := 14) (M := [some .frz, some .own, some .frz, some .frz, some .frz, some .frz, none, some .frz, some .frz, some .frz, some .frz, some .frz, some .frz, some .frz, none, none, none, none, none, none, none, none, none]) (mi := .frz) rfl sc_law.nd rfl (.inl rfl) (.inl rfl)) dgs_nil rfl) rfl) rfl rfl) rfl rfl rfl) (dss_cons (M1 := [some .frz, some .own, some .frz, some .frz, some .frz, some .frz, none, some .frz, some .frz, some .frz, some .frz, some .frz, some .frz, some .frz, some .frz, some .frz, none, none, none, none, none, none, none]) (ds_set (i := 15) (m := .frz) rfl sc_law.nd rfl (.inl rfl) (de_and (de_cmp (ma := .frz) rfl (o_eq hr.units) (eV (m := .frz) 14 rfl rfl (.inl rfl) rfl rfl) de_int (nomark _)) (de_one (de_cmp (ma := .frz) rfl (o_eq hr.units) (eV (m := .frz) 13 rfl rfl (.inl rfl) rfl rfl) (de_tup (ms := [.frz, .frz, .frz, .frz]) allF (by decide +kernel) (da_cons (m := .frz) rfl de_int (da_cons (m := .frz) rfl de_int (da_cons (m := .frz) rfl de_int (da_cons (m := .frz) rfl de_int da_nil rfl) rfl) rfl) rfl)) (nomark _)))) rfl (.inl rfl)) (dss_cons (M1 := [some .frz, some .own, some .frz, some .frz, some .frz, some .frz, none, some .frz, some .frz, some .frz, some .frz, some .frz, some .frz, some .frz, some .frz, some .frz, none, none, none, none, none, none, none]) (ds_if (M' := [some .frz, some .own, some .frz, some .frz, some .frz, some .frz, none, some .frz, some .frz, some .frz, some .frz, some .frz, some .frz, some .frz, some .frz, some .frz, none, none, none, none, none, none, none]) (dt_bool (dw_or (dt_not (dt_val (m := .frz) (de_c (c__law_same 8) hr (by decide) (ms := [.frz, .frz]) rfl rfl (da_cons (m := .frz) rfl (de_tup (ms := [.frz, .frz]) allF (by decide +kernel) (da_cons (m := .frz) rfl (de_c c_is_balanced hr (by decide) (ms := [.frz]) rfl rfl (da_cons (m := .frz) rfl (de_tup (ms := [.frz, .frz]) allF (by decide +kernel) (da_cons (m := .frz) rfl (de_callTy b_tuple rfl T.z_tuple (by decide +kernel) (ms := [.frz]) (da_cons (m := .frz) rfl (eV (m := .frz) 10 rfl rfl (.inl rfl) rfl rfl) da_nil rfl) (by decide +kernel) (by decide +kernel) rfl rfl) (da_cons (m := .frz) rfl (de_callTy b_tuple rfl T.z_tuple (by decide +kernel) (ms := [.frz]) (da_cons (m := .frz) rfl (eV (m := .frz) 11 rfl rfl (.inl rfl) rfl rfl) da_nil rfl) (by decide +kernel) (by decide +kernel) rfl rfl) da_nil rfl) rfl)) da_nil rfl) rfl rfl rfl) (da_cons (m := .frz) rfl (de_c c_is_closed hr (by decide) (ms := [.frz]) rfl rfl (da_cons (m := .frz) rfl (eV (m := .frz) 5 rfl rfl (.inl rfl) rfl rfl) da_nil rfl) rfl rfl rfl) da_nil rfl) rfl)) (da_cons (m := .frz) rfl (de_tup (ms := [.frz, .frz]) allF (by decide +kernel) (da_cons (m := .frz) rfl (eV (m := .frz) 12 rfl rfl (.inl rfl) rfl rfl) (da_cons (m := .frz) rfl (eV (m := .frz) 15 rfl rfl (.inl rfl) rfl rfl) da_nil rfl) rfl)) da_nil rfl) rfl) rfl rfl rfl) (fun _ => rfl))) (dw_or1 (dt_cmp (ma := .frz) rfl (o_ne hr.units) (eV (m := .frz) 15 rfl rfl (.inl rfl) rfl rfl) (de_and (eV (m := .frz) 12 rfl rfl (.inl rfl) rfl rfl) (de_one (de_cmp (ma := .frz) rfl (o_eq hr.units) (eV (m := .frz) 14 rfl rfl (.inl rfl) rfl rfl) de_int (nomark _)))) (nomark _))))) (dss_cons (M1 := [some .frz, some .own, some .frz, some .frz, some .frz, some .frz, none, some .frz, some .frz, some .frz, some .frz, some .frz, some .frz, some .frz, some .frz, some .frz, none, none, none, none, none, none, none]) (ds_ret (m := .frz) .nil rfl de_bl) dss_nil) dss_nil) (dss_cons (M1 := [some .frz, some .own, some .frz, some .frz, some .frz, some .frz, none, some .frz, some .frz, some .frz, some .frz, some .frz, some .frz, some .frz, some .frz, some .frz, none, none, none, none, none, none, none]) (ds_if (M' := [some .frz, some .own, some .frz, some .frz, some .frz, some .frz, none, some .frz, some .frz, some .frz, some .frz, some .frz, some .frz, some .frz, some .frz, some .frz, none, none, none, none, none, none, none]) (dt_not (dt_val (m := .frz) (de_c (c__law_same 8) hr (by decide) (ms := [.frz, .frz]) rfl rfl (da_cons (m := .frz) rfl (de_c c_pose_after hr (by decide) (ms := [.frz, .frz]) rfl rfl (da_cons (m := .frz) rfl (de_tup (ms := [.frz, .frz]) allF (by decide +kernel) (da_cons (m := .frz) rfl (de_tup (ms := [.frz, .frz, .frz, .frz]) allF (by decide +kernel) (da_cons (m := .frz) rfl de_int (da_cons (m := .frz) rfl de_int (da_cons (m := .frz) rfl de_int (da_cons (m := .frz) rfl de_int da_nil rfl) rfl) rfl) rfl)) (da_cons (m := .frz) rfl de_int da_nil rfl) rfl)) (da_cons (m := .frz) rfl (eV (m := .frz) 5 rfl rfl (.inl rfl) rfl rfl) da_nil rfl) rfl) rfl rfl rfl) (da_cons (m := .frz) rfl (de_tup (ms := [.frz, .frz]) allF (by decide +kernel) (da_cons (m := .frz) rfl (eV (m := .frz) 13 rfl rfl (.inl rfl) rfl rfl) (da_cons (m := .frz) rfl (eV (m := .frz) 14 rfl rfl (.inl rfl) rfl rfl) da_nil rfl) rfl)) da_nil rfl) rfl) rfl rfl rfl) (fun _ => rfl))) (dss_cons (M1 := [some .frz, some .own, some .frz, some .frz, some .frz, some .frz, none, some .frz, some .frz, some .frz, some .frz, some .frz, some .frz, some .frz, some .frz, some .frz, none, none, none, none, none, none, none]) (ds_ret (m := .frz) .nil rfl de_bl) dss_nil) dss_nil) (dss_cons (M1 := [some .frz, some .own, some .frz, some .frz, some .frz, some .frz, none, some .frz, some .frz, some .frz, some .frz, some .frz, some .frz, some .frz, some .frz, some .frz, none, none, none, none, none, none, none]) (ds_if (M' := [some .frz, some .own, some .frz, some .frz, some .frz, some .frz, none, some .frz, some .frz, some .frz, some .frz, some .frz, some .frz, some .frz, some .frz, some .frz, none, none, none, none, none, none, none]) (dt_bool (dw_and (dt_not (dt_val (m := .frz) (de_callB (b_any rfl) rfl T.z_any (by decide +kernel) (ms := [.own]) (da_cons (m := .own) rfl (de_lc (own := [("kind", 21), ("n", 22)]) (M1 := [some .frz, some .own, some .frz, some .frz, some .frz, some .frz, none, some .frz, some .frz, some .frz, some .frz, some .frz, some .frz, some .frz, some .frz, some .frz, none, none, none, none, none, some .frz, some .frz]) (mi := .frz) rfl (by decide) rfl rfl sc_law.nd (di_seq (m := .frz) rfl (eV (m := .frz) 5 rfl rfl (.inl rfl) rfl rfl)) (blkOk_by (N := ["script", "tape", "ring", "turn", "pick", "track", "k", "sums", "straights", "curves", "a", "b", "fair", "spot", "heading", "closed", "pose", "r", "ahead", "back", "piece", "kind", "n"]) (sc := defScope s_law) (own := [("kind", 21), ("n", 22)]) (by decide +kernel)) (fun _ _ _ _ _ => (dg_tup rfl (dgs_cons (gN (i := 21) (M := [some .frz, some .own, some .frz, some .frz, some .frz, some .frz, none, some .frz, some .frz, some .frz, some .frz, some .frz, some .frz, some .frz, some .frz, some .frz, none, none, none, none, none, none, none]) (mi := .frz) rfl sc_law.nd rfl (.inl rfl) (.inr rfl)) (dgs_cons (gN (i := 22) (M := [some .frz, some .own, some .frz, some .frz, some .frz, some .frz, none, some .frz, some .frz, some .frz, some .frz, some .frz, some .frz, some .frz, some .frz, some .frz, none, none, none, none, none, some .frz, none]) (mi := .frz) rfl sc_law.nd rfl (.inl rfl) (.inr rfl)) dgs_nil rfl) rfl) rfl rfl)) (fun _ _ _ _ _ => dts_nil) (fun _ _ _ _ _ => (de_cmp (ma := .frz) rfl (o_eq hr.units) (eV (m := .frz) 21 rfl rfl (.inl rfl) rfl rfl) de_str (nomark _))) (fun _ => rfl)) da_nil rfl) (by decide +kernel) (by decide +kernel) rfl rfl) (fun _ => rfl))) (dw_and (dt_cmp (ma := .frz) rfl (o_eq hr.units) (eV (m := .frz) 14 rfl rfl (.inl rfl) rfl rfl) de_int (nomark _)) (dw_and1 (dt_cmp (ma := .frz) rfl (o_ne hr.units) (eV (m := .frz) 15 rfl rfl (.inl rfl) rfl rfl) (de_cmp (ma := .own) rfl (o_eq hr.units) (de_slice (ma := .frz) rfl rfl (eV (m := .frz) 9 rfl rfl (.inr (.inl rfl)) rfl rfl) dp_none (dp_some (m := .frz) de_int)) (de_slice (ma := .frz) rfl rfl (eV (m := .frz) 9 rfl rfl (.inr (.inl rfl)) rfl rfl) (dp_some (m := .frz) de_int) dp_none) (nomark _)) (nomark _)))))) (dss_cons (M1 := [some .frz, some .own, some .frz, some .frz, some .frz, some .frz, none, some .frz, some .frz, some .frz, some .frz, some .frz, some .frz, some .frz, some .frz, some .frz, none, none, none, none, none, none, none]) (ds_ret (m := .frz) .nil rfl de_bl) dss_nil) dss_nil) (dss_cons (M1 := [some .frz, some .own, some .frz, some .frz, some .frz, some .frz, none, some .frz, some .frz, some .frz, some .frz, some .frz, some .frz, some .frz, some .frz, some .frz, none, none, none, none, none, none, none]) (ds_if (M' := [some .frz, some .own, some .frz, some .frz, some .frz, some .frz, none, some .frz, some .frz, some .frz, some .frz, some .frz, some .frz, some .frz, some .frz, some .frz, none, none, none, none, none, none, none]) (dt_bool (dw_and (dt_val (m := .frz) (eV (m := .frz) 15 rfl rfl (.inl rfl) rfl rfl) (fun _ => rfl)) (dw_and1 (dt_cmp (ma := .frz) rfl o_isNot (de_c c_is_closed hr (by decide) (ms := [.frz]) rfl rfl (da_cons (m := .frz) rfl (de_c c_turned_track hr (by decide) (ms := [.frz, .frz]) rfl rfl (da_cons (m := .frz) rfl (eV (m := .frz) 5 rfl rfl (.inl rfl) rfl rfl) (da_cons (m := .frz) rfl (de_ci c__law_take hr (by decide) rfl (m := .own) (i := 1) rfl rfl rfl (.inr (.inl rfl)) rfl (da_cons (m := .frz) rfl (de_callB b_len rfl T.z_len (by decide +kernel) (ms := [.frz]) (da_cons (m := .frz) rfl (eV (m := .frz) 5 rfl rfl (.inl rfl) rfl rfl) da_nil rfl) (by decide +kernel) (by decide +kernel) rfl rfl) da_nil rfl) rfl rfl rfl rfl rfl) da_nil rfl) rfl) rfl rfl rfl) da_nil rfl) rfl rfl rfl) de_bl (nomark _))))) (dss_cons (M1 := [some .frz, some .own, some .frz, some .frz, some .frz, some .frz, none, some .frz, some .frz, some .frz, some .frz, some .frz, some .frz, some .frz, some .frz, some .frz, none, none, none, none, none, none, none]) (ds_ret (m := .frz) .nil rfl de_bl) dss_nil) dss_nil) (dss_cons (M1 := [some .frz, some .own, some .frz, some .frz, some .frz, some .frz, none, some .frz, some .frz, some .frz, some .frz, some .frz, some .frz, some .frz, some .frz, some .frz, some .frz, some .frz, none, none, none, none, none]) (ds_par2 (i := 16) (j := 17) (m1 := .frz) (m2 := .frz) rfl rfl rfl sc_law.nd rfl rfl (by decide) rfl rfl (de_tup (ms := [.frz, .frz]) allF (by decide +kernel) (da_cons (m := .frz) rfl (eV (m := .frz) 13 rfl rfl (.inl rfl) rfl rfl) (da_cons (m := .frz) rfl (eV (m := .frz) 14 rfl rfl (.inl rfl) rfl rfl) da_nil rfl) rfl)) (DE.frzOf (de_op rfl o_add de_int (de_ci c__law_take hr (by decide) rfl (m := .own) (i := 1) rfl rfl rfl (.inr (.inl rfl)) rfl (da_cons (m := .frz) rfl de_int da_nil rfl) rfl rfl rfl rfl rfl))) rfl rfl rfl rfl) (dss_cons (M1 := [some .frz, some .own, some .frz, some .frz, some .frz, some .frz, none, some .frz, some .frz, some .frz, some .frz, some .frz, some .frz, some .frz, some .frz, some .frz, some .frz, some .frz, some .frz, none, none, none, none]) (ds_set (i := 18) (m := .frz) rfl sc_law.nd rfl (.inl rfl) (de_c c__law_behind hr (by decide) (ms := [.frz, .frz]) rfl rfl (da_cons (m := .frz) rfl (eV (m := .frz) 16 rfl rfl (.inl rfl) rfl rfl) (da_cons (m := .frz) rfl (de_tup (ms := [.frz, .frz]) allF (by decide +kernel) (da_cons (m := .frz) rfl de_str (da_cons (m := .frz) rfl (eV (m := .frz) 17 rfl rfl (.inl rfl) rfl rfl) da_nil rfl) rfl)) da_nil rfl) rfl) rfl rfl rfl) rfl (.inl rfl)) (dss_cons (M1 := [some .frz, some .own, some .frz, some .frz, some .frz, some .frz, none, some .frz, some .frz, some .frz, some .frz, some .frz, some .frz, some .frz, some .frz, some .frz, some .frz, some .frz, some .frz, some .frz, none, none, none]) (ds_set (i := 19) (m := .frz) rfl sc_law.nd rfl (.inl rfl) (de_c c__law_behind hr (by decide) (ms := [.frz, .frz]) rfl rfl (da_cons (m := .frz) rfl (de_tup (ms := [.frz, .frz]) allF (by decide +kernel) (da_cons (m := .frz) rfl (de_ix (ma := .frz) rfl (eV (m := .frz) 16 rfl rfl (.inl rfl) rfl rfl) de_int (fun _ _ => rfl)) (da_cons (m := .frz) rfl (de_ix (ma := .frz) rfl (eV (m := .frz) 18 rfl rfl (.inl rfl) rfl rfl) de_int (fun _ _ => rfl)) da_nil rfl) rfl)) (da_cons (m := .frz) rfl (de_tup (ms := [.frz, .frz]) allF (by decide +kernel) (da_cons (m := .frz) rfl de_str (da_cons (m := .frz) rfl (eV (m := .frz) 17 rfl rfl (.inl rfl) rfl rfl) da_nil rfl) rfl)) da_nil rfl) rfl) rfl rfl rfl) rfl (.inl rfl)) (dss_cons (M1 := [some .frz, some .own, some .frz, some .frz, some .frz, some .frz, none, some .frz, some .frz, some .frz, some .frz, some .frz, some .frz, some .frz, some .frz, some .frz, some .frz, some .frz, some .frz, some .frz, none, none, none]) (ds_if (M' := [some .frz, some .own, some .frz, some .frz, some .frz, some .frz, none, some .frz, some .frz, some .frz, some .frz, some .frz, some .frz, some .frz, some .frz, some .frz, some .frz, some .frz, some .frz, some .frz, none, none, none]) (dt_not (dt_val (m := .frz) (de_c (c__law_same 8) hr (by decide) (ms := [.frz, .frz]) rfl rfl (da_cons (m := .frz) rfl (de_tup (ms := [.frz, .frz, .frz]) allF (by decide +kernel) (da_cons (m := .frz) rfl (de_ix (ma := .frz) rfl (eV (m := .frz) 19 rfl rfl (.inl rfl) rfl rfl) de_int (fun _ _ => rfl)) (da_cons (m := .frz) rfl (de_c c_gap_of hr (by decide) (ms := [.frz, .frz]) rfl rfl (da_cons (m := .frz) rfl (de_tup (ms := [.frz, .frz]) allF (by decide +kernel) (da_cons (m := .frz) rfl de_str (da_cons (m := .frz) rfl (eV (m := .frz) 17 rfl rfl (.inl rfl) rfl rfl) da_nil rfl) rfl)) (da_cons (m := .frz) rfl (eV (m := .frz) 14 rfl rfl (.inl rfl) rfl rfl) da_nil rfl) rfl) rfl rfl rfl) (da_cons (m := .frz) rfl (de_c c_gap_of hr (by decide) (ms := [.frz, .frz]) rfl rfl (da_cons (m := .frz) rfl (de_tup (ms := [.frz, .frz]) allF (by decide +kernel) (da_cons (m := .frz) rfl de_str (da_cons (m := .frz) rfl (eV (m := .frz) 17 rfl rfl (.inl rfl) rfl rfl) da_nil rfl) rfl)) (da_cons (m := .frz) rfl (de_ix (ma := .frz) rfl (eV (m := .frz) 18 rfl rfl (.inl rfl) rfl rfl) de_int (fun _ _ => rfl)) da_nil rfl) rfl) rfl rfl rfl) da_nil rfl) rfl) rfl)) (da_cons (m := .frz) rfl (de_tup (ms := [.frz, .frz, .frz]) allF (by decide +kernel) (da_cons (m := .frz) rfl (de_ix (ma := .frz) rfl (eV (m := .frz) 18 rfl rfl (.inl rfl) rfl rfl) de_int (fun _ _ => rfl)) (da_cons (m := .frz) rfl (eV (m := .frz) 14 rfl rfl (.inl rfl) rfl rfl) (da_cons (m := .frz) rfl (eV (m := .frz) 14 rfl rfl (.inl rfl) rfl rfl) da_nil rfl) rfl) rfl)) da_nil rfl) rfl) rfl rfl rfl) (fun _ => rfl))) (dss_cons (M1 := [some .frz, some .own, some .frz, some .frz, some .frz, some .frz, none, some .frz, some .frz, some .frz, some .frz, some .frz, some .frz, some .frz, some .frz, some .frz, some .frz, some .frz, some .frz, some .frz, none, none, none]) (ds_ret (m := .frz) .nil rfl de_bl) dss_nil) dss_nil) (DSs.fin (.cons (.same _) (.cons (.same _) (.cons (.same _) (.cons (.dead _) (.cons (.dead _) (.cons (.dead _) (.cons (.same _) (.cons (.dead _) (.cons (.dead _) (.cons (.dead _) (.cons (.dead _) (.cons (.dead _) (.cons (.dead _) (.cons (.dead _) (.cons (.dead _) (.cons (.dead _) (.cons (.dead _) (.cons (.dead _) (.cons (.dead _) (.cons (.dead _) (.cons (.same _) (.cons (.same _) (.cons (.same _) .nil))))))))))))))))))))))) dss_nil))))))))))))))))))))) (fun _ => rfl)) (dss_cons (M1 := [some .frz, none, none, none, none, none, none, none, none, none, none, none, none, none, none, none, none, none, none, none, none, none, none]) (ds_ret (m := .frz) .nil rfl de_bl) dss_nil)))))
end
end Lw
/-! Mth06: the law k06: what it computes is True. -/
namespace Lw
open PySem hiding Env step
open Dn Lb

/-! ### rows of whole numbers -/
def encR (l : List Int) : D := .tuple (l.map .int)
def encRL (l : List Int) : D := .list (l.map .int)
def addAt (l : List Int) (i : Nat) (n : Int) : List Int := l.set i ((l[i]?.getD 0) + n)
theorem imm_ints (l : List Int) : immutAll (l.map PyData.int) = true := imm_all fun d hd => by
  obtain ⟨i, _, rfl⟩ := List.mem_map.mp hd
  rfl
theorem ok_R (n : Nat) (l : List Int) (h : l.length ≤ 16777216) : Ok (n + 1) (encR l) := .tup (fun d hd => by
  obtain ⟨i, _, rfl⟩ := List.mem_map.mp hd
  exact .int i) (by rw [List.length_map]; exact h)
theorem ok_RL (n : Nat) (l : List Int) (h : l.length ≤ 16777216) : Ok (n + 1) (encRL l) := .lst (fun d hd => by
  obtain ⟨i, _, rfl⟩ := List.mem_map.mp hd
  exact .int i) (by rw [List.length_map]; exact h)
theorem eqvAll_ints : ∀ a b : List Int, PyData.eqvAll (a.map PyData.int) (b.map PyData.int) = decide (a = b)
  | [], [] => by simp [PyData.eqvAll]
  | [], _ :: _ => by simp [PyData.eqvAll]
  | _ :: _, [] => by simp [PyData.eqvAll]
  | x :: a, y :: b => by
    simp only [List.map_cons, PyData.eqvAll, PyData.eqv, eqvAll_ints a b]
    rw [Bool.eq_iff_iff]
    simp
theorem eqD_R (a b : List Int) (ha : a.length ≤ 16777216) (hb : b.length ≤ 16777216) : eqD (encR a) (encR b) = some (.bool (decide (a = b))) := by
  rw [eqD_ev (ok_R 0 a ha) (ok_R 0 b hb) (by omega)]
  show some (PyData.bool (PyData.eqv (.tuple _) (.tuple _))) = _
  simp only [PyData.eqv]
  rw [eqvAll_ints]
theorem eqD_RL (a b : List Int) (ha : a.length ≤ 16777216) (hb : b.length ≤ 16777216) : eqD (encRL a) (encRL b) = some (.bool (decide (a = b))) := by
  rw [eqD_ev (ok_RL 0 a ha) (ok_RL 0 b hb) (by omega)]
  show some (PyData.bool (PyData.eqv (.list _) (.list _))) = _
  simp only [PyData.eqv]
  rw [eqvAll_ints]
theorem tupleR (l : List Int) : tupleD [encRL l] = some (encR l) := tupleD_list (imm_ints l)
theorem get_ints {l : List Int} {i : Nat} (h : i < l.length) : (l.map PyData.int)[i]? = some (.int (l[i]?.getD 0)) := by
  rw [List.getElem?_map, List.getElem?_eq_getElem h]
  rfl
theorem ixN_nat {n i : Nat} (h : i < n) : L2.ixN n (i : Int) = some i := by
  unfold L2.ixN
  rw [if_pos (by omega), if_pos (by omega)]
  exact congrArg some (Int.toNat_natCast i)
theorem set_ints (l : List Int) (i : Nat) (n : Int) : (l.map PyData.int).set i (.int n) = (l.set i n).map PyData.int := by rw [List.map_set]
/-- x[i] = v + n, and x[i] += n -/
theorem stI_add {s : Nat} {f g : CE} {δ δ3 : Env} {l : List Int} {i : Nat} {n : Int} (hs : δ[s]? = some (some (encRL l))) (hf : f δ = some (.int ((l[i]?.getD 0) + n), δ)) (hg : g δ = some (.int (i : Int), δ)) (hi : i < l.length) (h6 : δ.set s (some (encRL (addAt l i n))) = δ3) : Dn.stI s f g δ = some (.nx δ3) := by
  refine stI_ev hf hs hg hs (j := i) (ixN_nat (by rw [List.length_map]; exact hi)) ?_
  rw [← h6, set_ints]
  rfl
theorem auI_add {s : Nat} {f g : CE} {δ δ3 : Env} {l : List Int} {i : Nat} {n : Int} (hs : δ[s]? = some (some (encRL l))) (hg : g δ = some (.int (i : Int), δ)) (hf : f δ = some (.int n, δ)) (hi : i < l.length) (h6 : δ.set s (some (encRL (addAt l i n))) = δ3) : auI s iaddD g f δ = some (.nx δ3) := by
  have ha : L2.atI (l.map PyData.int) (i : Int) = some (.int (l[i]?.getD 0)) := atI_nat (get_ints hi)
  have hx : L2.ixN (l.map PyData.int).length (i : Int) = some i := ixN_nat (by rw [List.length_map]; exact hi)
  have hs : δ[s]? = some (some (.list (l.map PyData.int))) := hs
  unfold auI
  rw [hs]
  dsimp only
  rw [hg]
  dsimp only [Option.bind_some]
  rw [hs]
  dsimp only
  rw [ha]
  dsimp only [Option.bind_some]
  rw [hf]
  dsimp only [Option.bind_some]
  rw [show iaddD (.int (l[i]?.getD 0)) (.int n) = some (.int (l[i]?.getD 0 + n)) from rfl]
  dsimp only [Option.bind_some]
  rw [hs]
  dsimp only
  rw [hx, ← h6]
  dsimp only [Option.bind_some]
  rw [set_ints]
  rfl

/-! ### the sums -/
/-- straights, curves, heading -/
structure Sm where
  st : List Int
  cu : List Int
  h : Nat
def stepM (z : Sm) (p : Pc) : Sm := match p.1 with
  | .S => ⟨addAt z.st z.h p.2, z.cu, z.h⟩
  | .L => ⟨z.st, addAt z.cu z.h p.2, (z.h + 1) % 8⟩
  | .R => ⟨z.st, addAt z.cu ((z.h + 7) % 8) p.2, (z.h + 7) % 8⟩
def Sm.ok (z : Sm) : Prop := z.st.length = 8 ∧ z.cu.length = 8 ∧ z.h < 8
theorem addAt_len (l : List Int) (i : Nat) (n : Int) : (addAt l i n).length = l.length := List.length_set
theorem step_ok (z : Sm) (p : Pc) (h : z.ok) : (stepM z p).ok := by
  obtain ⟨h1, h2, h3⟩ := h
  obtain ⟨k, n⟩ := p
  cases k with
  | S => exact ⟨(addAt_len _ _ _).trans h1, h2, h3⟩
  | L => exact ⟨h1, (addAt_len _ _ _).trans h2, Nat.mod_lt _ (by decide)⟩
  | R => exact ⟨h1, (addAt_len _ _ _).trans h2, Nat.mod_lt _ (by decide)⟩
def goM (z : Sm) (t : List Pc) : Sm := t.foldl stepM z
theorem go_ok (t : List Pc) : ∀ z : Sm, z.ok → (goM z t).ok := by
  induction t with
  | nil => exact fun z h => h
  | cons p r ih => exact fun z h => ih _ (step_ok z p h)
/-- where the sums lead -/
def lead (z : Sm) : Spot := match z.st, z.cu with
  | [a, b, c, d, e, f, g, h], [i, j, k, l, m, n, o, p] => ((a - e) + (j - n) - (k - o), (b - f) + (k - o) - (l - p), (c - g) + (i - m) + (l - p), (d - h) - (i - m) + (j - n))
  | _, _ => s0
theorem len8 {l : List Int} (h : l.length = 8) : ∃ a b c d e f g i, l = [a, b, c, d, e, f, g, i] := by
  match l, h with
  | [a, b, c, d, e, f, g, i], _ => exact ⟨a, b, c, d, e, f, g, i, rfl⟩
theorem lead_step (z : Sm) (hz : z.ok) (p : Pc) : lead (stepM z p) = sadd (lead z) (step p z.h) := by
  obtain ⟨st, cu, hd⟩ := z
  obtain ⟨h1, h2, h3⟩ := hz
  obtain ⟨a, b, c, d, e, f, g, h, rfl⟩ := len8 h1
  obtain ⟨i, j, k, l, m, n, o, q, rfl⟩ := len8 h2
  obtain ⟨kd, x⟩ := p
  have hc : hd = 0 ∨ hd = 1 ∨ hd = 2 ∨ hd = 3 ∨ hd = 4 ∨ hd = 5 ∨ hd = 6 ∨ hd = 7 := by
    have : hd < 8 := h3
    omega
  rcases hc with rfl | rfl | rfl | rfl | rfl | rfl | rfl | rfl <;> cases kd <;>
    (refine spot_ext ?_ ?_ ?_ ?_ <;> simp [lead, stepM, addAt, step, turn, rotN, rot, sadd, ssub] <;> omega)
theorem head_step (z : Sm) (hz : z.ok) (p : Pc) : (((stepM z p).h : Nat) : Int) = ((z.h : Int) + p.1.t) % 8 := by
  obtain ⟨st, cu, hd⟩ := z
  obtain ⟨kd, x⟩ := p
  have h3 : hd < 8 := hz.2.2
  cases kd with
  | S =>
    show (hd : Int) = ((hd : Int) + 0) % 8
    omega
  | L =>
    show (((hd + 1) % 8 : Nat) : Int) = ((hd : Int) + 1) % 8
    omega
  | R =>
    show (((hd + 7) % 8 : Nat) : Int) = ((hd : Int) + (-1)) % 8
    omega
theorem lead_go (t : List Pc) : ∀ (z : Sm), z.ok → go (lead z, (z.h : Int)) t = (lead (goM z t), ((goM z t).h : Int)) := by
  induction t with
  | nil => exact fun z _ => rfl
  | cons p r ih =>
    intro z hz
    have e : behind (lead z, (z.h : Int)) p = (lead (stepM z p), ((stepM z p).h : Int)) := by
      show (sadd (lead z) (step p z.h), ((z.h : Int) + p.1.t) % 8) = _
      rw [lead_step z hz p, head_step z hz p]
    show go (behind (lead z, (z.h : Int)) p) r = _
    rw [e]
    exact ih _ (step_ok z p hz)
def z0 : Sm := ⟨[0, 0, 0, 0, 0, 0, 0, 0], [0, 0, 0, 0, 0, 0, 0, 0], 0⟩
theorem z0_ok : z0.ok := ⟨rfl, rfl, by decide⟩
theorem lead_all (t : List Pc) : go o0 t = (lead (goM z0 t), ((goM z0 t).h : Int)) := lead_go t z0 z0_ok

/-! ### the program's sums, and the law's -/
theorem gap_of_eq (p : Pc) (h : Nat) (hh : h < 8) : F_gap_of [encP p, .int h] = some (.int ((match p.1 with | .L => h | _ => (h + 7) % 8 : Nat) : Int)) := by
  obtain ⟨k, n⟩ := p
  have tail : ∀ k, (c2 modD (c2 subD (c2 addD (rd 1) (cst k_HEADINGS)) (cst (.int 1))) (cst k_HEADINGS)) [some (encP (k, n)), some (.int h)] = some (.int (((h + 7) % 8 : Nat) : Int), [some (encP (k, n)), some (.int h)]) := fun k => by
    refine c2_ev (d := .int ((h : Int) + 8 - 1)) (e := .int 8) rfl rfl ?_
    rw [modD_int (by decide), fmod8]
    congr 2
    omega
  cases k with
  | L => exact fnF_rt (δ := [some (encP (.L, n)), some (.int h)]) rfl (seqS_rt (rtS_ev ((ifV_t (δ1 := [some (encP (.L, n)), some (.int h)]) (by kernel_rfl)).trans rfl)))
  | R => exact fnF_rt (δ := [some (encP (.R, n)), some (.int h)]) rfl (seqS_rt (rtS_ev ((ifV_f (δ1 := [some (encP (.R, n)), some (.int h)]) (by kernel_rfl)).trans (tail .R))))
  | S => exact fnF_rt (δ := [some (encP (.S, n)), some (.int h)]) rfl (seqS_rt (rtS_ev ((ifV_f (δ1 := [some (encP (.S, n)), some (.int h)]) (by kernel_rfl)).trans (tail .S))))
def encSm (z : Sm) : D := .tuple [encR z.st, encR z.cu]
theorem sums_loop (tr : Option D) : ∀ (t : List Pc) (z : Sm) (x : Option D), z.ok → ∃ y, forL (stS 4) b1_sums_of (t.map encP) [tr, some (encRL z.st), some (encRL z.cu), some (.int z.h), x] = some (.nx [tr, some (encRL (goM z t).st), some (encRL (goM z t).cu), some (.int (goM z t).h), y])
  | [], z, x, _ => ⟨x, rfl⟩
  | p :: t, z, x, hz => by
    obtain ⟨y, ih⟩ := sums_loop tr t (stepM z p) (some (encP p)) (step_ok z p hz)
    refine ⟨y, (forL_nx (δ1 := [tr, some (encRL z.st), some (encRL z.cu), some (.int z.h), some (encP p)]) (δ2 := [tr, some (encRL (stepM z p).st), some (encRL (stepM z p).cu), some (.int (stepM z p).h), some (encP p)]) rfl ?_).trans ih⟩
    have hd : ∀ (a b : Option D), (seqS (asgS (stS 3) (c2 modD (c2 addD (rd 3) (cN F_turn_of (aCons (rd 4) aNil))) (cst k_HEADINGS))) skip) [tr, a, b, some (.int z.h), some (encP p)] = some (.nx [tr, a, b, some (.int (stepM z p).h), some (encP p)]) := fun a b => by
      refine (seqS_nx (asgP (d := .int (stepM z p).h) (c2_ev (d := .int ((z.h : Int) + p.1.t)) (e := .int 8) (c2_ev rfl (cNP (ds := [encP p]) rfl (turn_of_eq p)) rfl) rfl ?_) rfl)).trans rfl
      rw [modD_int (by decide), fmod8, head_step z hz p]
    have h8 := hz.2.2
    have gp := gap_of_eq p z.h h8
    obtain ⟨k, n⟩ := p
    cases k with
    | S =>
      refine (seqS_nx (δ1 := [tr, some (encRL (addAt z.st z.h n)), some (encRL z.cu), some (.int z.h), some (encP (.S, n))]) ?_).trans (hd _ _)
      refine (ifS_t (δ1 := [tr, some (encRL z.st), some (encRL z.cu), some (.int z.h), some (encP (.S, n))]) (tstB_ev (c2_ev (c2_ev rfl rfl rfl) rfl (by kernel_rfl)))).trans ?_
      exact (seqS_nx (auI_add (l := z.st) (i := z.h) (n := n) rfl rfl rfl (by rw [hz.1]; exact h8) rfl)).trans rfl
    | L =>
      refine (seqS_nx (δ1 := [tr, some (encRL z.st), some (encRL (addAt z.cu z.h n)), some (.int z.h), some (encP (.L, n))]) ?_).trans (hd _ _)
      refine (ifS_f (δ1 := [tr, some (encRL z.st), some (encRL z.cu), some (.int z.h), some (encP (.L, n))]) (tstB_ev (c2_ev (c2_ev rfl rfl rfl) rfl (by kernel_rfl)))).trans ?_
      exact (seqS_nx (auI_add (l := z.cu) (i := z.h) (n := n) rfl (cNP (ds := [encP (.L, n), .int z.h]) rfl gp) rfl (by rw [hz.2.1]; exact h8) rfl)).trans rfl
    | R =>
      refine (seqS_nx (δ1 := [tr, some (encRL z.st), some (encRL (addAt z.cu ((z.h + 7) % 8) n)), some (.int z.h), some (encP (.R, n))]) ?_).trans (hd _ _)
      refine (ifS_f (δ1 := [tr, some (encRL z.st), some (encRL z.cu), some (.int z.h), some (encP (.R, n))]) (tstB_ev (c2_ev (c2_ev rfl rfl rfl) rfl (by kernel_rfl)))).trans ?_
      exact (seqS_nx (auI_add (l := z.cu) (i := (z.h + 7) % 8) (n := n) rfl (cNP (ds := [encP (.R, n), .int z.h]) rfl gp) rfl (by rw [hz.2.1]; exact Nat.mod_lt _ (by decide)) rfl)).trans rfl
theorem par3_ev {i j l : Nat} {f g h : CE} {δ δ1 δ2 δ3 δ4 δ5 δ6 : Env} {d e r : D} (h1 : f δ = some (d, δ1)) (h2 : g δ1 = some (e, δ2)) (h3 : h δ2 = some (r, δ3)) (h4 : stS i d δ3 = some δ4) (h5 : stS j e δ4 = some δ5) (h6 : stS l r δ5 = some δ6) : par3S i j l f g h δ = some (.nx δ6) := by
  unfold par3S
  rw [h1]
  dsimp only [Option.bind_some]
  rw [h2]
  dsimp only [Option.bind_some]
  rw [h3]
  dsimp only [Option.bind_some]
  rw [h4]
  dsimp only [Option.bind_some]
  rw [h5]
  dsimp only [Option.bind_some]
  rw [h6]
  rfl
theorem zeros8 (e : D) (he : e = .int 8) (δ : Env) : c2 mulD (lstV (aCons (cst (.int 0)) aNil)) (cst e) δ = some (encRL [0, 0, 0, 0, 0, 0, 0, 0], δ) := by
  subst he
  exact c2_ev (d := .list [.int 0]) (e := .int 8) rfl rfl (by kernel_rfl)
theorem sums_of_eq (t : List Pc) : F_sums_of [encTr t] = some (encSm (goM z0 t)) := by
  obtain ⟨y, h⟩ := sums_loop (some (encTr t)) t z0 none z0_ok
  refine fnF_rt (δ := [some (encTr t), some (encRL (goM z0 t).st), some (encRL (goM z0 t).cu), some (.int (goM z0 t).h), y]) rfl ?_
  refine (seqS_nx (δ1 := [some (encTr t), some (encRL z0.st), some (encRL z0.cu), some (.int z0.h), none]) (par3_ev (zeros8 _ rfl _) (zeros8 _ rfl _) rfl rfl rfl rfl)).trans ?_
  exact (seqS_nx ((forS_ev (ds := t.map encP) (seqI_ev rfl rfl)).trans h)).trans (seqS_rt (rtS_ev (tupV_ev (aCons_ev (cNP (ds := [encRL (goM z0 t).st]) rfl (tupleR _)) (aCons_ev (cNP (ds := [encRL (goM z0 t).cu]) rfl (tupleR _)) rfl)))))
theorem lsums_loop (tr : Option D) : ∀ (t : List Pc) (z : Sm) (x x' : Option D), z.ok → ∃ y y', forL (tgT 2 (tCons' (stS 4) (tCons' (stS 5) tNil'))) b1__law_sums (t.map encP) [tr, some (encRL z.st), some (encRL z.cu), some (.int z.h), x, x'] = some (.nx [tr, some (encRL (goM z t).st), some (encRL (goM z t).cu), some (.int (goM z t).h), y, y'])
  | [], z, x, x', _ => ⟨x, x', rfl⟩
  | p :: t, z, x, x', hz => by
    obtain ⟨y, y', ih⟩ := lsums_loop tr t (stepM z p) (some p.1.d) (some (.int p.2)) (step_ok z p hz)
    refine ⟨y, y', (forL_nx (δ1 := [tr, some (encRL z.st), some (encRL z.cu), some (.int z.h), some p.1.d, some (.int p.2)]) (δ2 := [tr, some (encRL (stepM z p).st), some (encRL (stepM z p).cu), some (.int (stepM z p).h), some p.1.d, some (.int p.2)]) rfl ?_).trans ih⟩
    have h8 := hz.2.2
    have gt : ∀ {E : Env} {l : List Int} {s : Nat} (i : Nat) (n : Int), rd s E = some (encRL l, E) → rd 3 E = some (.int i, E) → rd 5 E = some (.int n, E) → i < l.length → (c2 addD (c2 ixD (rd s) (rd 3)) (rd 5)) E = some (.int (l[i]?.getD 0 + n), E) := fun i n h1 h2 h3 hi => c2_ev (d := .int _) (c2_ev h1 h2 (atI_nat (get_ints hi))) h3 rfl
    obtain ⟨k, n⟩ := p
    cases k with
    | S =>
      refine (seqS_nx ((ifS_t (δ1 := [tr, some (encRL z.st), some (encRL z.cu), some (.int z.h), some Kd.S.d, some (.int n)]) (tstB_ev (c2_ev rfl rfl (by kernel_rfl)))).trans ?_)).trans rfl
      exact (seqS_nx (stI_add (l := z.st) (i := z.h) (n := n) rfl (gt z.h n rfl rfl rfl (by rw [hz.1]; exact h8)) rfl (by rw [hz.1]; exact h8) rfl)).trans rfl
    | L =>
      refine (seqS_nx ((ifS_f (δ1 := [tr, some (encRL z.st), some (encRL z.cu), some (.int z.h), some Kd.L.d, some (.int n)]) (tstB_ev (c2_ev rfl rfl (by kernel_rfl)))).trans ?_)).trans rfl
      refine (seqS_nx ((ifS_t (δ1 := [tr, some (encRL z.st), some (encRL z.cu), some (.int z.h), some Kd.L.d, some (.int n)]) (tstB_ev (c2_ev rfl rfl (by kernel_rfl)))).trans ?_)).trans rfl
      refine (seqS_nx (stI_add (l := z.cu) (i := z.h) (n := n) rfl (gt z.h n rfl rfl rfl (by rw [hz.2.1]; exact h8)) rfl (by rw [hz.2.1]; exact h8) rfl)).trans ((seqS_nx (asgP (d := .int (((z.h + 1) % 8 : Nat) : Int)) ?_ rfl)).trans rfl)
      by_cases h7 : (z.h : Int) < 7
      · refine (ifV_t (tstB_ev (c2_ev rfl rfl (ltD_t h7)))).trans (c2_ev (d := .int z.h) (e := .int 1) rfl rfl ?_)
        show some (PyData.int ((z.h : Int) + 1)) = _
        congr 2
        omega
      · refine (ifV_f (tstB_ev (c2_ev rfl rfl (ltD_f h7)))).trans ?_
        rw [show (z.h + 1) % 8 = 0 by omega]
        rfl
    | R =>
      refine (seqS_nx ((ifS_f (δ1 := [tr, some (encRL z.st), some (encRL z.cu), some (.int z.h), some Kd.R.d, some (.int n)]) (tstB_ev (c2_ev rfl rfl (by kernel_rfl)))).trans ?_)).trans rfl
      refine (seqS_nx ((ifS_f (δ1 := [tr, some (encRL z.st), some (encRL z.cu), some (.int z.h), some Kd.R.d, some (.int n)]) (tstB_ev (c2_ev rfl rfl (by kernel_rfl)))).trans ?_)).trans rfl
      refine (seqS_nx (asgP (d := .int (((z.h + 7) % 8 : Nat) : Int)) ?_ rfl)).trans ((seqS_nx (stI_add (l := z.cu) (i := (z.h + 7) % 8) (n := n) rfl (gt ((z.h + 7) % 8) n rfl rfl rfl (by rw [hz.2.1]; exact Nat.mod_lt _ (by decide))) rfl (by rw [hz.2.1]; exact Nat.mod_lt _ (by decide)) rfl)).trans rfl)
      by_cases h7 : (0 : Int) < (z.h : Int)
      · refine (ifV_t (tstB_ev (c2_ev (d := .int z.h) (e := .int 0) rfl rfl (show some (PyData.bool (decide ((0 : Int) < (z.h : Int)))) = _ by rw [decide_eq_true h7])))).trans (c2_ev (d := .int z.h) (e := .int 1) rfl rfl ?_)
        show some (PyData.int ((z.h : Int) - 1)) = _
        congr 2
        omega
      · refine (ifV_f (tstB_ev (c2_ev (d := .int z.h) (e := .int 0) rfl rfl (show some (PyData.bool (decide ((0 : Int) < (z.h : Int)))) = _ by rw [decide_eq_false h7])))).trans ?_
        rw [show (z.h + 7) % 8 = 7 by omega]
        rfl
theorem law_sums_eq (t : List Pc) : F__law_sums [encTr t] = some (encSm (goM z0 t)) := by
  obtain ⟨y, y', h⟩ := lsums_loop (some (encTr t)) t z0 none none z0_ok
  refine fnF_rt (δ := [some (encTr t), some (encRL (goM z0 t).st), some (encRL (goM z0 t).cu), some (.int (goM z0 t).h), y, y']) rfl ?_
  refine (seqS_nx (δ1 := [some (encTr t), some (encRL z0.st), some (encRL z0.cu), some (.int z0.h), none, none]) (par3_ev (zeros8 _ rfl _) (zeros8 _ rfl _) rfl rfl rfl rfl)).trans ?_
  exact (seqS_nx ((forS_ev (ds := t.map encP) (seqI_ev rfl rfl)).trans h)).trans (seqS_rt (rtS_ev (tupV_ev (aCons_ev (cNP (ds := [encRL (goM z0 t).st]) rfl (tupleR _)) (aCons_ev (cNP (ds := [encRL (goM z0 t).cu]) rfl (tupleR _)) rfl)))))

/-! ### balances -/
def op8 : List Int → List Int
  | [a, b, c, d, e, f, g, h] => [a - e, b - f, c - g, d - h]
  | _ => []
theorem opp_ev (a b c d e f g h : Int) : F_opposite_less [encR [a, b, c, d, e, f, g, h]] = some (encR (op8 [a, b, c, d, e, f, g, h])) := by kernel_rfl
theorem opp_eq {l : List Int} (hl : l.length = 8) : F_opposite_less [encR l] = some (encR (op8 l)) := by
  obtain ⟨a, b, c, d, e, f, g, i, rfl⟩ := len8 hl
  exact opp_ev _ _ _ _ _ _ _ _
def encB (a b : List Int) : D := .tuple [encR a, encR b]
theorem balance_of_eq (z : Sm) (hz : z.ok) : F_balance_of [encSm z] = some (encB (op8 z.st) (op8 z.cu)) :=
  fnF_rt (δ := [some (encSm z)]) rfl (seqS_rt (rtS_ev (tupV_ev (aCons_ev (cNP (ds := [encR z.st]) rfl (opp_eq hz.1)) (aCons_ev (cNP (ds := [encR z.cu]) rfl (opp_eq hz.2.1)) rfl)))))
theorem op8_len {l : List Int} (hl : l.length = 8) : ∃ a b c d, op8 l = [a, b, c, d] := by
  obtain ⟨a, b, c, d, e, f, g, i, rfl⟩ := len8 hl
  exact ⟨_, _, _, _, rfl⟩
/-- the four equations -/
def fairL : List Int → List Int
  | [b0, b1, b2, b3] => [b2 - b1, b3 - b2, -b0 - b3, b0 - b1]
  | _ => []
theorem is_bal_ev (a : List Int) (ha : a.length ≤ 16777216) (b0 b1 b2 b3 : Int) : F_is_balanced [encB a [b0, b1, b2, b3]] = some (.bool (decide (a = fairL [b0, b1, b2, b3]))) := by
  refine fnF_rt (δ := [some (encB a [b0, b1, b2, b3]), some (encR a), some (encR [b0, b1, b2, b3])]) rfl ?_
  exact (seqS_nx (δ1 := [some (encB a [b0, b1, b2, b3]), some (encR a), some (encR [b0, b1, b2, b3])]) rfl).trans (seqS_rt (rtS_ev (c2_ev (d := encR a) (e := encR (fairL [b0, b1, b2, b3])) rfl rfl (eqD_R _ _ ha (by show 4 ≤ 16777216; decide)))))
theorem lead_fair (z : Sm) (hz : z.ok) : lead z = s0 ↔ op8 z.st = fairL (op8 z.cu) := by
  obtain ⟨st, cu, hd⟩ := z
  obtain ⟨h1, h2, _⟩ := hz
  obtain ⟨a, b, c, d, e, f, g, h, rfl⟩ := len8 h1
  obtain ⟨i, j, k, l, m, n, o, q, rfl⟩ := len8 h2
  show ((_, _, _, _) : Spot) = (0, 0, 0, 0) ↔ [_, _, _, _] = [_, _, _, _]
  simp only [Prod.mk.injEq, List.cons.injEq, and_true]
  omega
/-! ### begun elsewhere, and straights left out -/
theorem closed_turned (a b : List Pc) (h : go o0 (a ++ b) = o0) : go o0 (b ++ a) = o0 := by
  rw [go_closed, disp_append, tsum_append] at h ⊢
  obtain ⟨h1, h2⟩ := h
  refine ⟨?_, by omega⟩
  have e : disp a = sneg (turn (tsum a) (disp b)) := by
    have k : ∀ {x y : Spot}, sadd x y = s0 → x = sneg y := fun {x y} h => by
      have g1 := congrArg (·.1) h
      have g2 := congrArg (·.2.1) h
      have g3 := congrArg (·.2.2.1) h
      have g4 := congrArg (·.2.2.2) h
      have j1 : x.1 + y.1 = 0 := g1
      have j2 : x.2.1 + y.2.1 = 0 := g2
      have j3 : x.2.2.1 + y.2.2.1 = 0 := g3
      have j4 : x.2.2.2 + y.2.2.2 = 0 := g4
      refine spot_ext ?_ ?_ ?_ ?_
      · show x.1 = -y.1; omega
      · show x.2.1 = -y.2.1; omega
      · show x.2.2.1 = -y.2.2.1; omega
      · show x.2.2.2 = -y.2.2.2; omega
    exact k h1
  rw [e, turn_neg, turn_turn, turn_congr (show (tsum b + tsum a) % 8 = (0 : Int) % 8 by omega), turn_0]
  refine spot_ext ?_ ?_ ?_ ?_ <;> exact Int.add_right_neg _
def noS (t : List Pc) : Bool := !(t.any fun p => decide (p.1 = .S))
theorem noS_st : ∀ (t : List Pc) (z : Sm), noS t = true → (goM z t).st = z.st
  | [], z, _ => rfl
  | p :: r, z, h => by
    simp only [noS, List.any_cons, Bool.not_eq_true', Bool.or_eq_false_iff, decide_eq_false_iff_not] at h
    have ih := noS_st r (stepM z p) (by simp only [noS, h.2]; rfl)
    refine ih.trans ?_
    obtain ⟨k, n⟩ := p
    cases k with
    | S => exact absurd rfl h.1
    | L => rfl
    | R => rfl
theorem curves_closed (t : List Pc) (h : noS t = true) : (lead (goM z0 t) = s0) ↔ (goM z0 t).cu.take 4 = (goM z0 t).cu.drop 4 := by
  have hz := go_ok t z0 z0_ok
  rw [lead_fair _ hz, noS_st t z0 h]
  obtain ⟨i, j, k, l, m, n, o, q, e⟩ := len8 hz.2.1
  rw [e]
  show [(0 : Int) - 0, 0 - 0, 0 - 0, 0 - 0] = [_, _, _, _] ↔ [i, j, k, l] = [m, n, o, q]
  simp only [List.cons.injEq, and_true]
  omega

/-! ### the program's turned track -/
theorem cut_drop (ds : List D) (n : Nat) : cutD ds (some (n : Int)) none = ds.drop n := by
  unfold cutD
  rw [HT.sIx_nat, HT.sIx_none]
  by_cases h : n ≤ ds.length
  · rw [Nat.min_eq_left h, ← List.length_drop, List.take_length]
  · rw [Nat.min_eq_right (by omega), Nat.sub_self, List.take_zero, List.drop_eq_nil_of_le (by omega)]
theorem slTr_drop (t : List Pc) (n : Nat) : slD (encTr t) (some (n : Int)) none = some (encTr (t.drop n)) := by
  refine (slD_tuple (imm_Ps t)).trans ?_
  rw [cut_drop, ← List.map_drop]
  rfl
theorem slTr_take (t : List Pc) (n : Nat) : slD (encTr t) none (some (n : Int)) = some (encTr (t.take n)) := by
  refine (slD_tuple (imm_Ps t)).trans ?_
  rw [cut_take, ← List.map_take]
  rfl
theorem lenTr {f : CE} {δ δ1 : Env} {t : List Pc} (h : f δ = some (encTr t, δ1)) : cN lenD (aCons f aNil) δ = some (.int t.length, δ1) := by
  refine cN_ev (ds := [encTr t]) (aCons_ev h rfl) ?_
  show some (PyData.int ((t.map encP).length : Nat)) = _
  rw [List.length_map]
theorem turned_track_eq (t : List Pc) (ht : t ≠ []) (hl : t.length ≤ 16777216) (k : Nat) (hk : k < t.length) : F_turned_track [encTr t, .int k] = some (encTr (t.drop k ++ t.take k)) := by
  have hz : (t.map encP).isEmpty = false := by
    cases t with
    | nil => exact absurd rfl ht
    | cons p r => rfl
  refine fnF_rt (δ := [some (encTr t), some (.int k), some (.int k)]) rfl ?_
  refine (seqS_nx (asgP (d := .int k) ((ifV_t (δ1 := [some (encTr t), some (.int k), none]) (tst_ev rfl ?_)).trans (c2_ev rfl (lenTr rfl) ?_)) rfl)).trans ?_
  · show some (!(t.map encP).isEmpty) = _
    rw [hz]
    rfl
  · rw [modD_int (by omega), Int.fmod_eq_emod_of_nonneg _ (by omega), Int.emod_eq_of_lt (by omega) (by omega)]
  · exact seqS_rt (rtS_ev (c2_ev (slV_ev (l := some (k : Int)) (u := none) rfl rfl rfl (slTr_drop t k)) (slV_ev (l := none) (u := some (k : Int)) rfl rfl rfl (slTr_take t k)) (addTr (by rw [List.length_drop, List.length_take]; omega))))
/-! ### comprehensions that choose -/
theorem lcL_flt {α : Type} {t : CG} {own : List Nat} {c : CT} {f : CE} (enc : α → D) (b : α → Bool) (I : Env → Prop) : ∀ {l : List α} {δ : Env}, I δ → (∀ a ∈ l, ∀ δ, I δ → ∃ δ1, t (enc a) (wipeD δ own) = some δ1 ∧ c δ1 = some (b a, δ1) ∧ f δ1 = some (enc a, δ1) ∧ I δ1) → ∃ δ', lcL t own c f (l.map enc) δ = some ((l.filter b).map enc, δ') ∧ I δ'
  | [], δ, h, _ => ⟨δ, rfl, h⟩
  | a :: l, δ, h, hs => by
    obtain ⟨δ1, e1, e2, e3, h2⟩ := hs a List.mem_cons_self δ h
    obtain ⟨δ', e4, h3⟩ := lcL_flt enc b I (l := l) h2 fun a ha => hs a (List.mem_cons_of_mem _ ha)
    refine ⟨δ', ?_, h3⟩
    show ((t (enc a) (wipeD δ own)).bind _) = _
    rw [e1]
    show ((c δ1).bind _) = _
    rw [e2]
    cases hb : b a with
    | true =>
      rw [List.filter_cons_of_pos hb]
      show ((f δ1).bind _) = _
      rw [e3]
      show ((lcL t own c f (l.map enc) δ1).bind _) = _
      rw [e4]
      rfl
    | false =>
      rw [List.filter_cons_of_neg (by rw [hb]; exact Bool.false_ne_true)]
      exact e4
/-! ### circles drawn -/
theorem io_take (i : Nat) {δ : Env} {t : List D} {n : Int} {fa : CE} (h : δ[i]? = some (some (.list t))) (hf : fa δ = some (.int n, δ)) (ht : TapeOk t) (h1 : 1 ≤ n) (h2 : n < 2 ^ 64) : ∃ d t', ioV i F__law_take (aCons fa aNil) δ = some (.int d, δ.set i (some (.list t'))) ∧ 0 ≤ d ∧ d < n ∧ TapeOk t' := by
  obtain ⟨d, t', e, a, b, o⟩ := take_ev ht h1 h2
  exact ⟨d, t', ioV_ev h (aCons_ev hf rfl) h e rfl, a, b, o⟩
def encL (t : List Pc) : D := .list (t.map encP)
theorem exL_ev {i : Nat} {f : CE} {δ δ1 δ2 : Env} {a b : List Pc} {ds0 : List D} (h0 : δ[i]? = some (some (.list ds0))) (h1 : f δ = some (encL b, δ1)) (h2 : δ1[i]? = some (some (encL a))) (h3 : a.length + b.length ≤ 16777216) (h4 : δ1.set i (some (encL (a ++ b))) = δ2) : exL i f δ = some (.nx δ2) := by
  have h2 : δ1[i]? = some (some (.list (a.map encP))) := h2
  have h1 : f δ = some (.list (b.map encP), δ1) := h1
  have h3' : (a.map encP).length + (b.map encP).length ≤ sizeLine := by rw [List.length_map, List.length_map]; exact h3
  unfold exL
  rw [h0]
  dsimp only
  rw [h1]
  dsimp only [Option.bind_some]
  rw [h2]
  dsimp only
  rw [if_pos h3', ← h4, ← List.map_append]
  rfl
theorem circle_loop (tp : Option D) (kd : Kd) (r : Int) (w : List Int) (hw : w.length = 4) : ∀ (ds : List D) (c : List Pc) (y5 y6 : Option D), (∀ d ∈ ds, ∃ n : Nat, d = .int n) → c.length + 2 * ds.length ≤ 1000 →
    ∃ (c' : List Pc) (z5 z6 : Option D), forL (stS 5) b2__law_circle ds [tp, some kd.d, some (.int r), some (encRL w), some (encL c), y5, y6] = some (.nx [tp, some kd.d, some (.int r), some (encRL w), some (encL c'), z5, z6]) ∧ c.length + ds.length ≤ c'.length ∧ c'.length ≤ c.length + 2 * ds.length
  | [], c, y5, y6, _, _ => ⟨c, y5, y6, rfl, by simp, by simp⟩
  | d :: ds, c, y5, y6, hd, hc => by
    obtain ⟨n, rfl⟩ := hd d List.mem_cons_self
    rw [List.length_cons] at hc
    have hi : n % 4 < w.length := by rw [hw]; exact Nat.mod_lt _ (by decide)
    obtain ⟨v, hv⟩ : ∃ v, v = w[n % 4]?.getD 0 := ⟨_, rfl⟩
    have s1 : (asgS (stS 6) (c2 ixD (rd 3) (c2 subD (rd 5) (c2 mulD (c2 fdivD (rd 5) (cst (.int 4))) (cst (.int 4)))))) [tp, some kd.d, some (.int r), some (encRL w), some (encL c), some (.int n), y6] = some (.nx [tp, some kd.d, some (.int r), some (encRL w), some (encL c), some (.int n), some (.int v)]) := by
      refine asgP (c2_ev (d := encRL w) (e := .int ((n % 4 : Nat) : Int)) rfl (c2_ev (d := .int n) (e := .int ((n : Int).fdiv 4 * 4)) rfl (c2_ev (d := .int ((n : Int).fdiv 4)) (c2_ev rfl rfl (fdivD_int (by decide) (small_pow (by decide)))) rfl (mulD_int (.inr (by decide)))) ?_) ?_) rfl
      · show some (PyData.int ((n : Int) - (n : Int).fdiv 4 * 4)) = _
        rw [Int.fdiv_eq_ediv_of_nonneg _ (by decide)]
        congr 2
        omega
      · rw [hv]
        exact atI_nat (get_ints hi)
    have s3 : ∀ (c1 : List Pc), c1.length < 1000 → (apS 4 (tupV (aCons (rd 1) (aCons (rd 2) aNil)))) [tp, some kd.d, some (.int r), some (encRL w), some (encL c1), some (.int n), some (.int v)] = some (.nx [tp, some kd.d, some (.int r), some (encRL w), some (encL (c1 ++ [(kd, r)])), some (.int n), some (.int v)]) := fun c1 h1 => by
      refine apS_ev (ds0 := c1.map encP) (ds := c1.map encP) (d := encP (kd, r)) rfl rfl rfl (by rw [List.length_map]; omega) ?_
      rw [show c1.map encP ++ [encP (kd, r)] = (c1 ++ [(kd, r)]).map encP by rw [List.map_append]; rfl]
      rfl
    by_cases hp : (0 : Int) < v
    · obtain ⟨c', z5, z6, e, l1, l2⟩ := circle_loop tp kd r w hw ds ((c ++ [(.S, v)]) ++ [(kd, r)]) (some (.int n)) (some (.int v)) (fun d h => hd d (List.mem_cons_of_mem _ h)) (by simp only [List.length_append, List.length_singleton]; omega)
      simp only [List.length_append, List.length_singleton] at l1 l2
      refine ⟨c', z5, z6, (forL_nx (δ1 := [tp, some kd.d, some (.int r), some (encRL w), some (encL c), some (.int n), y6]) rfl ((seqS_nx s1).trans ((seqS_nx (exL_ev (a := c) (b := [(.S, v)]) (ds0 := c.map encP) rfl ((ifV_t (tstB_ev (c2_ev (d := .int v) (e := .int 0) rfl rfl (show some (PyData.bool (decide ((0 : Int) < v))) = _ by rw [decide_eq_true hp])))).trans rfl) rfl (by rw [List.length_singleton]; omega) rfl)).trans ((seqS_nx (s3 _ (by rw [List.length_append, List.length_singleton]; omega))).trans rfl)))).trans e, ?_, ?_⟩
      · rw [List.length_cons]; omega
      · rw [List.length_cons]; omega
    · obtain ⟨c', z5, z6, e, l1, l2⟩ := circle_loop tp kd r w hw ds ((c ++ []) ++ [(kd, r)]) (some (.int n)) (some (.int v)) (fun d h => hd d (List.mem_cons_of_mem _ h)) (by simp only [List.length_append, List.length_singleton, List.length_nil]; omega)
      simp only [List.length_append, List.length_singleton, List.length_nil] at l1 l2
      refine ⟨c', z5, z6, (forL_nx (δ1 := [tp, some kd.d, some (.int r), some (encRL w), some (encL c), some (.int n), y6]) rfl ((seqS_nx s1).trans ((seqS_nx (exL_ev (a := c) (b := []) (ds0 := c.map encP) rfl ((ifV_f (tstB_ev (c2_ev (d := .int v) (e := .int 0) rfl rfl (show some (PyData.bool (decide ((0 : Int) < v))) = _ by rw [decide_eq_false hp])))).trans rfl) rfl (by rw [List.length_nil]; omega) rfl)).trans ((seqS_nx (s3 _ (by rw [List.length_append, List.length_nil]; omega))).trans rfl)))).trans e, ?_, ?_⟩
      · rw [List.length_cons]; omega
      · rw [List.length_cons]; omega
theorem circle_ev {t : List D} (ht : TapeOk t) : ∃ (c : List Pc) (t' : List D), F__law_circle t [] = some (encTr c, t') ∧ 8 ≤ c.length ∧ c.length ≤ 16 ∧ TapeOk t' := by
  obtain ⟨d, t1, e1, a1, b1, o1⟩ := io_take 0 (δ := [some (.list t), none, none, none, none, none, none]) (fa := cst (.int 2)) rfl rfl ht (n := 2) (by decide) (by decide)
  obtain ⟨r, t2, e2, a2, b2, o2⟩ := io_take 0 (δ := [some (.list t1), none, none, none, none, none, none]) (fa := cst (.int 3)) rfl rfl o1 (n := 3) (by decide) (by decide)
  obtain ⟨w, δ', e3, ⟨t3, y, o3, rfl⟩, _, hw⟩ := lcL_any (t := stS 5) (own := [5]) (f := e1__law_circle) PyData.int (fun _ => True) (fun δ => ∃ t y, TapeOk t ∧ δ = [some (.list t), some (kdOf d).d, some (.int (1 + r)), none, none, y, none]) (ds := rgI 0 4) (δ := [some (.list t2), some (kdOf d).d, some (.int (1 + r)), none, none, none, none]) ⟨t2, none, o2, rfl⟩ (by
    rintro c hc δ ⟨t, y, ht, rfl⟩
    obtain ⟨v, t', e, _, _, o⟩ := io_take 0 (δ := [some (.list t), some (kdOf d).d, some (.int (1 + r)), none, none, some c, none]) (fa := cst (.int 3)) rfl rfl ht (n := 3) (by decide) (by decide)
    exact ⟨_, _, v, rfl, e, trivial, t', some c, o, rfl⟩)
  rw [rgI_length] at hw
  obtain ⟨c, z5, z6, e4, l1, l2⟩ := circle_loop (some (.list t3)) (kdOf d) (1 + r) w hw (rgI 0 8) [] none none (fun d hd => by
    obtain ⟨i, _, rfl⟩ := rgI_mem hd
    exact ⟨i, rfl⟩) (by rw [rgI_length]; decide)
  rw [rgI_length, List.length_nil] at l1 l2
  refine ⟨c, t3, fnI_rt (δ := [some (.list t3), some (kdOf d).d, some (.int (1 + r)), some (encRL w), some (encL c), z5, z6]) rfl ?_ rfl, by omega, by omega, o3⟩
  have hk : L2.atI [PyData.str "left", .str "right"] d = some (kdOf d).d := by
    have : d = 0 ∨ d = 1 := by omega
    rcases this with rfl | rfl <;> rfl
  refine (seqS_nx (δ1 := [some (.list t2), some (kdOf d).d, some (.int (1 + r)), none, none, none, none]) ?_).trans ((seqS_nx (asgS_ev (d := encRL w) (lcV_ev (rgV_ev (ds := rgI 0 4) rfl (rg1_ev (by decide) (by decide))) e3) rfl)).trans ((seqS_nx (asgP (d := encL []) rfl rfl)).trans ((seqS_nx ((forS_ev (rgV_ev (ds := rgI 0 8) rfl (rg1_ev (by decide) (by decide)))).trans e4)).trans (seqS_rt (rtS_ev (cNP (ds := [encL c]) rfl (tupleD_list (imm_Ps c))))))))
  unfold par2S
  rw [show (c2 ixD (lstV (aCons (cst (.str "left")) (aCons (cst (.str "right")) aNil))) (ioV 0 F__law_take (aCons (cst (.int 2)) aNil))) (ent 7 [.list t]) = some ((kdOf d).d, [some (.list t1), none, none, none, none, none, none]) from c2_ev (d := .list [.str "left", .str "right"]) rfl e1 hk]
  dsimp only [Option.bind_some]
  rw [show (c2 addD (cst (.int 1)) (ioV 0 F__law_take (aCons (cst (.int 3)) aNil))) [some (.list t1), none, none, none, none, none, none] = some (.int (1 + r), [some (.list t2), none, none, none, none, none, none]) from c2_ev rfl e2 rfl]
  rfl

/-! ### a track drawn -/
theorem drop_cons2 {t : List Pc} {k : Nat} (h : k + 1 < t.length) : ∃ a b, t[k]? = some a ∧ t[k + 1]? = some b := ⟨t[k], t[k + 1], List.getElem?_eq_getElem (by omega), List.getElem?_eq_getElem h⟩
theorem atTr {t : List Pc} {i : Nat} {p : Pc} (h : t[i]? = some p) : ixD (encTr t) (.int i) = some (encP p) := by
  refine atI_nat ?_
  rw [List.getElem?_map, h]
  rfl
/-- the first four statements of a turn: pick, track -/
def trackS : CS := (seqS (asgS (stS 4) (ioV 1 F__law_take (aCons (cst (.int 4)) aNil))) (seqS (asgS (stS 5) (cN tupleD (aCons (lcV (rgV rg1 (aCons (c2 addD (cst (.int 1)) (ioV 1 F__law_take (aCons (cst (.int 12)) aNil))) aNil)) (stS 6) [6] yesT e1_law) aNil))) (seqS (asgS (stS 5) (ifV (tstB (c2 eqD (rd 4) (cst (.int 1)))) (ioV 1 F__law_circle aNil) (ifV (tstB (c2 eqD (rd 4) (cst (.int 2)))) (cN tupleD (aCons (lcV (seqI (rd 5)) (stS 20) [20] t3_law e2_law) aNil)) (rd 5)))) (seqS (ifS (tstB (c2 eqD (rd 4) (cst (.int 3)))) (seqS (asgS (stS 5) (c2 addD (ioV 1 F__law_circle aNil) (ioV 1 F__law_circle aNil))) (seqS (asgS (stS 6) (ioV 1 F__law_take (aCons (c2 subD (cN lenD (aCons (rd 5) aNil)) (cst (.int 1))) aNil))) (seqS (asgS (stS 5) (c2 addD (c2 addD (slV (rd 5) noPt (ptOf (rd 6))) (tupV (aCons (c2 ixD (rd 5) (c2 addD (rd 6) (cst (.int 1)))) (aCons (c2 ixD (rd 5) (rd 6)) aNil)))) (slV (rd 5) (ptOf (c2 addD (rd 6) (cst (.int 2)))) noPt))) skip))) skip) skip))))
/-- the slots between two turns -/
def Inv7 (x0 x2 : Option D) (δ : Env) : Prop := ∃ t y3 y4 y5 y6 y7 y8 y9 y10 y11 y12 y13 y14 y15 y16 y17 y18 y19 y20 y21 y22, TapeOk t ∧ δ = [x0, some (.list t), x2, y3, y4, y5, y6, y7, y8, y9, y10, y11, y12, y13, y14, y15, y16, y17, y18, y19, y20, y21, y22]
theorem circ_ev {δ : Env} {t : List D} (h : δ[1]? = some (some (.list t))) (ht : TapeOk t) : ∃ (c : List Pc) (t' : List D), ioV 1 F__law_circle aNil δ = some (encTr c, δ.set 1 (some (.list t'))) ∧ 8 ≤ c.length ∧ c.length ≤ 16 ∧ TapeOk t' := by
  obtain ⟨c, t', e, l1, l2, o⟩ := circle_ev ht
  exact ⟨c, t', ioV_ev h rfl h e rfl, l1, l2, o⟩
theorem swap_ev (t : List Pc) (k : Nat) (hk : k + 1 < t.length) (hl : t.length ≤ 64) {E : Env} (h5 : rd 5 E = some (encTr t, E)) (h6 : rd 6 E = some (.int k, E)) : ∃ u : List Pc, (c2 addD (c2 addD (slV (rd 5) noPt (ptOf (rd 6))) (tupV (aCons (c2 ixD (rd 5) (c2 addD (rd 6) (cst (.int 1)))) (aCons (c2 ixD (rd 5) (rd 6)) aNil)))) (slV (rd 5) (ptOf (c2 addD (rd 6) (cst (.int 2)))) noPt)) E = some (encTr u, E) ∧ u.length = t.length := by
  obtain ⟨a, b, ha, hb⟩ := drop_cons2 hk
  refine ⟨(t.take k ++ [b, a]) ++ t.drop (k + 2), ?_, ?_⟩
  · have p6 : ptOf (rd 6) E = some (some (k : Int), E) := by
      unfold ptOf
      rw [h6]
      rfl
    have p2 : ptOf (c2 addD (rd 6) (cst (.int 2))) E = some (some ((k + 2 : Nat) : Int), E) := by
      unfold ptOf
      rw [show c2 addD (rd 6) (cst (.int 2)) E = some (.int ((k : Int) + 2), E) from c2_ev h6 rfl rfl]
      rfl
    refine c2_ev (c2_ev (slV_ev h5 rfl p6 (slTr_take t k)) (tupV_ev (ds := [encP b, encP a]) (aCons_ev (c2_ev h5 (c2_ev (d := .int k) (e := .int 1) (r := .int ((k + 1 : Nat) : Int)) h6 rfl rfl) (atTr hb)) (aCons_ev (c2_ev h5 h6 (atTr ha)) rfl))) (addTr (b := [b, a]) (by rw [List.length_take]; show _ + 2 ≤ _; omega))) (slV_ev h5 p2 rfl (slTr_drop t (k + 2))) (addTr ?_)
    simp only [List.length_append, List.length_take, List.length_drop, List.length_cons, List.length_nil]
    omega
  · simp only [List.length_append, List.length_take, List.length_drop, List.length_cons, List.length_nil]
    omega
theorem track_ev (x0 x2 : Option D) {δ : Env} (h : Inv7 x0 x2 δ) : ∃ (u : List Pc) (t : List D) (y3 y4 y6 y7 y8 y9 y10 y11 y12 y13 y14 y15 y16 y17 y18 y19 y20 y21 y22 : Option D), trackS δ = some (.nx [x0, some (.list t), x2, y3, y4, some (encTr u), y6, y7, y8, y9, y10, y11, y12, y13, y14, y15, y16, y17, y18, y19, y20, y21, y22]) ∧ u.length ≤ 64 ∧ TapeOk t := by
  obtain ⟨t, y3, y4, y5, y6, y7, y8, y9, y10, y11, y12, y13, y14, y15, y16, y17, y18, y19, y20, y21, y22, ht, rfl⟩ := h
  obtain ⟨pick, t1, e1, a1, b1, o1⟩ := io_take 1 (δ := [x0, some (.list t), x2, y3, y4, y5, y6, y7, y8, y9, y10, y11, y12, y13, y14, y15, y16, y17, y18, y19, y20, y21, y22]) (fa := cst (.int 4)) rfl rfl ht (n := 4) (by decide) (by decide)
  obtain ⟨d, t2, e2, a2, b2, o2⟩ := io_take 1 (δ := [x0, some (.list t1), x2, y3, some (.int pick), y5, y6, y7, y8, y9, y10, y11, y12, y13, y14, y15, y16, y17, y18, y19, y20, y21, y22]) (fa := cst (.int 12)) rfl rfl o1 (n := 12) (by decide) (by decide)
  obtain ⟨l, δ3, e3, ⟨t3, z, o3, rfl⟩, _, hn⟩ := lcL_any (t := stS 6) (own := [6]) (f := e1_law) encP (fun _ => True) (fun δ => ∃ t z, TapeOk t ∧ δ = [x0, some (.list t), x2, y3, some (.int pick), y5, z, y7, y8, y9, y10, y11, y12, y13, y14, y15, y16, y17, y18, y19, y20, y21, y22]) (ds := rgI 0 (1 + d).toNat) (δ := [x0, some (.list t2), x2, y3, some (.int pick), y5, y6, y7, y8, y9, y10, y11, y12, y13, y14, y15, y16, y17, y18, y19, y20, y21, y22]) ⟨t2, y6, o2, rfl⟩ (by
    rintro c hc δ ⟨t, z, ht, rfl⟩
    obtain ⟨p, t', e, _, _, o⟩ := piece_ev ht (most := 3) (by decide) (by decide)
    exact ⟨_, [x0, some (.list t'), x2, y3, some (.int pick), y5, some c, y7, y8, y9, y10, y11, y12, y13, y14, y15, y16, y17, y18, y19, y20, y21, y22], p, rfl, ioV_ev (δ1 := [x0, some (.list t), x2, y3, some (.int pick), y5, some c, y7, y8, y9, y10, y11, y12, y13, y14, y15, y16, y17, y18, y19, y20, y21, y22]) rfl rfl rfl e rfl, trivial, t', some c, o, rfl⟩)
  rw [rgI_length] at hn
  have s2 : (asgS (stS 5) (cN tupleD (aCons (lcV (rgV rg1 (aCons (c2 addD (cst (.int 1)) (ioV 1 F__law_take (aCons (cst (.int 12)) aNil))) aNil)) (stS 6) [6] yesT e1_law) aNil))) [x0, some (.list t1), x2, y3, some (.int pick), y5, y6, y7, y8, y9, y10, y11, y12, y13, y14, y15, y16, y17, y18, y19, y20, y21, y22] = some (.nx [x0, some (.list t3), x2, y3, some (.int pick), some (encTr l), y6, y7, y8, y9, y10, y11, y12, y13, y14, y15, y16, y17, y18, y19, y20, y21, y22]) :=
    asgS_ev (cN_ev (ds := [encL l]) (aCons_ev (lcV_ev (rgV_ev (aCons_ev (d := .int (1 + d)) (c2_ev (d := .int 1) (e := .int d) rfl e2 rfl) rfl) (rg1_ev (by omega) (by omega))) e3) rfl) (tupleD_list (imm_Ps l))) rfl
  -- what stands behind the third statement
  obtain ⟨u, t4, s3, hu, o4⟩ : ∃ (u : List Pc) (t4 : List D), (asgS (stS 5) (ifV (tstB (c2 eqD (rd 4) (cst (.int 1)))) (ioV 1 F__law_circle aNil) (ifV (tstB (c2 eqD (rd 4) (cst (.int 2)))) (cN tupleD (aCons (lcV (seqI (rd 5)) (stS 20) [20] t3_law e2_law) aNil)) (rd 5)))) [x0, some (.list t3), x2, y3, some (.int pick), some (encTr l), y6, y7, y8, y9, y10, y11, y12, y13, y14, y15, y16, y17, y18, y19, y20, y21, y22] = some (.nx [x0, some (.list t4), x2, y3, some (.int pick), some (encTr u), y6, y7, y8, y9, y10, y11, y12, y13, y14, y15, y16, y17, y18, y19, y20, y21, y22]) ∧ u.length ≤ 64 ∧ TapeOk t4 := by
    have tt : ∀ c, (tstB (c2 eqD (rd 4) (cst (.int c)))) [x0, some (.list t3), x2, y3, some (.int pick), some (encTr l), y6, y7, y8, y9, y10, y11, y12, y13, y14, y15, y16, y17, y18, y19, y20, y21, y22] = some (decide (pick = c), [x0, some (.list t3), x2, y3, some (.int pick), some (encTr l), y6, y7, y8, y9, y10, y11, y12, y13, y14, y15, y16, y17, y18, y19, y20, y21, y22]) := fun c => tstB_ev (c2_ev rfl rfl (eqD_int _ _))
    by_cases h1 : pick = 1
    · obtain ⟨c, t4, e4, l1, l2, o4⟩ := circ_ev (δ := [x0, some (.list t3), x2, y3, some (.int pick), some (encTr l), y6, y7, y8, y9, y10, y11, y12, y13, y14, y15, y16, y17, y18, y19, y20, y21, y22]) rfl o3
      exact ⟨c, t4, asgS_ev ((ifV_t ((tt 1).trans (by rw [decide_eq_true h1]))).trans e4) rfl, by omega, o4⟩
    · by_cases h2 : pick = 2
      · obtain ⟨δ', e5, z, rfl⟩ := lcL_flt (t := stS 20) (own := [20]) (c := t3_law) (f := e2_law) encP (fun p => !decide (p.1 = .S)) (fun δ => ∃ z, δ = [x0, some (.list t3), x2, y3, some (.int pick), some (encTr l), y6, y7, y8, y9, y10, y11, y12, y13, y14, y15, y16, y17, y18, y19, z, y21, y22]) (l := l) (δ := [x0, some (.list t3), x2, y3, some (.int pick), some (encTr l), y6, y7, y8, y9, y10, y11, y12, y13, y14, y15, y16, y17, y18, y19, y20, y21, y22]) ⟨_, rfl⟩ (by
          rintro p hp δ ⟨z, rfl⟩
          refine ⟨[x0, some (.list t3), x2, y3, some (.int pick), some (encTr l), y6, y7, y8, y9, y10, y11, y12, y13, y14, y15, y16, y17, y18, y19, some (encP p), y21, y22], rfl, tstB_ev (c2_ev (d := p.1.d) (e := .str "straight") (c2_ev rfl rfl rfl) rfl ?_), rfl, _, rfl⟩
          obtain ⟨k, n⟩ := p
          cases k <;> kernel_rfl)
        refine ⟨l.filter fun p => !decide (p.1 = .S), t3, asgS_ev ((ifV_f ((tt 1).trans (by rw [decide_eq_false h1]))).trans ((ifV_t ((tt 2).trans (by rw [decide_eq_true h2]))).trans (cN_ev (ds := [encL _]) (aCons_ev (lcV_ev (seqI_ev rfl rfl) e5) rfl) (tupleD_list (imm_Ps _))))) rfl, ?_, o3⟩
        have := List.length_filter_le (fun p : Pc => !decide (p.1 = .S)) l
        omega
      · exact ⟨l, t3, asgS_ev ((ifV_f ((tt 1).trans (by rw [decide_eq_false h1]))).trans ((ifV_f ((tt 2).trans (by rw [decide_eq_false h2]))).trans rfl)) rfl, by omega, o3⟩
  have tt : ∀ c, (tstB (c2 eqD (rd 4) (cst (.int c)))) [x0, some (.list t4), x2, y3, some (.int pick), some (encTr u), y6, y7, y8, y9, y10, y11, y12, y13, y14, y15, y16, y17, y18, y19, y20, y21, y22] = some (decide (pick = c), [x0, some (.list t4), x2, y3, some (.int pick), some (encTr u), y6, y7, y8, y9, y10, y11, y12, y13, y14, y15, y16, y17, y18, y19, y20, y21, y22]) := fun c => tstB_ev (c2_ev rfl rfl (eqD_int _ _))
  by_cases h3 : pick = 3
  · obtain ⟨c, t5, e5, l1, l2, o5⟩ := circ_ev (δ := [x0, some (.list t4), x2, y3, some (.int pick), some (encTr u), y6, y7, y8, y9, y10, y11, y12, y13, y14, y15, y16, y17, y18, y19, y20, y21, y22]) rfl o4
    obtain ⟨c', t6, e6, l1', l2', o6⟩ := circ_ev (δ := [x0, some (.list t5), x2, y3, some (.int pick), some (encTr u), y6, y7, y8, y9, y10, y11, y12, y13, y14, y15, y16, y17, y18, y19, y20, y21, y22]) rfl o5
    have hcl : (c ++ c').length = c.length + c'.length := List.length_append
    have hlen : (c2 subD (cN lenD (aCons (rd 5) aNil)) (cst (.int 1))) [x0, some (.list t6), x2, y3, some (.int pick), some (encTr (c ++ c')), y6, y7, y8, y9, y10, y11, y12, y13, y14, y15, y16, y17, y18, y19, y20, y21, y22] = some (.int ((c ++ c').length - 1), [x0, some (.list t6), x2, y3, some (.int pick), some (encTr (c ++ c')), y6, y7, y8, y9, y10, y11, y12, y13, y14, y15, y16, y17, y18, y19, y20, y21, y22]) := c2_ev (lenTr rfl) rfl rfl
    obtain ⟨k, t7, e7, a7, b7, o7⟩ := io_take 1 rfl hlen o6 (by omega) (by omega)
    obtain ⟨v, ev, lv⟩ := swap_ev (c ++ c') k.toNat (by omega) (by omega) (E := [x0, some (.list t7), x2, y3, some (.int pick), some (encTr (c ++ c')), some (.int k), y7, y8, y9, y10, y11, y12, y13, y14, y15, y16, y17, y18, y19, y20, y21, y22]) rfl (by rw [Int.toNat_of_nonneg a7]; rfl)
    refine ⟨v, t7, y3, some (.int pick), some (.int k), y7, y8, y9, y10, y11, y12, y13, y14, y15, y16, y17, y18, y19, y20, y21, y22, ?_, by omega, o7⟩
    refine (seqS_nx (asgS_ev e1 rfl)).trans ((seqS_nx s2).trans ((seqS_nx s3).trans ((seqS_nx ((ifS_t ((tt 3).trans (by rw [decide_eq_true h3]))).trans ((seqS_nx (asgS_ev (c2_ev e5 e6 (addTr (by omega))) rfl)).trans ((seqS_nx (asgS_ev e7 rfl)).trans ((seqS_nx (asgP ev rfl)).trans rfl))))).trans rfl)))
  · exact ⟨u, t4, y3, some (.int pick), y6, y7, y8, y9, y10, y11, y12, y13, y14, y15, y16, y17, y18, y19, y20, y21, y22, (seqS_nx (asgS_ev e1 rfl)).trans ((seqS_nx s2).trans ((seqS_nx s3).trans ((seqS_nx ((ifS_f ((tt 3).trans (by rw [decide_eq_false h3]))).trans rfl)).trans rfl))), hu, o4⟩

/-! ### a turn's questions -/
theorem seqS_inv {g h : CS} {δ δ2 : Env} (e : seqS g h δ = some (.nx δ2)) : ∃ δ1, g δ = some (.nx δ1) ∧ h δ1 = some (.nx δ2) := by
  unfold seqS at e
  obtain ⟨fl, h1, h2⟩ := Option.bind_eq_some_iff.mp e
  cases fl with
  | nx δ1 => exact ⟨δ1, h1, h2⟩
  | rt _ _ => cases h2
  | bk _ => cases h2
  | ct _ => cases h2
def tailS : CS := (seqS (asgS (stS 7) (cN F__law_sums (aCons (rd 5) aNil))) (seqS (asgS (tgT 2 (tCons' (stS 8) (tCons' (stS 9) tNil'))) (rd 7)) (seqS (par2S 10 11 (lcV (rgV rg1 (aCons (cst (.int 4)) aNil)) (stS 6) [6] yesT e4_law) (lcV (rgV rg1 (aCons (cst (.int 4)) aNil)) (stS 6) [6] yesT e5_law)) (seqS (ifS (notT (tst (cN (F__law_same 8) (aCons (tupV (aCons (cN F_sums_of (aCons (rd 5) aNil)) (aCons (cN F_balance_of (aCons (rd 7) aNil)) aNil))) (aCons (tupV (aCons (rd 7) (aCons (tupV (aCons (cN tupleD (aCons (rd 10) aNil)) (aCons (cN tupleD (aCons (rd 11) aNil)) aNil))) aNil))) aNil))))) (seqS (rtS (cst (.bool false))) skip) skip) (seqS (asgS (stS 12) (c2 eqD (rd 10) (lstV (aCons (c2 subD (c2 ixD (rd 11) (cst (.int 2))) (c2 ixD (rd 11) (cst (.int 1)))) (aCons (c2 subD (c2 ixD (rd 11) (cst (.int 3))) (c2 ixD (rd 11) (cst (.int 2)))) (aCons (c2 subD (c2 subD (cst (.int 0)) (c2 ixD (rd 11) (cst (.int 0)))) (c2 ixD (rd 11) (cst (.int 3)))) (aCons (c2 subD (c2 ixD (rd 11) (cst (.int 0))) (c2 ixD (rd 11) (cst (.int 1)))) aNil))))))) (seqS (asgS (tgT 2 (tCons' (stS 13) (tCons' (stS 14) tNil'))) (cN F__law_after (aCons (rd 5) aNil))) (seqS (asgS (stS 15) (andV (c2 eqD (rd 14) (cst (.int 0))) (c2 eqD (rd 13) (tupV (aCons (cst (.int 0)) (aCons (cst (.int 0)) (aCons (cst (.int 0)) (aCons (cst (.int 0)) aNil)))))))) (seqS (ifS (orT (notT (tst (cN (F__law_same 8) (aCons (tupV (aCons (cN F_is_balanced (aCons (tupV (aCons (cN tupleD (aCons (rd 10) aNil)) (aCons (cN tupleD (aCons (rd 11) aNil)) aNil))) aNil)) (aCons (cN F_is_closed (aCons (rd 5) aNil)) aNil))) (aCons (tupV (aCons (rd 12) (aCons (rd 15) aNil))) aNil))))) (tstB (c2 neD (rd 15) (andV (rd 12) (c2 eqD (rd 14) (cst (.int 0))))))) (seqS (rtS (cst (.bool false))) skip) skip) (seqS (ifS (notT (tst (cN (F__law_same 8) (aCons (cN F_pose_after (aCons (tupV (aCons (tupV (aCons (cst (.int 0)) (aCons (cst (.int 0)) (aCons (cst (.int 0)) (aCons (cst (.int 0)) aNil))))) (aCons (cst (.int 0)) aNil))) (aCons (rd 5) aNil))) (aCons (tupV (aCons (rd 13) (aCons (rd 14) aNil))) aNil))))) (seqS (rtS (cst (.bool false))) skip) skip) (seqS (ifS (andT (notT (tst (cN anyD (aCons (lcV (seqI (rd 5)) (tgT 2 (tCons' (stS 21) (tCons' (stS 22) tNil'))) [21, 22] yesT e6_law) aNil)))) (andT (tstB (c2 eqD (rd 14) (cst (.int 0)))) (tstB (c2 neD (rd 15) (c2 eqD (slV (rd 9) noPt (ptOf (cst (.int 4)))) (slV (rd 9) (ptOf (cst (.int 4))) noPt)))))) (seqS (rtS (cst (.bool false))) skip) skip) (seqS (ifS (andT (tst (rd 15)) (tstB (c2 isNotD (cN F_is_closed (aCons (cN F_turned_track (aCons (rd 5) (aCons (ioV 1 F__law_take (aCons (cN lenD (aCons (rd 5) aNil)) aNil)) aNil))) aNil)) (cst (.bool true))))) (seqS (rtS (cst (.bool false))) skip) skip) (seqS (par2S 16 17 (tupV (aCons (rd 13) (aCons (rd 14) aNil))) (c2 addD (cst (.int 1)) (ioV 1 F__law_take (aCons (cst (.int 5)) aNil)))) (seqS (asgS (stS 18) (cN F__law_behind (aCons (rd 16) (aCons (tupV (aCons (cst (.str "left")) (aCons (rd 17) aNil))) aNil)))) (seqS (asgS (stS 19) (cN F__law_behind (aCons (tupV (aCons (c2 ixD (rd 16) (cst (.int 0))) (aCons (c2 ixD (rd 18) (cst (.int 1))) aNil))) (aCons (tupV (aCons (cst (.str "right")) (aCons (rd 17) aNil))) aNil)))) (seqS (ifS (notT (tst (cN (F__law_same 8) (aCons (tupV (aCons (c2 ixD (rd 19) (cst (.int 0))) (aCons (cN F_gap_of (aCons (tupV (aCons (cst (.str "left")) (aCons (rd 17) aNil))) (aCons (rd 14) aNil))) (aCons (cN F_gap_of (aCons (tupV (aCons (cst (.str "right")) (aCons (rd 17) aNil))) (aCons (c2 ixD (rd 18) (cst (.int 1))) aNil))) aNil)))) (aCons (tupV (aCons (c2 ixD (rd 18) (cst (.int 0))) (aCons (rd 14) (aCons (rd 14) aNil)))) aNil))))) (seqS (rtS (cst (.bool false))) skip) skip) skip)))))))))))))))
theorem b7_split {δ δ1 : Env} (h : trackS δ = some (.nx δ1)) : b7_law δ = seqS (ifS (tstB (c2 eqD (rd 5) (tupV aNil))) (seqS ctS skip) skip) tailS δ1 := by
  obtain ⟨d1, h1, h⟩ := seqS_inv h
  obtain ⟨d2, h2, h⟩ := seqS_inv h
  obtain ⟨d3, h3, h⟩ := seqS_inv h
  obtain ⟨d4, h4, h⟩ := seqS_inv h
  cases h
  exact (seqS_nx h1).trans ((seqS_nx h2).trans ((seqS_nx h3).trans (seqS_nx h4)))
theorem a_ev {l : List Int} (hl : l.length = 8) (x0 x1 x2 x3 x4 x5 x6 x7 x9 x10 x11 x12 x13 x14 x15 x16 x17 x18 x19 x20 x21 x22 : Option D) : (lcV (rgV rg1 (aCons (cst (.int 4)) aNil)) (stS 6) [6] yesT e4_law) [x0, x1, x2, x3, x4, x5, x6, x7, some (encR l), x9, x10, x11, x12, x13, x14, x15, x16, x17, x18, x19, x20, x21, x22] = some (encRL (op8 l), [x0, x1, x2, x3, x4, x5, x6, x7, some (encR l), x9, x10, x11, x12, x13, x14, x15, x16, x17, x18, x19, x20, x21, x22]) := by
  obtain ⟨a, b, c, d, e, f, g, h, rfl⟩ := len8 hl
  kernel_rfl
theorem b_ev {l : List Int} (hl : l.length = 8) (x0 x1 x2 x3 x4 x5 x6 x7 x8 x10 x11 x12 x13 x14 x15 x16 x17 x18 x19 x20 x21 x22 : Option D) : (lcV (rgV rg1 (aCons (cst (.int 4)) aNil)) (stS 6) [6] yesT e5_law) [x0, x1, x2, x3, x4, x5, x6, x7, x8, some (encR l), x10, x11, x12, x13, x14, x15, x16, x17, x18, x19, x20, x21, x22] = some (encRL (op8 l), [x0, x1, x2, x3, x4, x5, x6, x7, x8, some (encR l), x10, x11, x12, x13, x14, x15, x16, x17, x18, x19, x20, x21, x22]) := by
  obtain ⟨a, b, c, d, e, f, g, h, rfl⟩ := len8 hl
  kernel_rfl
theorem par2_ev {i j : Nat} {f g : CE} {δ δ1 δ2 δ3 δ4 : Env} {d e : D} (h1 : f δ = some (d, δ1)) (h2 : g δ1 = some (e, δ2)) (h3 : stS i d δ2 = some δ3) (h4 : stS j e δ3 = some δ4) : par2S i j f g δ = some (.nx δ4) := by
  unfold par2S
  rw [h1]
  dsimp only [Option.bind_some]
  rw [h2]
  dsimp only [Option.bind_some]
  rw [h3]
  dsimp only [Option.bind_some]
  rw [h4]
  rfl
theorem eqD_S (s t : Spot) : eqD (encS s) (encS t) = some (.bool (decide (s = t))) := by
  rw [eqD_ev (ok_S 0 s) (ok_S 0 t) (by omega)]
  congr 2
  by_cases h : s = t
  · rw [decide_eq_true h]
    exact (eqv_iff _ _ (nob_S s) (nob_S t)).mpr (by rw [h])
  · rw [decide_eq_false h]
    cases e : PyData.eqv (encS s) (encS t) with
    | false => rfl
    | true => exact absurd (encS_inj ((eqv_iff _ _ (nob_S s) (nob_S t)).mp e)) h
theorem neD_self {b c : Bool} (h : b = c) : neD (.bool b) (.bool c) = some (.bool false) := by
  subst h
  rw [neD_ev (n := 0) (.bl b) (.bl b) (by omega)]
  cases b <;> rfl
theorem any_map (l : List Pc) (b : Pc → Bool) : anyD [.list (l.map fun p => PyData.bool (b p))] = some (.bool (l.any b)) := by
  have h : asBools (l.map fun p => PyData.bool (b p)) = some (l.map b) := by
    induction l with
    | nil => rfl
    | cons p l ih =>
      show ((asBools (l.map fun p => PyData.bool (b p))).map (b p :: ·)) = _
      rw [ih]
      rfl
  show ((asBools _).map _) = _
  rw [h]
  show some (PyData.bool (List.any (l.map b) id)) = _
  rw [List.any_map]
  rfl
theorem any_ev (u : List Pc) (x0 x1 x2 x3 x4 x6 x7 x8 x9 x10 x11 x12 x13 x14 x15 x16 x17 x18 x19 x20 x21 x22 : Option D) : (cN anyD (aCons (lcV (seqI (rd 5)) (tgT 2 (tCons' (stS 21) (tCons' (stS 22) tNil'))) [21, 22] yesT e6_law) aNil)) [x0, x1, x2, x3, x4, some (encTr u), x6, x7, x8, x9, x10, x11, x12, x13, x14, x15, x16, x17, x18, x19, x20, x21, x22] = some (.bool (u.any fun p => decide (p.1 = .S)), [x0, x1, x2, x3, x4, some (encTr u), x6, x7, x8, x9, x10, x11, x12, x13, x14, x15, x16, x17, x18, x19, x20, x21, x22]) := by
  obtain ⟨δ', h1, y, z, rfl⟩ := lcL_enc (t := tgT 2 (tCons' (stS 21) (tCons' (stS 22) tNil'))) (own := [21, 22]) (f := e6_law) encP (fun p => PyData.bool (decide (p.1 = .S))) (fun δ => ∃ y z, δ = [x0, x1, x2, x3, x4, some (encTr u), x6, x7, x8, x9, x10, x11, x12, x13, x14, x15, x16, x17, x18, x19, x20, y, z]) (l := u) (δ := [x0, x1, x2, x3, x4, some (encTr u), x6, x7, x8, x9, x10, x11, x12, x13, x14, x15, x16, x17, x18, x19, x20, x21, x22]) ⟨_, _, rfl⟩ (by
    rintro p hp δ ⟨y, z, rfl⟩
    refine ⟨[x0, x1, x2, x3, x4, some (encTr u), x6, x7, x8, x9, x10, x11, x12, x13, x14, x15, x16, x17, x18, x19, x20, some p.1.d, some (.int p.2)], _, rfl, c2_ev (d := p.1.d) (e := .str "straight") rfl rfl ?_, _, _, rfl⟩
    obtain ⟨k, n⟩ := p
    cases k <;> kernel_rfl)
  exact cN_ev (aCons_ev (lcV_ev (seqI_ev rfl rfl) h1) rfl) (any_map u _)
theorem slR_take (l : List Int) (n : Nat) : slD (encR l) none (some (n : Int)) = some (encR (l.take n)) := by
  refine (slD_tuple (imm_ints l)).trans ?_
  rw [cut_take, ← List.map_take]
  rfl
theorem slR_drop (l : List Int) (n : Nat) : slD (encR l) (some (n : Int)) none = some (encR (l.drop n)) := by
  refine (slD_tuple (imm_ints l)).trans ?_
  rw [cut_drop, ← List.map_drop]
  rfl
theorem same_step (h r : Int) : step (.R, r) ((h + 1) % 8) = step (.L, r) h := by
  show ssub (turn ((h + 1) % 8 + 1) (r, 0, 0, 0)) (turn ((h + 1) % 8 + 2) (r, 0, 0, 0)) = ssub (turn (h + 2) (r, 0, 0, 0)) (turn (h + 3) (r, 0, 0, 0))
  rw [turn_congr (show ((h + 1) % 8 + 1) % 8 = (h + 2) % 8 by omega), turn_congr (show ((h + 1) % 8 + 2) % 8 = (h + 3) % 8 by omega)]
theorem ok_3 {n : Nat} {a b c : D} (ha : Ok n a) (hb : Ok n b) (hc : Ok n c) : Ok (n + 1) (.tuple [a, b, c]) := .tup (fun d hd => by
  simp only [List.mem_cons, List.not_mem_nil, or_false] at hd
  rcases hd with rfl | rfl | rfl
  · exact ha
  · exact hb
  · exact hc) (by show 3 ≤ _; decide)
theorem tail_ev (x0 x2 : Option D) (u : List Pc) (hu : u ≠ []) (hl : u.length ≤ 64) {t : List D} (ht : TapeOk t) (y3 y4 y6 y7 y8 y9 y10 y11 y12 y13 y14 y15 y16 y17 y18 y19 y20 y21 y22 : Option D) : ∃ δ', tailS [x0, some (.list t), x2, y3, y4, some (encTr u), y6, y7, y8, y9, y10, y11, y12, y13, y14, y15, y16, y17, y18, y19, y20, y21, y22] = some (.nx δ') ∧ Inv7 x0 x2 δ' := by
  have hz := go_ok u z0 z0_ok
  have hlead := lead_all u
  have sums := law_sums_eq u
  have sums2 := sums_of_eq u
  have hcc := curves_closed u
  generalize goM z0 u = z at hz hlead sums sums2 hcc
  obtain ⟨b0, b1, b2, b3, hb⟩ := op8_len hz.2.1
  obtain ⟨a0, a1, a2, a3, ha⟩ := op8_len hz.1
  have hbal := balance_of_eq z hz
  have hfair := lead_fair z hz
  rw [ha, hb] at hbal hfair
  -- what is true of it
  obtain ⟨F, hF⟩ : ∃ F, F = decide (lead z = s0) := ⟨_, rfl⟩
  obtain ⟨G, hG⟩ : ∃ G, G = decide ((z.h : Int) = 0) := ⟨_, rfl⟩
  have hF2 : decide ([a0, a1, a2, a3] = fairL [b0, b1, b2, b3]) = F := by rw [hF]; exact decide_eq_decide.mpr hfair.symm
  have hcl : F_is_closed [encTr u] = some (.bool (G && F)) := by
    rw [is_closed_eq u (by omega), decide_eq_true hu, Bool.true_and, hlead]
    congr 2
    rw [hF, hG, Bool.eq_iff_iff]
    simp only [decide_eq_true_eq, Bool.and_eq_true]
    show ((lead z, (z.h : Int)) : Pose) = (s0, 0) ↔ _
    rw [Prod.mk.injEq]
    exact and_comm
  have okz : Ok 2 (encSm z) := Ok.t2 (ok_R 0 _ (by rw [hz.1]; decide)) (ok_R 0 _ (by rw [hz.2.1]; decide))
  have okb : Ok 2 (encB [a0, a1, a2, a3] [b0, b1, b2, b3]) := Ok.t2 (ok_R 0 _ (by show 4 ≤ _; decide)) (ok_R 0 _ (by show 4 ≤ _; decide))
  -- closed
  have hclosed : ∀ {E : Env}, rd 14 E = some (.int z.h, E) → rd 13 E = some (encS (lead z), E) → (andV (c2 eqD (rd 14) (cst (.int 0))) (c2 eqD (rd 13) (tupV (aCons (cst (.int 0)) (aCons (cst (.int 0)) (aCons (cst (.int 0)) (aCons (cst (.int 0)) aNil))))))) E = some (.bool (G && F), E) := fun h14 h13 => by
    have e1 : c2 eqD (rd 14) (cst (.int 0)) _ = some (.bool G, _) := c2_ev h14 rfl (by rw [eqD_int, hG])
    cases hG' : G with
    | true =>
      rw [hG'] at e1
      exact (andV_t e1 rfl).trans (c2_ev (e := encS s0) h13 rfl (by rw [eqD_S, ← hF]; rfl))
    | false =>
      rw [hG'] at e1
      exact (andV_f e1 rfl).trans rfl
  have hfg : ∀ {E : Env}, rd 14 E = some (.int z.h, E) → rd 12 E = some (.bool F, E) → (andV (rd 12) (c2 eqD (rd 14) (cst (.int 0)))) E = some (.bool (G && F), E) := fun h14 h12 => by
    have e1 : c2 eqD (rd 14) (cst (.int 0)) _ = some (.bool G, _) := c2_ev h14 rfl (by rw [eqD_int, hG])
    cases hF' : F with
    | true =>
      rw [hF'] at h12
      rw [Bool.and_true]
      exact (andV_t h12 rfl).trans e1
    | false =>
      rw [hF'] at h12
      rw [Bool.and_false]
      exact andV_f h12 rfl
  -- straights none, curves alone
  have hany : ∀ {y16 y17 y18 y19 y20 y21 y22 : Option D}, (andT (notT (tst (cN anyD (aCons (lcV (seqI (rd 5)) (tgT 2 (tCons' (stS 21) (tCons' (stS 22) tNil'))) [21, 22] yesT e6_law) aNil)))) (andT (tstB (c2 eqD (rd 14) (cst (.int 0)))) (tstB (c2 neD (rd 15) (c2 eqD (slV (rd 9) noPt (ptOf (cst (.int 4)))) (slV (rd 9) (ptOf (cst (.int 4))) noPt)))))) [x0, some (.list t), x2, y3, y4, some (encTr u), y6, some (encSm z), some (encR z.st), some (encR z.cu), some (encRL [a0, a1, a2, a3]), some (encRL [b0, b1, b2, b3]), some (.bool F), some (encS (lead z)), some (.int z.h), some (.bool (G && F)), y16, y17, y18, y19, y20, y21, y22] = some (false, [x0, some (.list t), x2, y3, y4, some (encTr u), y6, some (encSm z), some (encR z.st), some (encR z.cu), some (encRL [a0, a1, a2, a3]), some (encRL [b0, b1, b2, b3]), some (.bool F), some (encS (lead z)), some (.int z.h), some (.bool (G && F)), y16, y17, y18, y19, y20, y21, y22]) := fun {y16 y17 y18 y19 y20 y21 y22} => by
    have e1 := any_ev u x0 (some (.list t)) x2 y3 y4 y6 (some (encSm z)) (some (encR z.st)) (some (encR z.cu)) (some (encRL [a0, a1, a2, a3])) (some (encRL [b0, b1, b2, b3])) (some (.bool F)) (some (encS (lead z))) (some (.int z.h)) (some (.bool (G && F))) y16 y17 y18 y19 y20 y21 y22
    cases hN : u.any (fun p => decide (p.1 = .S)) with
    | true =>
      rw [hN] at e1
      exact andT_f (notT_t (tst_ev e1 rfl))
    | false =>
      rw [hN] at e1
      refine (andT_t (notT_f (tst_ev e1 rfl))).trans ?_
      have e2 : tstB (c2 eqD (rd 14) (cst (.int 0))) [x0, some (.list t), x2, y3, y4, some (encTr u), y6, some (encSm z), some (encR z.st), some (encR z.cu), some (encRL [a0, a1, a2, a3]), some (encRL [b0, b1, b2, b3]), some (.bool F), some (encS (lead z)), some (.int z.h), some (.bool (G && F)), y16, y17, y18, y19, y20, y21, y22] = some (G, [x0, some (.list t), x2, y3, y4, some (encTr u), y6, some (encSm z), some (encR z.st), some (encR z.cu), some (encRL [a0, a1, a2, a3]), some (encRL [b0, b1, b2, b3]), some (.bool F), some (encS (lead z)), some (.int z.h), some (.bool (G && F)), y16, y17, y18, y19, y20, y21, y22]) := tstB_ev (c2_ev rfl rfl (by rw [eqD_int, hG]))
      cases hG' : G with
      | false =>
        rw [hG'] at e2
        exact andT_f e2
      | true =>
        rw [hG'] at e2
        refine (andT_t e2).trans (tstB_ev (c2_ev (d := .bool (true && F)) (e := .bool F) rfl (c2_ev (d := encR (z.cu.take 4)) (e := encR (z.cu.drop 4)) (slV_ev (l := none) (u := some ((4 : Nat) : Int)) rfl rfl rfl (slR_take z.cu 4)) (slV_ev (l := some ((4 : Nat) : Int)) (u := none) rfl rfl rfl (slR_drop z.cu 4)) ?_) (neD_self (Bool.true_and F))))
        rw [eqD_R _ _ (by rw [List.length_take, hz.2.1]; decide) (by rw [List.length_drop, hz.2.1]; decide), hF]
        congr 2
        exact decide_eq_decide.mpr (hcc (by simp only [noS, hN]; rfl)).symm
  -- begun elsewhere
  obtain ⟨t2, hturn, o2⟩ : ∃ t2, (andT (tst (rd 15)) (tstB (c2 isNotD (cN F_is_closed (aCons (cN F_turned_track (aCons (rd 5) (aCons (ioV 1 F__law_take (aCons (cN lenD (aCons (rd 5) aNil)) aNil)) aNil))) aNil)) (cst (.bool true))))) [x0, some (.list t), x2, y3, y4, some (encTr u), y6, some (encSm z), some (encR z.st), some (encR z.cu), some (encRL [a0, a1, a2, a3]), some (encRL [b0, b1, b2, b3]), some (.bool F), some (encS (lead z)), some (.int z.h), some (.bool (G && F)), y16, y17, y18, y19, y20, y21, y22] = some (false, [x0, some (.list t2), x2, y3, y4, some (encTr u), y6, some (encSm z), some (encR z.st), some (encR z.cu), some (encRL [a0, a1, a2, a3]), some (encRL [b0, b1, b2, b3]), some (.bool F), some (encS (lead z)), some (.int z.h), some (.bool (G && F)), y16, y17, y18, y19, y20, y21, y22]) ∧ TapeOk t2 := by
    cases hc : (G && F) with
    | false => exact ⟨t, andT_f (tst_ev rfl rfl), ht⟩
    | true =>
      have h0 : u.length ≠ 0 := fun e => hu (List.length_eq_zero_iff.mp e)
      have el : cN lenD (aCons (rd 5) aNil) [x0, some (.list t), x2, y3, y4, some (encTr u), y6, some (encSm z), some (encR z.st), some (encR z.cu), some (encRL [a0, a1, a2, a3]), some (encRL [b0, b1, b2, b3]), some (.bool F), some (encS (lead z)), some (.int z.h), some (.bool true), y16, y17, y18, y19, y20, y21, y22] = some (.int u.length, [x0, some (.list t), x2, y3, y4, some (encTr u), y6, some (encSm z), some (encR z.st), some (encR z.cu), some (encRL [a0, a1, a2, a3]), some (encRL [b0, b1, b2, b3]), some (.bool F), some (encS (lead z)), some (.int z.h), some (.bool true), y16, y17, y18, y19, y20, y21, y22]) := lenTr rfl
      obtain ⟨k, t2, e, k0, k1, o2⟩ := io_take 1 rfl el ht (by omega) (by omega)
      refine ⟨t2, (andT_t (tst_ev rfl rfl)).trans (tstB_ev (c2_ev (d := .bool true) (e := .bool true) (cN_ev (ds := [encTr (u.drop k.toNat ++ u.take k.toNat)]) (aCons_ev (cN_ev (ds := [encTr u, .int k]) (aCons_ev rfl (aCons_ev e rfl)) ?_) rfl) ?_) rfl rfl)), o2⟩
      · have := turned_track_eq u hu (by omega) k.toNat (by omega)
        rw [Int.toNat_of_nonneg k0] at this
        exact this
      · have hcu : go o0 u = o0 := by
          rw [hc, is_closed_eq u (by omega), decide_eq_true hu, Bool.true_and] at hcl
          have := Option.some.inj hcl
          simp only [PyData.bool.injEq, decide_eq_true_eq] at this
          exact this
        rw [is_closed_eq _ (by simp only [List.length_append, List.length_take, List.length_drop]; omega)]
        have h1 : u.drop k.toNat ++ u.take k.toNat ≠ [] := fun e => by
          have := congrArg List.length e
          simp only [List.length_append, List.length_take, List.length_drop, List.length_nil] at this
          omega
        have h2 : go o0 (u.drop k.toNat ++ u.take k.toNat) = o0 := closed_turned (u.take k.toNat) (u.drop k.toNat) (by rw [List.take_append_drop]; exact hcu)
        rw [decide_eq_true h1, decide_eq_true h2]
        rfl
  obtain ⟨r, t3, e3, r0, r1, o3⟩ := io_take 1 (δ := [x0, some (.list t2), x2, y3, y4, some (encTr u), y6, some (encSm z), some (encR z.st), some (encR z.cu), some (encRL [a0, a1, a2, a3]), some (encRL [b0, b1, b2, b3]), some (.bool F), some (encS (lead z)), some (.int z.h), some (.bool (G && F)), y16, y17, y18, y19, y20, y21, y22]) (fa := cst (.int 5)) rfl rfl o2 (n := 5) (by decide) (by decide)
  have hq : 0 ≤ (z.h : Int) := by omega
  have hh : z.h < 8 := hz.2.2
  have hb1 := law_behind_eq (lead z, (z.h : Int)) hq (.L, 1 + r)
  have hb2 := law_behind_eq (lead z, (behind (lead z, (z.h : Int)) (.L, 1 + r)).2) (behind_pos _ _) (.R, 1 + r)
  have hback : (behind (lead z, (behind (lead z, (z.h : Int)) (.L, 1 + r)).2) (.R, 1 + r)).1 = (behind (lead z, (z.h : Int)) (.L, 1 + r)).1 := by
    show sadd (lead z) (step (.R, 1 + r) (((z.h : Int) + 1) % 8)) = sadd (lead z) (step (.L, 1 + r) z.h)
    rw [same_step]
  have g1 := gap_of_eq (.L, 1 + r) z.h hh
  have g2 := gap_of_eq (.R, 1 + r) ((z.h + 1) % 8) (Nat.mod_lt _ (by decide))
  have e82 : (behind (lead z, (z.h : Int)) (.L, 1 + r)).2 = (((z.h + 1) % 8 : Nat) : Int) := by
    show ((z.h : Int) + 1) % 8 = _
    omega
  have e83 : (((match (Kd.R, 1 + r).1 with | .L => (z.h + 1) % 8 | _ => ((z.h + 1) % 8 + 7) % 8 : Nat)) : Int) = (z.h : Int) := by
    show ((((z.h + 1) % 8 + 7) % 8 : Nat) : Int) = _
    omega
  rw [e83, ← e82] at g2
  refine ⟨_, (seqS_nx (asgP (d := encSm z) (cNP (ds := [encTr u]) rfl sums) rfl)).trans
    ((seqS_nx (asgP (d := encSm z) rfl rfl)).trans
    ((seqS_nx (δ1 := [x0, some (.list t), x2, y3, y4, some (encTr u), y6, some (encSm z), some (encR z.st), some (encR z.cu), some (encRL [a0, a1, a2, a3]), some (encRL [b0, b1, b2, b3]), y12, y13, y14, y15, y16, y17, y18, y19, y20, y21, y22]) (par2_ev (d := encRL [a0, a1, a2, a3]) (e := encRL [b0, b1, b2, b3]) ((a_ev hz.1 _ _ _ _ _ _ _ _ _ _ _ _ _ _ _ _ _ _ _ _ _ _).trans (by rw [ha])) ((b_ev hz.2.1 _ _ _ _ _ _ _ _ _ _ _ _ _ _ _ _ _ _ _ _ _ _).trans (by rw [hb])) rfl rfl)).trans
    ((seqS_nx (ifSame (d := .tuple [encSm z, encB [a0, a1, a2, a3] [b0, b1, b2, b3]]) 3 (aCons_ev (tupV_ev (aCons_ev (cNP (ds := [encTr u]) rfl sums2) (aCons_ev (cNP (ds := [encSm z]) rfl hbal) rfl))) (aCons_ev (tupV_ev (aCons_ev rfl (aCons_ev (tupV_ev (aCons_ev (cNP (ds := [encRL [a0, a1, a2, a3]]) rfl (tupleR _)) (aCons_ev (cNP (ds := [encRL [b0, b1, b2, b3]]) rfl (tupleR _)) rfl))) rfl))) rfl)) (Ok.t2 okz okb) (by decide))).trans
    ((seqS_nx (asgP (d := .bool F) (c2_ev (d := encRL [a0, a1, a2, a3]) (e := encRL [b2 - b1, b3 - b2, 0 - b0 - b3, b0 - b1]) rfl rfl ((eqD_RL _ _ (by show 4 ≤ 16777216; decide) (by show 4 ≤ 16777216; decide)).trans (by rw [Int.zero_sub]; exact congrArg (fun b => some (PyData.bool b)) hF2))) rfl)).trans
    ((seqS_nx (asgP (d := encPo (lead z, (z.h : Int))) (cNP (ds := [encTr u]) rfl ((law_after_eq u).trans (by rw [hlead]))) rfl)).trans
    ((seqS_nx (δ1 := [x0, some (.list t), x2, y3, y4, some (encTr u), y6, some (encSm z), some (encR z.st), some (encR z.cu), some (encRL [a0, a1, a2, a3]), some (encRL [b0, b1, b2, b3]), some (.bool F), some (encS (lead z)), some (.int z.h), some (.bool (G && F)), y16, y17, y18, y19, y20, y21, y22]) (asgP (hclosed rfl rfl) rfl)).trans
    ((seqS_nx ((ifS_f ((orT_f (notT_t (tst_ev (d := .bool true) (cN_ev (ds := [.tuple [.bool F, .bool (G && F)], .tuple [.bool F, .bool (G && F)]]) (aCons_ev (tupV_ev (aCons_ev (cNP (ds := [encB [a0, a1, a2, a3] [b0, b1, b2, b3]]) (aCons_ev (tupV_ev (aCons_ev (cNP (ds := [encRL [a0, a1, a2, a3]]) rfl (tupleR _)) (aCons_ev (cNP (ds := [encRL [b0, b1, b2, b3]]) rfl (tupleR _)) rfl))) rfl) ((is_bal_ev [a0, a1, a2, a3] (by show 4 ≤ 16777216; decide) b0 b1 b2 b3).trans (by rw [hF2]))) (aCons_ev (cNP (ds := [encTr u]) rfl hcl) rfl))) rfl) (same_self ((Ok.t2 (.bl _) (.bl _) : Ok 1 _).up (by decide)))) rfl))).trans (tstB_ev (c2_ev (d := .bool (G && F)) rfl (hfg rfl rfl) (neD_self rfl))))).trans rfl)).trans
    ((seqS_nx (ifSame (d := encPo (lead z, (z.h : Int))) 2 (aCons_ev (cNP (ds := [encPo o0, encTr u]) rfl ((pose_after_eq o0 u (by omega)).trans (by rw [hlead]))) rfl) (ok_Po 0 _) (by decide))).trans
    ((seqS_nx ((ifS_f hany).trans rfl)).trans
    ((seqS_nx ((ifS_f hturn).trans rfl)).trans
    ((seqS_nx (par2_ev (d := encPo (lead z, (z.h : Int))) (e := .int (1 + r)) rfl (c2_ev rfl e3 rfl) rfl rfl)).trans
    ((seqS_nx (asgP (d := encPo (behind (lead z, (z.h : Int)) (.L, 1 + r))) (cNP (ds := [encPo (lead z, (z.h : Int)), encP (.L, 1 + r)]) rfl hb1) rfl)).trans
    ((seqS_nx (asgP (d := encPo (behind (lead z, (behind (lead z, (z.h : Int)) (.L, 1 + r)).2) (.R, 1 + r))) (cNP (ds := [encPo (lead z, (behind (lead z, (z.h : Int)) (.L, 1 + r)).2), encP (.R, 1 + r)]) rfl hb2) rfl)).trans
    ((seqS_nx (ifSame (d := .tuple [encS (behind (lead z, (z.h : Int)) (.L, 1 + r)).1, .int z.h, .int z.h]) 2 (aCons_ev (tupV_ev (aCons_ev (c2_ev (d := encPo (behind (lead z, (behind (lead z, (z.h : Int)) (.L, 1 + r)).2) (.R, 1 + r))) (e := .int 0) rfl rfl (by rw [← hback]; rfl)) (aCons_ev (cNP (ds := [encP (.L, 1 + r), .int z.h]) rfl g1) (aCons_ev (cNP (ds := [encP (.R, 1 + r), .int (behind (lead z, (z.h : Int)) (.L, 1 + r)).2]) rfl g2) rfl)))) rfl) (ok_3 (ok_S 0 _) (.int _) (.int _)) (by decide))).trans rfl)))))))))))))), ?_⟩
  exact ⟨t3, _, _, _, _, _, _, _, _, _, _, _, _, _, _, _, _, _, _, _, _, o3, rfl⟩
/-! ### the law -/
theorem b7_ev (x0 x2 : Option D) {δ : Env} (h : Inv7 x0 x2 δ) : ∃ fl, b7_law δ = some fl ∧ On (Inv7 x0 x2) fl := by
  obtain ⟨u, t, y3, y4, y6, y7, y8, y9, y10, y11, y12, y13, y14, y15, y16, y17, y18, y19, y20, y21, y22, e, hl, ht⟩ := track_ev x0 x2 h
  have hs := b7_split e
  have hq : ∀ b, decide (u = []) = b → (tstB (c2 eqD (rd 5) (tupV aNil))) [x0, some (.list t), x2, y3, y4, some (encTr u), y6, y7, y8, y9, y10, y11, y12, y13, y14, y15, y16, y17, y18, y19, y20, y21, y22] = some (b, [x0, some (.list t), x2, y3, y4, some (encTr u), y6, y7, y8, y9, y10, y11, y12, y13, y14, y15, y16, y17, y18, y19, y20, y21, y22]) := fun b hb => by
    refine tstB_ev (c2_ev (d := encTr u) (e := encTr []) rfl rfl ?_)
    rw [eqD_ev (ok_Tr 0 u (by omega)) (ok_Tr 0 [] (by decide)) (by omega), ← hb]
    cases u <;> kernel_rfl
  by_cases hu : u = []
  · exact ⟨_, hs.trans (seqS_ct ((ifS_t (hq true (decide_eq_true hu))).trans rfl)), t, y3, y4, _, y6, y7, y8, y9, y10, y11, y12, y13, y14, y15, y16, y17, y18, y19, y20, y21, y22, ht, rfl⟩
  · obtain ⟨δ', e', h'⟩ := tail_ev x0 x2 u hu hl ht y3 y4 y6 y7 y8 y9 y10 y11 y12 y13 y14 y15 y16 y17 y18 y19 y20 y21 y22
    exact ⟨.nx δ', hs.trans ((seqS_nx ((ifS_f (hq false (decide_eq_false hu))).trans rfl)).trans e'), h'⟩
def ring : List Pc := [(.L, 2), (.L, 2), (.L, 2), (.L, 2), (.L, 2), (.L, 2), (.L, 2), (.L, 2)]
theorem law_true (ns : List Int) : F_law [.list (ns.map .int)] = some (.bool true) := by
  obtain ⟨t, et, ot⟩ := tape_ev ns
  have c1 := gap_of_eq (.L, 3) 5 (by decide)
  have c2' := gap_of_eq (.R, 3) 0 (by decide)
  have c3 : F_is_closed [encTr ring] = some (.bool true) := (is_closed_eq ring (by decide)).trans (by kernel_rfl)
  have c4 : F_is_balanced [encB [0, 0, 0, 0] [0, 0, 0, 0]] = some (.bool true) := (is_bal_ev [0, 0, 0, 0] (by decide) 0 0 0 0).trans (by kernel_rfl)
  obtain ⟨δ', e, h⟩ := forL_inv (t := stS 3) (g := b7_law) (Inv7 (some (.list (ns.map .int))) (some (encTr ring))) (ds := rgI 0 5) (δ := [some (.list (ns.map .int)), some (.list t), some (encTr ring), none, none, none, none, none, none, none, none, none, none, none, none, none, none, none, none, none, none, none, none]) ⟨t, _, _, _, _, _, _, _, _, _, _, _, _, _, _, _, _, _, _, _, _, ot, rfl⟩ (by
    rintro c hc δ ⟨t, y3, y4, y5, y6, y7, y8, y9, y10, y11, y12, y13, y14, y15, y16, y17, y18, y19, y20, y21, y22, ht, rfl⟩
    obtain ⟨fl, e, h⟩ := b7_ev (some (.list (ns.map .int))) (some (encTr ring)) (δ := [some (.list (ns.map .int)), some (.list t), some (encTr ring), some c, y4, y5, y6, y7, y8, y9, y10, y11, y12, y13, y14, y15, y16, y17, y18, y19, y20, y21, y22]) ⟨_, _, _, _, _, _, _, _, _, _, _, _, _, _, _, _, _, _, _, _, _, ht, rfl⟩
    exact ⟨_, fl, rfl, e, h⟩)
  refine fnF_rt (δ := δ') rfl ?_
  refine (seqS_nx (asgS_ev (cN_ev (ds := [.list (ns.map .int)]) rfl et) rfl)).trans ((seqS_nx (asgP (d := encTr ring) (c2_ev (d := encTr [(.L, 2)]) (e := .int 8) rfl rfl (by kernel_rfl)) rfl)).trans ((seqS_nx (δ1 := [some (.list (ns.map .int)), some (.list t), some (encTr ring), none, none, none, none, none, none, none, none, none, none, none, none, none, none, none, none, none, none, none, none]) ((ifS_f ?_).trans rfl)).trans ((seqS_nx ((forS_ev (rgV_ev rfl (rg1_ev (n := 5) (by decide) (by decide)))).trans e)).trans rfl)))
  refine (orT_f (tstB_ev (c2_ev (d := .tuple [.int 5, .int 7]) (e := .tuple [.int 5, .int 7]) (tupV_ev (aCons_ev (cNP (ds := [encP (.L, 3), .int 5]) rfl c1) (aCons_ev (cNP (ds := [encP (.R, 3), .int 0]) rfl c2') rfl))) rfl (by kernel_rfl)))).trans ((orT_f (tstB_ev (c2_ev (d := .bool true) (e := .bool true) (cNP (ds := [encTr ring]) rfl c3) rfl (by kernel_rfl)))).trans (tstB_ev (c2_ev (d := .bool true) (e := .bool true) (cNP (ds := [encB [0, 0, 0, 0] [0, 0, 0, 0]]) (aCons_ev (tupV_ev (aCons_ev (c2_ev (d := .tuple [.int 0]) (e := .int 4) rfl rfl (r := encR [0, 0, 0, 0]) (by kernel_rfl)) (aCons_ev (c2_ev (d := .tuple [.int 0]) (e := .int 4) rfl rfl (r := encR [0, 0, 0, 0]) (by kernel_rfl)) rfl))) rfl) c4) rfl (by kernel_rfl))))
end Lw
namespace Lw
open PySem PySem.Spec PyProof.Rows L2 Dn Lb
theorem law_fd {l : PySem.W.OpenLaw} {w : World} {K : PySem.W.Frag} {h : Heap} {mg : Str → Option Value} {fa f : Addr} {oc kV doc pm cdv ct : Value} {od an : Option Addr} {osl : Array (Option Value)} (X : K.In h) (G : h.Ns mainGlobals mg) (hfa : mg "law" = some (.ref fa)) (T : Tx K mg)
    (a : PySem.W.nsIn K mainGlobals "law" = some (some (.ref f))) (e : K.lookup f = some ⟨oc, od, .func (PySem.W.fnOf "law" "law" (defArgs s_law) (defBody s_law) (defScope s_law) .none kV doc pm an cdv ct), osl⟩) (c : PySem.W.codeIn K cdv "law" = true) (k : PySem.W.keepIn K (.ref f) = true) :
    ∃ fd : FuncData, (∀ (s : Shared) (v : Value), BindsTo s fd ⟨[v], []⟩ [("script", v)]) ∧ ∀ base : Heap, K.In base → base.Ns mainGlobals mg → FnOk l.prog w K mg base CX0 9 fa fd ["script"] (spLaw K) := by
  have z := hfa.symm.trans (PySem.W.mg_of X G a)
  cases z
  exact ⟨_, fun s v => .of_eq rfl, fun base _ _ => law_imp (ok_law T (fun_mk e c k)) law_true⟩
end Lw
open PySem PySem.W PyProof.Rows
set_option maxHeartbeats 0 in
theorem PySem.Challenge.cw_loopsclosed_k06_whole_sums_and_balances_holds : PySem.Challenge.rw_loopsclosed_k06_whole_sums_and_balances.Holds := by
  w_on; o_law; k_head
  (case hw => w_witness2)
  k_fill
  refine L2.walk_of (l := PySem.Challenge.rw_loopsclosed_k06_whole_sums_and_balances) (n := 63) (k := 9) (x := "script") (CX := fun _ => L2.CX0) (sp := fun w => Dn.spLaw _) rfl (by decide) rfl ⟨rfl, by decide, by decide⟩
    (fun w h Y => PySem.W.kIn_of Y) ?F (fun _ _ a ns _ hO hS => ⟨a, ns, rfl, hO, hS, fun _ => rfl⟩) (fun _ _ _ _ _ z => z)
  case F =>
    intro w mg fa h KX G hmg
    have d_added := Dn.Df.mk1 (x := "added") (st := Lw.s_added) (ps := ["one", "other"]) KX G (by k_is) (by k_is) (by k_is) (by k_is) (fun _ _ _ _ _ _ us hl => match us, hl with | [_, _], _ => rfl)
    have d_taken_off := Dn.Df.mk1 (x := "taken_off") (st := Lw.s_taken_off) (ps := ["one", "other"]) KX G (by k_is) (by k_is) (by k_is) (by k_is) (fun _ _ _ _ _ _ us hl => match us, hl with | [_, _], _ => rfl)
    have d_turned_spot := Dn.Df.mk1 (x := "turned_spot") (st := Lw.s_turned_spot) (ps := ["spot", "k"]) KX G (by k_is) (by k_is) (by k_is) (by k_is) (fun _ _ _ _ _ _ us hl => match us, hl with | [_, _], _ => rfl)
    have d_along := Dn.Df.mk1 (x := "along") (st := Lw.s_along) (ps := ["heading", "n"]) KX G (by k_is) (by k_is) (by k_is) (by k_is) (fun _ _ _ _ _ _ us hl => match us, hl with | [_, _], _ => rfl)
    have d_turn_of := Dn.Df.mk1 (x := "turn_of") (st := Lw.s_turn_of) (ps := ["piece"]) KX G (by k_is) (by k_is) (by k_is) (by k_is) (fun _ _ _ _ _ _ us hl => match us, hl with | [_], _ => rfl)
    have d_step_of := Dn.Df.mk1 (x := "step_of") (st := Lw.s_step_of) (ps := ["piece", "heading"]) KX G (by k_is) (by k_is) (by k_is) (by k_is) (fun _ _ _ _ _ _ us hl => match us, hl with | [_, _], _ => rfl)
    have d_pose_behind := Dn.Df.mk1 (x := "pose_behind") (st := Lw.s_pose_behind) (ps := ["pose", "piece"]) KX G (by k_is) (by k_is) (by k_is) (by k_is) (fun _ _ _ _ _ _ us hl => match us, hl with | [_, _], _ => rfl)
    have d_poses_along := Dn.Df.mk1 (x := "poses_along") (st := Lw.s_poses_along) (ps := ["pose", "track"]) KX G (by k_is) (by k_is) (by k_is) (by k_is) (fun _ _ _ _ _ _ us hl => match us, hl with | [_, _], _ => rfl)
    have d_pose_after := Dn.Df.mk1 (x := "pose_after") (st := Lw.s_pose_after) (ps := ["pose", "track"]) KX G (by k_is) (by k_is) (by k_is) (by k_is) (fun _ _ _ _ _ _ us hl => match us, hl with | [_, _], _ => rfl)
    have d_is_closed := Dn.Df.mk1 (x := "is_closed") (st := Lw.s_is_closed) (ps := ["track"]) KX G (by k_is) (by k_is) (by k_is) (by k_is) (fun _ _ _ _ _ _ us hl => match us, hl with | [_], _ => rfl)
    have d_turned_track := Dn.Df.mk1 (x := "turned_track") (st := Lw.s_turned_track) (ps := ["track", "k"]) KX G (by k_is) (by k_is) (by k_is) (by k_is) (fun _ _ _ _ _ _ us hl => match us, hl with | [_, _], _ => rfl)
    have d_gap_of := Dn.Df.mk1 (x := "gap_of") (st := Lw.s_gap_of) (ps := ["piece", "heading"]) KX G (by k_is) (by k_is) (by k_is) (by k_is) (fun _ _ _ _ _ _ us hl => match us, hl with | [_, _], _ => rfl)
    have d_sums_of := Dn.Df.mk1 (x := "sums_of") (st := Lw.s_sums_of) (ps := ["track"]) KX G (by k_is) (by k_is) (by k_is) (by k_is) (fun _ _ _ _ _ _ us hl => match us, hl with | [_], _ => rfl)
    have d_opposite_less := Dn.Df.mk1 (x := "opposite_less") (st := Lw.s_opposite_less) (ps := ["row"]) KX G (by k_is) (by k_is) (by k_is) (by k_is) (fun _ _ _ _ _ _ us hl => match us, hl with | [_], _ => rfl)
    have d_balance_of := Dn.Df.mk1 (x := "balance_of") (st := Lw.s_balance_of) (ps := ["sums"]) KX G (by k_is) (by k_is) (by k_is) (by k_is) (fun _ _ _ _ _ _ us hl => match us, hl with | [_], _ => rfl)
    have d_is_balanced := Dn.Df.mk1 (x := "is_balanced") (st := Lw.s_is_balanced) (ps := ["balance"]) KX G (by k_is) (by k_is) (by k_is) (by k_is) (fun _ _ _ _ _ _ us hl => match us, hl with | [_], _ => rfl)
    have d__law_mix := Dn.Df.mk1 (x := "_law_mix") (st := Lw.s__law_mix) (ps := ["number"]) KX G (by k_is) (by k_is) (by k_is) (by k_is) (fun _ _ _ _ _ _ us hl => match us, hl with | [_], _ => rfl)
    have d__law_tape := Dn.Df.mk1 (x := "_law_tape") (st := Lw.s__law_tape) (ps := ["script"]) KX G (by k_is) (by k_is) (by k_is) (by k_is) (fun _ _ _ _ _ _ us hl => match us, hl with | [_], _ => rfl)
    have d__law_take := Dn.Df.mk1 (x := "_law_take") (st := Lw.s__law_take) (ps := ["tape", "many"]) KX G (by k_is) (by k_is) (by k_is) (by k_is) (fun _ _ _ _ _ _ us hl => match us, hl with | [_, _], _ => rfl)
    have d__law_same := Dn.Df.mk1 (x := "_law_same") (st := Lw.s__law_same) (ps := ["a", "b"]) KX G (by k_is) (by k_is) (by k_is) (by k_is) (fun _ _ _ _ _ _ us hl => match us, hl with | [_, _], _ => rfl)
    have d__law_turned := Dn.Df.mk1 (x := "_law_turned") (st := Lw.s__law_turned) (ps := ["spot", "k"]) KX G (by k_is) (by k_is) (by k_is) (by k_is) (fun _ _ _ _ _ _ us hl => match us, hl with | [_, _], _ => rfl)
    have d__law_behind := Dn.Df.mk1 (x := "_law_behind") (st := Lw.s__law_behind) (ps := ["pose", "piece"]) KX G (by k_is) (by k_is) (by k_is) (by k_is) (fun _ _ _ _ _ _ us hl => match us, hl with | [_, _], _ => rfl)
    have d__law_after := Dn.Df.mk1 (x := "_law_after") (st := Lw.s__law_after) (ps := ["track"]) KX G (by k_is) (by k_is) (by k_is) (by k_is) (fun _ _ _ _ _ _ us hl => match us, hl with | [_], _ => rfl)
    have d__law_piece := Dn.Df.mk1 (x := "_law_piece") (st := Lw.s__law_piece) (ps := ["tape", "most"]) KX G (by k_is) (by k_is) (by k_is) (by k_is) (fun _ _ _ _ _ _ us hl => match us, hl with | [_, _], _ => rfl)
    have d__law_sums := Dn.Df.mk1 (x := "_law_sums") (st := Lw.s__law_sums) (ps := ["track"]) KX G (by k_is) (by k_is) (by k_is) (by k_is) (fun _ _ _ _ _ _ us hl => match us, hl with | [_], _ => rfl)
    have d__law_circle := Dn.Df.mk1 (x := "_law_circle") (st := Lw.s__law_circle) (ps := ["tape"]) KX G (by k_is) (by k_is) (by k_is) (by k_is) (fun _ _ _ _ _ _ us hl => match us, hl with | [_], _ => rfl)
    have d_law := Dn.Df.mk1 (x := "law") (st := Lw.s_law) (ps := ["script"]) KX G (by k_is) (by k_is) (by k_is) (by k_is) (fun _ _ _ _ _ _ us hl => match us, hl with | [_], _ => rfl)
    have k_FIRST_POSE := Dn.Kon.of (x := "FIRST_POSE") (d := Lb.k_FIRST_POSE) KX G (by k_is) (.tup (by k_is) (.cons (.tup (by k_is) (.cons (.int _ _) (.cons (.int _ _) (.cons (.int _ _) (.cons (.int _ _) .nil))))) (.cons (.int _ _) .nil))) (by decide +kernel)
    have k_HALF := Dn.Kon.of (x := "HALF") (d := Lw.k_HALF) KX G (by k_is) (.int _ _) (by decide +kernel)
    have k_HEADINGS := Dn.Kon.of (x := "HEADINGS") (d := Lb.k_HEADINGS) KX G (by k_is) (.int _ _) (by decide +kernel)
    have z_all := PySem.W.mg_none_of (n := "all") KX G (by k_is)
    have z_any := PySem.W.mg_none_of (n := "any") KX G (by k_is)
    have z_bool := PySem.W.mg_none_of (n := "bool") KX G (by k_is)
    have z_int := PySem.W.mg_none_of (n := "int") KX G (by k_is)
    have z_isinstance := PySem.W.mg_none_of (n := "isinstance") KX G (by k_is)
    have z_len := PySem.W.mg_none_of (n := "len") KX G (by k_is)
    have z_list := PySem.W.mg_none_of (n := "list") KX G (by k_is)
    have z_range := PySem.W.mg_none_of (n := "range") KX G (by k_is)
    have z_str := PySem.W.mg_none_of (n := "str") KX G (by k_is)
    have z_tuple := PySem.W.mg_none_of (n := "tuple") KX G (by k_is)
    have z_zip := PySem.W.mg_none_of (n := "zip") KX G (by k_is)
    exact Lw.law_fd KX G hmg ⟨d_added, d_taken_off, d_turned_spot, d_along, d_turn_of, d_step_of, d_pose_behind, d_poses_along, d_pose_after, d_is_closed, d_turned_track, d_gap_of, d_sums_of, d_opposite_less, d_balance_of, d_is_balanced, d__law_mix, d__law_tape, d__law_take, d__law_same, d__law_turned, d__law_behind, d__law_after, d__law_piece, d__law_sums, d__law_circle, d_law, k_FIRST_POSE, k_HALF, k_HEADINGS, z_all, z_any, z_bool, z_int, z_isinstance, z_len, z_list, z_range, z_str, z_tuple, z_zip⟩ (by k_is) (by k_is) (by k_is) (by k_is)
#print axioms PySem.Challenge.cw_loopsclosed_k06_whole_sums_and_balances_holds
